import Derived.Test.YtbblpokfbmekfaaGreatGs
set_option linter.unusedVariables false
namespace Go.Proofs.YtbblpokfbmekfaaGreat
noncomputable section
structure TN where
 fID:Int
 fLevel:Int
 fCost:Int
 deriving DecidableEq
instance:Inhabited TN:=⟨⟨default,default,default⟩⟩
def TNode_rg (x:TN):Prop:=Rg_i64 x.fID∧Rg_i64 x.fLevel∧Rg_i64 x.fCost
structure TH where
 fFrom:Int
 fTo:Int
 deriving DecidableEq
instance:Inhabited TH:=⟨⟨default,default⟩⟩
def THop_rg (x:TH):Prop:=Rg_i64 x.fFrom∧Rg_i64 x.fTo
structure TC where
 fID:Int
 fO:(List TH)
 deriving DecidableEq
instance:Inhabited TC:=⟨⟨default,default⟩⟩
def TClaim_rg (x:TC):Prop:=Rg_i64 x.fID∧(j3 THop_rg x.fO)
structure TL where
 fNo:(List TN)
 fC:(List TC)
 deriving DecidableEq
instance:Inhabited TL:=⟨⟨default,default⟩⟩
def qT (x:TL):Prop:=(j3 TNode_rg x.fNo)∧(j3 TClaim_rg x.fC)
structure TRatio where
 fNum:Int
 fDen:Int
 deriving DecidableEq
instance:Inhabited TRatio:=⟨⟨default,default⟩⟩
def TRatio_rg (x:TRatio):Prop:=Rg_i64 x.fNum∧Rg_i64 x.fDen
structure Tasking where
 f_id:Int
 f_left:Int
 deriving DecidableEq
instance:Inhabited Tasking:=⟨⟨default,default⟩⟩
def Tasking_rg (x:Tasking):Prop:=Rg_i64 x.f_id∧Rg_i64 x.f_left
structure TTwo where
 fA:(List Int)
 fB:(List Int)
 fE:Int
 deriving DecidableEq
instance:Inhabited TTwo:=⟨⟨default,default,default⟩⟩
def TTwo_rg (x:TTwo):Prop:=(j3 Rg_i64 x.fA)∧(j3 Rg_i64 x.fB)∧Rg_i64 x.fE
structure TBill where
 fL:(List Int)
 fN:Int
 fE:Int
 deriving DecidableEq
instance:Inhabited TBill:=⟨⟨default,default,default⟩⟩
def TBill_rg (x:TBill):Prop:=(j3 Rg_i64 x.fL)∧Rg_i64 x.fN∧Rg_i64 x.fE
structure TInts where
 fL:(List Int)
 fE:Int
 deriving DecidableEq
instance:Inhabited TInts:=⟨⟨default,default⟩⟩
def TInts_rg (x:TInts):Prop:=(j3 Rg_i64 x.fL)∧Rg_i64 x.fE
structure TTrace where
 fCase:(List Int)
 fC:(List Int)
 deriving DecidableEq
instance:Inhabited TTrace:=⟨⟨default,default⟩⟩
def TTrace_rg (x:TTrace):Prop:=(j3 Rg_i64 x.fCase)∧(j3 Rg_i64 x.fC)
structure TMade where
 fL:TL
 fE:Int
 deriving DecidableEq
instance:Inhabited TMade:=⟨⟨default,default⟩⟩
def TMade_rg (x:TMade):Prop:=(j3 TNode_rg x.fL.fNo)∧(j3 TClaim_rg x.fL.fC)∧Rg_i64 x.fE
def aQ (p0:(List TN)) (p1:TN→Option Bool) (s2:(Int × Int)):Option ((Int × Int) ⊕ ((Int × Int) ⊕ (Int × Int))) :=
 (if decide (s2.2<(p0.length:Int))=true then ac ((0:Int)≤s2.2∧s2.2<(p0.length:Int)) (((p1 (TN.mk ((rdL p0 s2.2).fID) ((rdL p0 s2.2).fLevel) ((rdL p0 s2.2).fCost))).bind fun y6=>(if y6=true then some (.inr (.inl (s2.2,s2.2)))else some (.inl (s2.1,w64 (s2.2+1))))))else some (.inr (.inr (s2.1,s2.2))))
def be (p0:(List TN)) (p1:TN→Option Bool):Option Int :=
 ((aK (aQ p0 p1) (0,0)).bind fun u3=>match u3 with|(.inl u10)=>some u10.1|(.inr u11)=>some (-1))
def dT (p0:TN) (cap0:Int):Option Bool :=
 some (p0.fID==cap0)
def bV (p0:TL) (p1:Int):Option Int :=
 ((be p0.fNo (fun x3=>dT x3 p1)).bind fun y4=>some y4)
def aM (p0:(List TC)) (p1:TC→Option Bool) (s2:(Int × Int)):Option ((Int × Int) ⊕ ((Int × Int) ⊕ (Int × Int))) :=
 (if decide (s2.2<(p0.length:Int))=true then ac ((0:Int)≤s2.2∧s2.2<(p0.length:Int)) (((p1 (TC.mk ((rdL p0 s2.2).fID) ((rdL p0 s2.2).fO))).bind fun y6=>(if y6=true then some (.inr (.inl (s2.2,s2.2)))else some (.inl (s2.1,w64 (s2.2+1))))))else some (.inr (.inr (s2.1,s2.2))))
def aR (p0:(List TC)) (p1:TC→Option Bool):Option Int :=
 ((aK (aM p0 p1) (0,0)).bind fun u3=>match u3 with|(.inl u10)=>some u10.1|(.inr u11)=>some (-1))
def dM (p0:TC) (cap0:Int):Option Bool :=
 some (p0.fID==cap0)
def cZ (p0:TL) (p1:Int):Option Int :=
 ((aR p0.fC (fun x3=>dM x3 p1)).bind fun y4=>some y4)
def co (p0:Int) (p1:Int) (p2:Int):Option Bool :=
 some ((decide (p1≤p0))&&(decide (p0≤p2)))
def bk (p0:(List TH)) (p1:TH) (s3:(Int × Int)):Option ((Int × Int) ⊕ ((Int × Int) ⊕ (Int × Int))) :=
 (if decide (s3.2<(p0.length:Int))=true then ac ((0:Int)≤s3.2∧s3.2<(p0.length:Int)) ((if((p1.fFrom==(rdL p0 s3.2).fFrom)&&(p1.fTo==(rdL p0 s3.2).fTo))=true then some (.inr (.inl (s3.2,s3.2)))else some (.inl (s3.1,w64 (s3.2+1)))))else some (.inr (.inr (s3.1,s3.2))))
def bZ (p0:(List TH)) (p1:TH):Option Int :=
 ((aK (bk p0 p1) (0,0)).bind fun u4=>match u4 with|(.inl u9)=>some u9.1|(.inr u10)=>some (-1))
def bE (p0:(List TH)) (p1:TH):Option Bool :=
 ((bZ p0 p1).bind fun y2=>some (decide (0≤y2)))
def ct (p0:TL) (p1:(List TH)) (s6:(Bool × Int)):Option ((Bool × Int) ⊕ ((Bool × Int) ⊕ (Bool × Int))) :=
 (if decide (s6.2<(p1.length:Int))=true then ac ((0:Int)≤s6.2∧s6.2<(p1.length:Int)) (((bV p0 ((rdL p1 s6.2).fFrom)).bind fun y11=>((bV p0 ((rdL p1 s6.2).fTo)).bind fun y13=>((if((decide (y11<0))||(decide (y13<0)))=true then(some (true))else(ac ((0:Int)≤y11∧y11<(p0.fNo.length:Int)) (ac ((0:Int)≤y13∧y13<(p0.fNo.length:Int)) (some (decide ((rdL p0.fNo y13).fLevel≤(rdL p0.fNo y11).fLevel)))))).bind fun b17=>((if b17=true then(some (true))else(ac ((0:Int)≤s6.2∧s6.2≤(p1.length:Int)) (((bE (p1.take (Int.toNat s6.2)) (TH.mk ((rdL p1 s6.2).fFrom) ((rdL p1 s6.2).fTo))).bind fun y24=>some (y24))))).bind fun b20=>(if b20=true then some (.inr (.inl (false,s6.2)))else some (.inl (s6.1,w64 (s6.2+1)))))))))else some (.inr (.inr (s6.1,s6.2))))
def eB (p0:TL) (p1:(List TH)):Option Bool :=
 ((co (p1.length:Int) 1 4).bind fun y2=>(if(!y2)=true then some false else((aK (ct p0 p1) (false,0)).bind fun u7=>match u7 with|(.inl u29)=>some u29.1|(.inr u30)=>some true)))
def dl (p0:TL) (s5:(Int × Int)):Option ((Int × Int) ⊕ ((Int × Int) ⊕ (Int × Int))) :=
 (if decide (s5.2<(p0.fNo.length:Int))=true then ac ((0:Int)≤s5.2∧s5.2<(p0.fNo.length:Int)) (((co ((rdL p0.fNo s5.2).fID) 1 1099511627776).bind fun y10=>((if(!y10)=true then(some (true))else((co ((rdL p0.fNo s5.2).fLevel) 0 9).bind fun y24=>some ((!y24)))).bind fun b13=>((if b13=true then(some (true))else((co ((rdL p0.fNo s5.2).fCost) 0 1073741824).bind fun y22=>some ((!y22)))).bind fun b16=>(if b16=true then some (.inr (.inl (1,s5.2)))else((bV p0 ((rdL p0.fNo s5.2).fID)).bind fun y19=>(if decide (y19<s5.2)=true then some (.inr (.inl (6,s5.2)))else some (.inl (s5.1,w64 (s5.2+1))))))))))else some (.inr (.inr (s5.1,s5.2))))
def dh (p0:TL) (s30:(Int × Int × Int)):Option ((Int × Int × Int) ⊕ ((Int × Int × Int) ⊕ (Int × Int × Int))) :=
 (if decide (s30.2.2<(p0.fC.length:Int))=true then ac ((0:Int)≤s30.2.2∧s30.2.2<(p0.fC.length:Int)) (((co ((rdL p0.fC s30.2.2).fID) 1 1099511627776).bind fun y35=>((if(!y35)=true then(some (true))else((eB p0 ((rdL p0.fC s30.2.2).fO)).bind fun y44=>some ((!y44)))).bind fun b38=>(if b38=true then some (.inr (.inl (1,s30.2.1,s30.2.2)))else((cZ p0 ((rdL p0.fC s30.2.2).fID)).bind fun y41=>(if decide (y41<s30.2.2)=true then some (.inr (.inl (6,s30.2.1,s30.2.2)))else some (.inl (s30.1,min (w64 (s30.2.1*(((rdL p0.fC s30.2.2).fO.length:Nat):Int))) 4097,w64 (s30.2.2+1)))))))))else some (.inr (.inr (s30.1,s30.2.1,s30.2.2))))
def cf (p0:TL):Option Int :=
 (if((decide (60<(p0.fNo.length:Int)))||(decide (80<(p0.fC.length:Int))))=true then some 2 else((aK (dl p0) (0,0)).bind fun u6=>match u6 with|(.inl u27)=>some u27.1|(.inr u28)=>((aK (dh p0) (u28.1,1,0)).bind fun u31=>match u31 with|(.inl u47)=>some u47.1|(.inr u48)=>(if decide (4096<u48.2.1)=true then some 2 else some 0))))
def da (p0:Int):Option Bool :=
 some (p0 !=p0)
def jQ (p0:Int) (p1:Int):Option Bool :=
 ((da p0).bind fun y1=>((if y1=true then((da p1).bind fun y7=>some ((!y7)))else(some (false))).bind fun b4=>some (b4||(decide (p0<p1)))))
def aV (p0:(List Int)) (p1:Int) (s8:(Int × (List Int))):Option ((Int × (List Int)) ⊕ (Int × (List Int))) :=
 ((if decide (p1<s8.1)=true then(ac ((0:Int)≤s8.1∧s8.1<(p0.length:Int)) (ac ((0:Int)≤w64 (s8.1-1)∧w64 (s8.1-1)<(p0.length:Int)) (((jQ (rdL s8.2 s8.1) (rdL s8.2 (w64 (s8.1-1)))).bind fun y21=>some (y21)))))else(some (false))).bind fun b11=>(if b11=true then ac ((0:Int)≤w64 (s8.1-1)∧w64 (s8.1-1)<(p0.length:Int)) (ac ((0:Int)≤s8.1∧s8.1<(p0.length:Int)) (ac ((0:Int)≤s8.1∧s8.1<(p0.length:Int)) (ac ((0:Int)≤w64 (s8.1-1)∧w64 (s8.1-1)<(p0.length:Int)) (some (.inl (w64 (s8.1-1),((s8.2.set (Int.toNat s8.1) (rdL s8.2 (w64 (s8.1-1)))).set (Int.toNat (w64 (s8.1-1))) (rdL s8.2 s8.1))))))))else some (.inr (s8.1,s8.2))))
def aE (p0:(List Int)) (p1:Int) (p2:Int) (s3:(Int × (List Int))):Option ((Int × (List Int)) ⊕ (Int × (List Int))) :=
 (if decide (s3.1<p2)=true then((aK (aV p0 p1) (s3.1,s3.2)).bind fun u9=>some (.inl (w64 (s3.1+1),u9.2)))else some (.inr (s3.1,s3.2)))
def bw (p0:(List Int)) (p1:Int) (p2:Int):Option (List Int) :=
 ((aK (aE p0 p1 p2) (w64 (p1+1),p0)).bind fun u4=>some u4.2)
def lenv (x:Int):Int:=if x<1 then 0 else if x<2 then 1 else if x<4 then 2 else if x<8 then 3 else 4
def iS (p0:Int):Option Int:=ac (0≤p0∧p0<16) (some (w64 (0+lenv p0)))
def kn (p0:Int):Option Int :=
 ((iS p0).bind fun y1=>some y1)
def cA (s3:(Int × Int × Int × Bool × Bool × (List Int))):Option ((Int × Int × Int × Bool × Bool × (List Int)) ⊕ (Int × Int × Int × Bool × Bool × (List Int))) :=
 ac (decide (w64 (s3.2.1-s3.1)≤12)=true) (((bw s3.2.2.2.2.2 s3.1 s3.2.1).bind fun y6=>some (.inr (s3.1,s3.2.1,s3.2.2.1,s3.2.2.2.1,s3.2.2.2.2.1,y6))))
def c9 (p0:(List Int)) (p1:Int) (p2:Int) (p3:Int):Option (List Int) :=
 ((aK (cA) (p1,p2,p3,true,true,p0)).bind fun u4=>some u4.2.2.2.2.2)
def bQ (p0:(List Int)):Option (List Int):=ac (p0.length≤12) (some (srtI p0))
def bp (p0:(List (Int × Bool))):Option (List Int):=ac (p0.length≤1000000∧(iw p0).length≤12∧p0.all (fun p=>dA p.1)=true) (some (iw p0))
def iL (p0:TL) (p1:Int) (s5:(Int × (List (Int × Bool)))):Option ((Int × (List (Int × Bool))) ⊕ (Int × (List (Int × Bool)))) :=
 (if decide (s5.1<(p0.fNo.length:Int))=true then ac ((0:Int)≤s5.1∧s5.1<(p0.fNo.length:Int)) ((if(((rdL p0.fNo s5.1).fLevel)==p1)=true then ac (dA ((rdL p0.fNo s5.1).fID)=true∧List.length s5.2<1000000000) (some (.inl (w64 (s5.1+1),(((rdL p0.fNo s5.1).fID,true)::s5.2))))else some (.inl (w64 (s5.1+1),s5.2))))else some (.inr (s5.1,s5.2)))
def jW (p0:TL) (p1:Int):Option (List (Int × Bool)) :=
 ((aK (iL p0 p1) (0,[])).bind fun u6=>some u6.2)
def gR (p0:TL):Option (List Int) :=
 ((jW p0 0).bind fun y2=>((bp y2).bind fun y5=>some y5))
def cq (l:TL):Prop:=l.fC.length≤1000∧∀x∈l.fC,0<x.fO.length∧x.fO.length≤1000
instance (l:TL):Decidable (cq l):=by unfold cq;infer_instance
def sKs (l:TL):List Nat:=l.fC.map fun x=>x.fO.length
def sCs (l:TL):List (List Int):=rS (sKs l)
def fa (cap0:TL) (s10:(Int × (List Int))):Option ((Int × (List Int)) ⊕ (Int × (List Int))) :=
 ((if decide (0≤s10.1)=true then(ac ((0:Int)≤s10.1∧s10.1<(cap0.fC.length:Int)) (ac ((0:Int)≤s10.1∧s10.1<(cap0.fC.length:Int)) (some (((w64 ((rdL s10.2 s10.1)+1))==(((rdL cap0.fC s10.1).fO.length:Nat):Int))))))else(some (false))).bind fun b13=>(if b13=true then ac ((0:Int)≤s10.1∧s10.1<(cap0.fC.length:Int)) (some (.inl (w64 (s10.1-1),(s10.2.set (Int.toNat s10.1) 0))))else some (.inr (s10.1,s10.2))))
def dn (p0:TL):Option Unit :=
 some ()
def aJ (p0:(List Int)) (p1:Int) (p3:Int→Int→Option Int) (s8:(Int × (List Int))):Option ((Int × (List Int)) ⊕ (Int × (List Int))) :=
 ((if decide (p1<s8.1)=true then(ac ((0:Int)≤s8.1∧s8.1<(p0.length:Int)) (ac ((0:Int)≤w64 (s8.1-1)∧w64 (s8.1-1)<(p0.length:Int)) (((p3 (rdL s8.2 s8.1) (rdL s8.2 (w64 (s8.1-1)))).bind fun y21=>some (decide (y21<0))))))else(some (false))).bind fun b11=>(if b11=true then ac ((0:Int)≤w64 (s8.1-1)∧w64 (s8.1-1)<(p0.length:Int)) (ac ((0:Int)≤s8.1∧s8.1<(p0.length:Int)) (ac ((0:Int)≤s8.1∧s8.1<(p0.length:Int)) (ac ((0:Int)≤w64 (s8.1-1)∧w64 (s8.1-1)<(p0.length:Int)) (some (.inl (w64 (s8.1-1),((s8.2.set (Int.toNat s8.1) (rdL s8.2 (w64 (s8.1-1)))).set (Int.toNat (w64 (s8.1-1))) (rdL s8.2 s8.1))))))))else some (.inr (s8.1,s8.2))))
def ay (p0:(List Int)) (p1:Int) (p2:Int) (p3:Int→Int→Option Int) (s3:(Int × (List Int))):Option ((Int × (List Int)) ⊕ (Int × (List Int))) :=
 (if decide (s3.1<p2)=true then((aK (aJ p0 p1 p3) (s3.1,s3.2)).bind fun u9=>some (.inl (w64 (s3.1+1),u9.2)))else some (.inr (s3.1,s3.2)))
def aT (p0:(List Int)) (p1:Int) (p2:Int) (p3:Int→Int→Option Int):Option (List Int) :=
 ((aK (ay p0 p1 p2 p3) (w64 (p1+1),p0)).bind fun u4=>some u4.2)
def bu (p1:Int) (s2:(Int × Int)):Option ((Int × Int) ⊕ (Int × Int)) :=
 ac (decide (s2.2≤p1)=false) (some (.inr (s2.1,s2.2)))
def bq (p1:Int) (s10:(Int × Int × Int)):Option ((Int × Int × Int) ⊕ (Int × Int × Int)) :=
 ac (decide (s10.1<p1)=false) (some (.inr (s10.1,s10.2.1,s10.2.2)))
def bO (p0:(List Int)) (p1:Int) (p2:Int→Int→Option Int):Option (List Int) :=
 ((aK (bu p1) (0,20)).bind fun u3=>((aT p0 u3.1 p1 p2).bind fun y6=>((aK (bq p1) (20,u3.1,u3.2)).bind fun u11=>some y6)))
def bg (p0:(List Int)) (p1:Int→Int→Option Int):Option (List Int) :=
 ((bO p0 (p0.length:Int) p1).bind fun y1=>some y1)
def dP (p0:Int) (p1:Int):Option Int :=
 ((da p0).bind fun y1=>((da p1).bind fun y3=>(if y1=true then(if y3=true then some 0 else some (-1))else(if y3=true then some 1 else(if decide (p0<p1)=true then some (-1)else(if decide (p1<p0)=true then some 1 else some 0))))))
def dq (p0:Int) (p1:Int) (cap0:TL):Option Int :=
 ac ((0:Int)≤p0∧p0<(cap0.fNo.length:Int)) (ac ((0:Int)≤p1∧p1<(cap0.fNo.length:Int)) (((dP ((rdL cap0.fNo p0).fLevel) ((rdL cap0.fNo p1).fLevel)).bind fun y3=>some y3)))
def cQ (p0:TL) (s6:(Int × (List Int))):Option ((Int × (List Int)) ⊕ (Int × (List Int))) :=
 (if decide (s6.1<((Int.toNat (p0.fNo.length:Int):Nat):Int))=true then ac ((0:Int)≤s6.1∧s6.1<((Int.toNat (p0.fNo.length:Int):Nat):Int)) (some (.inl (w64 (s6.1+1),(s6.2.set (Int.toNat s6.1) s6.1))))else some (.inr (s6.1,s6.2)))
def ft (p0:TL):Option (List Int) :=
 ac ((0:Int)≤(p0.fNo.length:Int)∧(p0.fNo.length:Int)*8≤281474976710656) (((aK (cQ p0) (0,(List.replicate (Int.toNat (p0.fNo.length:Int)) 0))).bind fun u7=>((bg u7.2 (fun x11 x12=>dq x11 x12 p0)).bind fun y13=>some y13)))
def dp (p0:TL) (p2:Int→Int→Option Bool) (s5:(Int × (List (Int × (List Int))))) (s12:(Int × (List (Int × (List Int))))):Option ((Int × (List (Int × (List Int)))) ⊕ (Int × (List (Int × (List Int))))) :=
 (if decide (s12.1<(((rdL p0.fC s5.1).fO.length:Nat):Int))=true then ac ((0:Int)≤s12.1∧s12.1<(((rdL p0.fC s5.1).fO.length:Nat):Int)) (((p2 s5.1 s12.1).bind fun y17=>(if y17=true then ac (dA ((rdL ((rdL p0.fC s5.1).fO) s12.1).fFrom)=true) (ac ((ax [] s12.2 ((rdL ((rdL p0.fC s5.1).fO) s12.1).fFrom)).length+1≤1000000000) (ac (dA ((rdL ((rdL p0.fC s5.1).fO) s12.1).fFrom)=true∧List.length s12.2<1000000000) (some (.inl (w64 (s12.1+1),(((rdL ((rdL p0.fC s5.1).fO) s12.1).fFrom,((ax [] s12.2 ((rdL ((rdL p0.fC s5.1).fO) s12.1).fFrom))++[(rdL ((rdL p0.fC s5.1).fO) s12.1).fTo]))::s12.2))))))else some (.inl (w64 (s12.1+1),s12.2)))))else some (.inr (s12.1,s12.2)))
def dg (p0:TL) (p2:Int→Int→Option Bool) (s5:(Int × (List (Int × (List Int))))):Option ((Int × (List (Int × (List Int)))) ⊕ (Int × (List (Int × (List Int))))) :=
 (if decide (s5.1<(p0.fC.length:Int))=true then ac ((0:Int)≤s5.1∧s5.1<(p0.fC.length:Int)) (((aK (dp p0 p2 s5) (0,s5.2)).bind fun u13=>some (.inl (w64 (s5.1+1),u13.2))))else some (.inr (s5.1,s5.2)))
def dQ (p1:(List Int)) (s32:(Int × (List (Int × Bool)))):Option ((Int × (List (Int × Bool))) ⊕ (Int × (List (Int × Bool)))) :=
 (if decide (s32.1<(p1.length:Int))=true then ac ((0:Int)≤s32.1∧s32.1<(p1.length:Int)) (ac (dA (rdL p1 s32.1)=true∧List.length s32.2<1000000000) (some (.inl (w64 (s32.1+1),(((rdL p1 s32.1),true)::s32.2)))))else some (.inr (s32.1,s32.2)))
def dR (p0:TL) (u6:(Int × (List (Int × (List Int))))) (y38:(List Int)) (s46:(Int × (List (Int × Bool)))) (s56:(Int × (List (Int × Bool)))):Option ((Int × (List (Int × Bool))) ⊕ (Int × (List (Int × Bool)))) :=
 (if decide (s56.1<(((ax [] u6.2 ((rdL p0.fNo (rdL y38 s46.1)).fID)).length:Nat):Int))=true then ac ((0:Int)≤s56.1∧s56.1<(((ax [] u6.2 ((rdL p0.fNo (rdL y38 s46.1)).fID)).length:Nat):Int)) (ac (dA (rdL (ax [] u6.2 ((rdL p0.fNo (rdL y38 s46.1)).fID)) s56.1)=true∧List.length s56.2<1000000000) (some (.inl (w64 (s56.1+1),(((rdL (ax [] u6.2 ((rdL p0.fNo (rdL y38 s46.1)).fID)) s56.1),true)::s56.2)))))else some (.inr (s56.1,s56.2)))
def dm (p0:TL) (u6:(Int × (List (Int × (List Int))))) (y38:(List Int)) (s46:(Int × (List (Int × Bool)))):Option ((Int × (List (Int × Bool))) ⊕ (Int × (List (Int × Bool)))) :=
 (if decide (s46.1<(y38.length:Int))=true then ac ((0:Int)≤s46.1∧s46.1<(y38.length:Int)) (ac ((0:Int)≤(rdL y38 s46.1)∧(rdL y38 s46.1)<(p0.fNo.length:Int)) (ac (dA ((rdL p0.fNo (rdL y38 s46.1)).fID)=true) ((if(!(ax false s46.2 ((rdL p0.fNo (rdL y38 s46.1)).fID)))=true then some (.inl (w64 (s46.1+1),s46.2))else ac (dA ((rdL p0.fNo (rdL y38 s46.1)).fID)=true) (((aK (dR p0 u6 y38 s46) (0,s46.2)).bind fun u57=>some (.inl (w64 (s46.1+1),u57.2))))))))else some (.inr (s46.1,s46.2)))
def rcR (p0:TL) (p1:(List Int)) (p2:Int→Int→Option Bool):Option (List (Int × Bool)) :=
 ((aK (dg p0 p2) (0,([]:(List (Int × (List Int)))))).bind fun u6=>((aK (dQ p1) (0,[])).bind fun u33=>((ft p0).bind fun y38=>((aK (dm p0 u6 y38) (0,u33.2)).bind fun u47=>some u47.2))))
def bf (p0:(List Int)) (p1:Int) (p2:Int):Option Bool :=
 ac ((0:Int)≤p1∧p1<(p0.length:Int)) (some ((rdL p0 p1)==p2))
def dE (p0:(List Int)):Option Unit :=
 some ()
def dw (p0:TL) (p1:(List Int)) (s18:(List (Int × Bool))) (x19:(List Int)):Option ((List (Int × Bool)) ⊕ Unit) :=
 ((dE x19).bind fun y21=>((rcR p0 p1 (fun x23 x24=>bf x19 x23 x24)).bind fun y25=>ac (List.length s18+List.length y25≤1000000) (some (.inl (lq true y25 s18)))))
def bI (p0:TL) (p1:(List Int)):Option (List (Int × Bool)) :=
 ((dn p0).bind fun y5=>(ac (cq p0) ((gE (dw p0 p1) (sCs p0) []).bind fun u20=>match u20 with|.inl u45=>some u45|.inr _=>none)))
def fP (p0:TL) (p1:(List Int)) (s20:(List (Int × Bool))) (x21:(List Int)):Option ((List (Int × Bool)) ⊕ Unit) :=
 ((dE x21).bind fun y23=>((rcR p0 p1 (fun x25 x26=>bf x21 x25 x26)).bind fun y27=>some (.inl (s20.filter (fun p => !(fun y33=>(!(ax false y27 y33))) p.1)))))
def eI (p0:TL) (p1:(List Int)):Option (List (Int × Bool)) :=
 ((bI p0 p1).bind fun y3=>((dn p0).bind fun y7=>(ac (cq p0) ((gE (fP p0 p1) (sCs p0) y3).bind fun u22=>match u22 with|.inl u48=>some u48|.inr _=>none))))
def gw (p0:TL) (p1:Int) (y8:(List Int)) (s16:(Int × (List Int) × (List Int))):Option ((Int × (List Int) × (List Int)) ⊕ (Int × (List Int) × (List Int))) :=
 (if decide (s16.1<(y8.length:Int))=true then ac ((0:Int)≤s16.1∧s16.1<(y8.length:Int)) (((eI p0 [(rdL y8 s16.1)]).bind fun y21=>ac (dA p1=true) ((if ax false y21 p1=true then ac (s16.2.1.length+1≤1000000000) (((bI p0 [(rdL y8 s16.1)]).bind fun y31=>ac (dA p1=true) ((if ax false y31 p1=true then ac (s16.2.2.length+1≤1000000000) (some (.inl (w64 (s16.1+1),(s16.2.1++[(rdL y8 s16.1)]),(s16.2.2++[(rdL y8 s16.1)]))))else some (.inl (w64 (s16.1+1),(s16.2.1++[(rdL y8 s16.1)]),s16.2.2))))))else((bI p0 [(rdL y8 s16.1)]).bind fun y41=>ac (dA p1=true) ((if ax false y41 p1=true then ac (s16.2.2.length+1≤1000000000) (some (.inl (w64 (s16.1+1),s16.2.1,(s16.2.2++[(rdL y8 s16.1)]))))else some (.inl (w64 (s16.1+1),s16.2.1,s16.2.2)))))))))else some (.inr (s16.1,s16.2.1,s16.2.2)))
def gM (p0:TL) (p1:Int):Option ((List Int) × (List Int) × Int) :=
 ((cf p0).bind fun y2=>(if(y2 !=0)=true then some ([],[],y2)else((bV p0 p1).bind fun y5=>(if decide (y5<0)=true then some ([],[],5)else((gR p0).bind fun y8=>((aK (gw p0 p1 y8) (0,([]:List Int),([]:List Int))).bind fun u17=>some (u17.2.1,u17.2.2,0)))))))
def a7 (p0:(List Int)) (p1:Int→Option Int) (p2:Int→Option Bool) (s2:(Bool × Int)):Option ((Bool × Int) ⊕ ((Bool × Int) ⊕ (Bool × Int))) :=
 (if decide (s2.2<(p0.length:Int))=true then ac ((0:Int)≤s2.2∧s2.2<(p0.length:Int)) (((p1 (rdL p0 s2.2)).bind fun y6=>((p2 y6).bind fun y8=>((if(!y8)=true then(some (true))else((if decide (0<s2.2)=true then((p1 (rdL p0 s2.2)).bind fun y17=>ac ((0:Int)≤w64 (s2.2-1)∧w64 (s2.2-1)<(p0.length:Int)) (((p1 (rdL p0 (w64 (s2.2-1)))).bind fun y20=>some (decide (y17≤y20)))))else(some (false))).bind fun b15=>some (b15))).bind fun b11=>(if b11=true then some (.inr (.inl (false,s2.2)))else some (.inl (s2.1,w64 (s2.2+1))))))))else some (.inr (.inr (s2.1,s2.2))))
def bB (p0:(List Int)) (p1:Int→Option Int) (p2:Int→Option Bool):Option Bool :=
 ((aK (a7 p0 p1 p2) (false,0)).bind fun u3=>match u3 with|(.inl u23)=>some u23.1|(.inr u24)=>some true)
def ed (p0:Int):Option Int :=
 some p0
def dk (p0:Int) (cap0:TL):Option Bool :=
 ((bV cap0 p0).bind fun y1=>some (decide (0≤y1)))
def fh (p0:TL) (p1:(List Int)):Option Bool :=
 ((if decide (0<(p1.length:Int))=true then((bB p1 (fun x5=>ed x5) (fun x6=>dk x6 p0)).bind fun y7=>some (y7))else(some (false))).bind fun b3=>some b3)
def cy (p0:TL) (p1:(List Int)):Option Int :=
 ((cf p0).bind fun y2=>(if(y2 !=0)=true then some y2 else((fh p0 p1).bind fun y5=>(if(!y5)=true then some 1 else some 0))))
def iA (p0:TL) (p1:(List (Int × Bool))) (s5:(Int × Int × (List (Int × Bool)))):Option ((Int × Int × (List (Int × Bool))) ⊕ (Int × Int × (List (Int × Bool)))) :=
 (if decide (s5.2.1<(p0.fNo.length:Int))=true then ac ((0:Int)≤s5.2.1∧s5.2.1<(p0.fNo.length:Int)) (((if(((rdL p0.fNo s5.2.1).fLevel)==9)=true then(ac (dA ((rdL p0.fNo s5.2.1).fID)=true) (some (ax false p1 ((rdL p0.fNo s5.2.1).fID))))else(some (false))).bind fun b11=>(if b11=true then ac (dA ((rdL p0.fNo s5.2.1).fID)=true∧List.length s5.2.2<1000000000) (some (.inl (w64 (s5.1+((rdL p0.fNo s5.2.1).fCost)),w64 (s5.2.1+1),(((rdL p0.fNo s5.2.1).fID,true)::s5.2.2))))else some (.inl (s5.1,w64 (s5.2.1+1),s5.2.2)))))else some (.inr (s5.1,s5.2.1,s5.2.2)))
def ga (p0:TL) (p1:(List (Int × Bool))):Option ((List Int) × Int) :=
 ((aK (iA p0 p1) (0,0,[])).bind fun u6=>((bp u6.2.2).bind fun y17=>some (y17,u6.1)))
def iR (p0:TL) (p1:(List Int)) (p2:Bool):Option ((List Int) × Int × Int) :=
 ((cy p0 p1).bind fun y2=>(if(y2 !=0)=true then some ([],0,y2)else((bI p0 p1).bind fun y5=>(if p2=true then((eI p0 p1).bind fun y9=>((ga p0 y9).bind fun y12=>some (y12.1,y12.2,0)))else((ga p0 y5).bind fun y18=>some (y18.1,y18.2,0))))))
def gq (p0:(List Int)) (p1:(List Int)) (s3:(Bool × Int)):Option ((Bool × Int) ⊕ ((Bool × Int) ⊕ (Bool × Int))) :=
 (if decide (s3.2<(p0.length:Int))=true then ac ((0:Int)≤s3.2∧s3.2<(p0.length:Int)) (ac ((0:Int)≤s3.2∧s3.2<(p1.length:Int)) ((if((rdL p0 s3.2) !=(rdL p1 s3.2))=true then some (.inr (.inl (false,s3.2)))else some (.inl (s3.1,w64 (s3.2+1))))))else some (.inr (.inr (s3.1,s3.2))))
def bS (p0:(List Int)) (p1:(List Int)):Option Bool :=
 (if((p0.length:Int) !=(p1.length:Int))=true then some false else((aK (gq p0 p1) (false,0)).bind fun u4=>match u4 with|(.inl u10)=>some u10.1|(.inr u11)=>some true))
def dJ (p0:TL) (p1:(List Int)) (p2:Int):Option Int :=
 ((cy p0 p1).bind fun y2=>(if(y2 !=0)=true then some y2 else((bV p0 p2).bind fun y5=>(if decide (y5<0)=true then some 5 else some 0))))
def fT (p0:Int) (p1:Int) (cap0:(List Int)) (cap1:Int→Int→Option Bool):Option Bool :=
 ac ((0:Int)≤p0∧p0<(cap0.length:Int)) (((if((rdL cap0 p0)==p1)=true then((cap1 p0 p1).bind fun y5=>some (y5))else(some (false))).bind fun b3=>some b3))
def iB (p0:TL) (p1:(List Int)) (p2:Int) (p3:Int→Int→Option Bool) (s24:Bool) (x25:(List Int)):Option (Bool ⊕ Bool) :=
 ((rcR p0 p1 (fun x28 x29=>fT x28 x29 x25 p3)).bind fun y30=>ac (dA p2=true) ((if ax false y30 p2=true then some (.inr true)else some (.inl s24))))
def ep (p0:TL) (p1:(List Int)) (p2:Int) (p3:Int→Int→Option Bool):Option Bool :=
 ((rcR p0 p1 p3).bind fun y6=>ac (dA p2=true) ((if(!(ax false y6 p2))=true then some false else((dn p0).bind fun y11=>(ac (cq p0) ((gE (iB p0 p1 p2 p3) (sCs p0) false).bind fun u26=>match u26 with|.inl u37=>some false|.inr u38=>some u38))))))
def cU (p0:Int) (p1:Int):Option Bool :=
 some true
def fJ (p0:Int) (p1:Int) (cap0:Int):Option Bool :=
 some (p0 !=cap0)
def iJ (p0:TL) (p1:(List Int)) (p2:Int) (s12:(Int × (List Int))):Option ((Int × (List Int)) ⊕ (Int × (List Int))) :=
 (if decide (s12.1<(p0.fC.length:Int))=true then ac ((0:Int)≤s12.1∧s12.1<(p0.fC.length:Int)) (((ep p0 p1 p2 (fun x18 x19=>fJ x18 x19 s12.1)).bind fun y20=>(if(!y20)=true then ac (s12.2.length+1≤1000000000) (some (.inl (w64 (s12.1+1),(s12.2++[(rdL p0.fC s12.1).fID]))))else some (.inl (w64 (s12.1+1),s12.2)))))else some (.inr (s12.1,s12.2)))
def jI (p0:TL) (p1:(List Int)) (p2:Int):Option ((List Int) × Int) :=
 ((dJ p0 p1 p2).bind fun y2=>(if(y2 !=0)=true then some ([],y2)else((ep p0 p1 p2 (fun x5 x6=>cU x5 x6)).bind fun y7=>(if(!y7)=true then some ([],5)else((aK (iJ p0 p1 p2) (0,([]:List Int))).bind fun u13=>((bQ u13.2).bind fun y28=>some (y28,0)))))))
def bj (p0:(List Int)) (p1:Int) (s2:(Int × Int)):Option ((Int × Int) ⊕ ((Int × Int) ⊕ (Int × Int))) :=
 (if decide (s2.2<(p0.length:Int))=true then ac ((0:Int)≤s2.2∧s2.2<(p0.length:Int)) ((if(p1==(rdL p0 s2.2))=true then some (.inr (.inl (s2.2,s2.2)))else some (.inl (s2.1,w64 (s2.2+1)))))else some (.inr (.inr (s2.1,s2.2))))
def bY (p0:(List Int)) (p1:Int):Option Int :=
 ((aK (bj p0 p1) (0,0)).bind fun u3=>match u3 with|(.inl u8)=>some u8.1|(.inr u9)=>some (-1))
def a5 (p0:(List Int)) (p1:Int):Option Bool :=
 ((bY p0 p1).bind fun y1=>some (decide (0≤y1)))
def fG (p0:Int) (p1:Int) (cap0:TL) (cap1:TN):Option Bool :=
 ac ((0:Int)≤p0∧p0<(cap0.fC.length:Int)) (ac ((0:Int)≤p1∧p1<(((rdL cap0.fC p0).fO.length:Nat):Int)) (some (((rdL ((rdL cap0.fC p0).fO) p1).fTo) !=cap1.fID)))
def iK (p0:TL) (p1:(List Int)) (p2:Int) (s12:(Int × (List Int))):Option ((Int × (List Int)) ⊕ (Int × (List Int))) :=
 (if decide (s12.1<(p0.fNo.length:Int))=true then ac ((0:Int)≤s12.1∧s12.1<(p0.fNo.length:Int)) (((if(((rdL p0.fNo s12.1).fID)==p2)=true then(some (true))else((a5 p1 ((rdL p0.fNo s12.1).fID)).bind fun y30=>some (y30))).bind fun b18=>(if b18=true then some (.inl (w64 (s12.1+1),s12.2))else((ep p0 p1 p2 (fun x21 x22=>fG x21 x22 p0 (TN.mk ((rdL p0.fNo s12.1).fID) ((rdL p0.fNo s12.1).fLevel) ((rdL p0.fNo s12.1).fCost)))).bind fun y23=>(if(!y23)=true then ac (s12.2.length+1≤1000000000) (some (.inl (w64 (s12.1+1),(s12.2++[(rdL p0.fNo s12.1).fID]))))else some (.inl (w64 (s12.1+1),s12.2)))))))else some (.inr (s12.1,s12.2)))
def jV (p0:TL) (p1:(List Int)) (p2:Int):Option ((List Int) × Int) :=
 ((dJ p0 p1 p2).bind fun y2=>(if(y2 !=0)=true then some ([],y2)else((ep p0 p1 p2 (fun x5 x6=>cU x5 x6)).bind fun y7=>(if(!y7)=true then some ([],5)else((aK (iK p0 p1 p2) (0,([]:List Int))).bind fun u13=>((bQ u13.2).bind fun y33=>some (y33,0)))))))
def iG (p0:TL) (p1:(List Int)) (p2:Int) (s23:(Int × Int)) (x24:(List Int)):Option ((Int × Int) ⊕ Unit) :=
 ((dE x24).bind fun y27=>((rcR p0 p1 (fun x29 x30=>bf x24 x29 x30)).bind fun y31=>ac (dA p2=true) ((if ax false y31 p2=true then some (.inl (w64 (s23.1+1),w64 (s23.2+1)))else some (.inl (s23.1,w64 (s23.2+1)))))))
def iv (s40:(Int × Int)):Option ((Int × Int) ⊕ (Int × Int)) :=
 (if decide (0<s40.2)=true then ac (s40.2≠0) (some (.inl (s40.2,Int.tmod s40.1 s40.2)))else some (.inr (s40.1,s40.2)))
def jT (p0:TL) (p1:(List Int)) (p2:Int):Option (TRatio × Int) :=
 ((dJ p0 p1 p2).bind fun y5=>(if(y5 !=0)=true then some ((TRatio.mk 0 0),y5)else((dn p0).bind fun y10=>(ac (cq p0) ((gE (iG p0 p1 p2) (sCs p0) (0,0)).bind fun u25=>match u25 with|.inl u38=>((aK (iv) (u38.1,u38.2)).bind fun u41=>ac (u41.1≠0) (ac (u41.1≠0) (some ((TRatio.mk (w64 (Int.tdiv u38.1 u41.1)) (w64 (Int.tdiv u38.2 u41.1))),0))))|.inr _=>none)))))
def jH (p0:TL) (p1:(List Int)):Option Int :=
 ((bI p0 p1).bind fun y2=>((eI p0 p1).bind fun y5=>((ga p0 (tg y5 y2)).bind fun y23=>some y23.2)))
def bo (p0:(List TH)):Option (List TH) :=
 ac (0+p0.length≤1000000000) (some (([]:List TH)++p0))
def ch (p0:(List TN)):Option (List TN) :=
 ac (0+p0.length≤1000000000) (some (([]:List TN)++p0))
def a8 (p0:(List TC)):Option (List TC) :=
 ac (0+p0.length≤1000000000) (some (([]:List TC)++p0))
def cV (y10:(List TC)) (s22:(Int × (List TC))):Option ((Int × (List TC)) ⊕ (Int × (List TC))) :=
 (if decide (s22.1<(y10.length:Int))=true then ac ((0:Int)≤s22.1∧s22.1<(y10.length:Int)) (((bo ((rdL s22.2 s22.1).fO)).bind fun y26=>ac ((0:Int)≤s22.1∧s22.1<(y10.length:Int)) (some (.inl (w64 (s22.1+1),(s22.2.set (Int.toNat s22.1) (TC.mk ((rdL s22.2 s22.1).fID) y26)))))))else some (.inr (s22.1,s22.2)))
def cH (p0:TL):Option TL :=
 ((ch p0.fNo).bind fun y4=>((a8 p0.fC).bind fun y10=>((aK (cV y10) (0,y10)).bind fun u23=>some (TL.mk y4 u23.2))))
def fj (p0:TL) (p1:Int) (p2:(List TH)):Option TL :=
 ((cH p0).bind fun y3=>((bo p2).bind fun y22=>ac ((0:Int)≤p1∧p1<(y3.fC.length:Int)) (some (TL.mk y3.fNo (y3.fC.set (Int.toNat p1) (TC.mk ((rdL y3.fC p1).fID) y22))))))
def bL (p0:(List Tasking)) (p1:Tasking→Tasking→Option Bool) (s5:(Int × Int × Int)):Option ((Int × Int × Int) ⊕ (Int × Int × Int)) :=
 (if decide (s5.1<(p0.length:Int))=true then ac ((0:Int)≤s5.1∧s5.1<(p0.length:Int)) (((if(s5.1==0)=true then(some (true))else((p1 (Tasking.mk ((rdL p0 s5.1).f_id) ((rdL p0 s5.1).f_left)) (Tasking.mk s5.2.1 s5.2.2)).bind fun y14=>some (y14))).bind fun b11=>(if b11=true then some (.inl (w64 (s5.1+1),(rdL p0 s5.1).f_id,(rdL p0 s5.1).f_left))else some (.inl (w64 (s5.1+1),s5.2.1,s5.2.2)))))else some (.inr (s5.1,s5.2.1,s5.2.2)))
def bv (p0:(List Tasking)) (p1:Tasking→Tasking→Option Bool):Option (Tasking × Bool) :=
 ((aK (bL p0 p1) (0,0,0)).bind fun u6=>some ((Tasking.mk u6.2.1 u6.2.2),decide (0<(p0.length:Int))))
def ib (p0:Tasking) (p1:Tasking):Option Bool :=
 some ((decide (p0.f_left<p1.f_left))||((p0.f_left==p1.f_left)&&(decide (p0.f_id<p1.f_id))))
def kj (p0:TL) (p1:(List Int)) (s7:(Int × (List Tasking))) (s16:(Int × Int)):Option ((Int × Int) ⊕ (Int × Int)) :=
 (if decide (s16.1<(((rdL p0.fC s7.1).fO.length:Nat):Int))=true then ac ((0:Int)≤s16.1∧s16.1≤w64 (s16.1+1)∧w64 (s16.1+1)≤w64 (s16.1+1)∧w64 (s16.1+1)≤(((rdL p0.fC s7.1).fO.length:Nat):Int)) (((fj p0 s7.1 ((((rdL p0.fC s7.1).fO).drop (Int.toNat s16.1)).take (Int.toNat (w64 (s16.1+1))-Int.toNat s16.1))).bind fun y20=>((jH y20 p1).bind fun y34=>some (.inl (w64 (s16.1+1),max s16.2 y34)))))else some (.inr (s16.1,s16.2)))
def km (p0:TL) (p1:(List Int)) (s7:(Int × (List Tasking))):Option ((Int × (List Tasking)) ⊕ (Int × (List Tasking))) :=
 (if decide (s7.1<(p0.fC.length:Int))=true then ac ((0:Int)≤s7.1∧s7.1<(p0.fC.length:Int)) ((if decide ((((rdL p0.fC s7.1).fO.length:Nat):Int)<2)=true then some (.inl (w64 (s7.1+1),s7.2))else((aK (kj p0 p1 s7) (0,0)).bind fun u17=>ac (s7.2.length+1≤1000000000) (some (.inl (w64 (s7.1+1),(s7.2++[(Tasking.mk ((rdL p0.fC s7.1).fID) u17.2)])))))))else some (.inr (s7.1,s7.2)))
def lL (p0:TL) (p1:(List Int)):Option (Int × Int × Int) :=
 ((cy p0 p1).bind fun y2=>(if(y2 !=0)=true then some (0,0,y2)else((aK (km p0 p1) (0,([]:List Tasking))).bind fun u8=>((bv u8.2 (fun x54 x55=>ib x54 x55)).bind fun y56=>(if(!y56.2)=true then some (0,0,5)else some (y56.1.f_id,y56.1.f_left,0))))))
def fQ (p0:Int) (p1:Int) (cap0:(List (Int × Bool))) (cap1:TL):Option Bool :=
 ac ((0:Int)≤p0∧p0<(cap1.fC.length:Int)) (ac (dA ((rdL cap1.fC p0).fID)=true) (some (!(ax false cap0 ((rdL cap1.fC p0).fID)))))
def jM (p0:TL) (p1:(List Int)) (p2:Int) (p3:(List (Int × Bool))):Option Bool :=
 ((ep p0 p1 p2 (fun x3 x4=>fQ x3 x4 p3 p0)).bind fun y5=>some (!y5))
def ko (p0:TL) (s11:(Int × (List (Int × Bool)))):Option ((Int × (List (Int × Bool))) ⊕ (Int × (List (Int × Bool)))) :=
 (if decide (s11.1<(p0.fC.length:Int))=true then ac ((0:Int)≤s11.1∧s11.1<(p0.fC.length:Int)) (ac (dA ((rdL p0.fC s11.1).fID)=true∧List.length s11.2<1000000000) (some (.inl (w64 (s11.1+1),(((rdL p0.fC s11.1).fID,true)::s11.2)))))else some (.inr (s11.1,s11.2)))
def kh (p0:TL) (p1:(List Int)) (p2:Int) (y18:(List Int)) (s26:(Int × (List (Int × Bool)))):Option ((Int × (List (Int × Bool))) ⊕ (Int × (List (Int × Bool)))) :=
 (if decide (s26.1<(y18.length:Int))=true then ac ((0:Int)≤s26.1∧s26.1<(y18.length:Int)) (ac (dA (rdL y18 s26.1)=true∧List.length s26.2<1000000000) (((jM p0 p1 p2 (((rdL y18 s26.1),false)::s26.2)).bind fun y31=>(if(!y31)=true then ac (dA (rdL y18 s26.1)=true∧List.length (((rdL y18 s26.1),false)::s26.2)<1000000000) (some (.inl (w64 (s26.1+1),(((rdL y18 s26.1),true)::(((rdL y18 s26.1),false)::s26.2)))))else some (.inl (w64 (s26.1+1),(((rdL y18 s26.1),false)::s26.2)))))))else some (.inr (s26.1,s26.2)))
def lR (p0:TL) (p1:(List Int)) (p2:Int):Option ((List Int) × Int) :=
 ((dJ p0 p1 p2).bind fun y2=>(if(y2 !=0)=true then some ([],y2)else((a5 p1 p2).bind fun y5=>(if y5=true then some ([],5)else((aK (ko p0) (0,[])).bind fun u12=>((bp u12.2).bind fun y18=>((aK (kh p0 p1 p2 y18) (0,u12.2)).bind fun u27=>((bp u27.2).bind fun y36=>some (y36,0)))))))))
def eu (p0:TL) (p1:(List Int)):Option ((List Int) × Int) :=
 ((cy p0 p1).bind fun y2=>(if(y2 !=0)=true then some ([],y2)else((eI p0 p1).bind fun y5=>((bp y5).bind fun y8=>some (y8,0)))))
def dr (p0:TL) (p1:(List Int)):Option ((List Int) × Int) :=
 ((cy p0 p1).bind fun y2=>(if(y2 !=0)=true then some ([],y2)else((bI p0 p1).bind fun y5=>((bp y5).bind fun y8=>some (y8,0)))))
def eZ  : Option TL :=
 some (TL.mk [(TN.mk 1 0 0),(TN.mk 2 0 0),(TN.mk 3 3 0),(TN.mk 4 3 0),(TN.mk 5 9 10),(TN.mk 6 9 7)] [(TC.mk 11 [(TH.mk 1 3)]),(TC.mk 12 [(TH.mk 1 4),(TH.mk 2 4)]),(TC.mk 13 [(TH.mk 3 5)]),(TC.mk 14 [(TH.mk 4 5),(TH.mk 4 6)])])
def iD (s19:Int) (x20:(List Int)):Option (Int ⊕ Unit) :=
 some (.inl (w64 (s19+1)))
def jU (p0:TL):Option (Int × Int) :=
 ((cf p0).bind fun y2=>(if(y2 !=0)=true then some (0,y2)else((dn p0).bind fun y6=>(ac (cq p0) ((gE (iD) (sCs p0) 0).bind fun u21=>match u21 with|.inl u24=>some (u24,0)|.inr _=>none)))))
def fV  : Option Bool :=
 ((eZ).bind fun y1=>((jU y1).bind fun y20=>((eu y1 [1]).bind fun y23=>((dr y1 [2]).bind fun y30=>((jI y1 [1] 6).bind fun y37=>((jV y1 [1] 6).bind fun y44=>((lR y1 [1] 5).bind fun y51=>((jT y1 [2] 5).bind fun y58=>((iR y1 [1] false).bind fun y62=>((lL y1 [1]).bind fun y69=>((gM y1 5).bind fun y71=>(if((((((((((y20.2 !=0)||(y23.2 !=0))||(y30.2 !=0))||(y37.2 !=0))||(y44.2 !=0))||(y51.2 !=0))||(y58.2 !=0))||(y62.2.2 !=0))||(y69.2.2 !=0))||(y71.2.2 !=0))=true then some false else((bS y23.1 [1,3,5]).bind fun y92=>((if y92=true then((bS y30.1 [2,4,5,6]).bind fun y137=>some (y137))else(some (false))).bind fun b95=>((if b95=true then((bS y37.1 [12,14]).bind fun y134=>some (y134))else(some (false))).bind fun b98=>((if b98=true then((bS y44.1 [4]).bind fun y131=>some (y131))else(some (false))).bind fun b101=>((bS y51.1 [13,14]).bind fun y104=>((if y104=true then((bS y62.1 [5,6]).bind fun y128=>some (y128))else(some (false))).bind fun b107=>((if b107=true then((bS y71.1 [1]).bind fun y125=>some (y125))else(some (false))).bind fun b110=>((if b110=true then((bS y71.2.1 [1,2]).bind fun y122=>some (y122))else(some (false))).bind fun b113=>some ((((((b101&&b113)&&(y20.1==4))&&((y58.1.fNum==1)&&(y58.1.fDen==4)))&&(y62.2.1==17))&&(y69.1==12))&&(y69.2.1==7))))))))))))))))))))))
def fD (p0:TL) (s3:(Bool × Int × Int)):Option ((Bool × Int × Int) ⊕ ((Bool × Int × Int) ⊕ (Bool × Int × Int))) :=
 (if decide (s3.2.2<(p0.fC.length:Int))=true then ac ((0:Int)≤s3.2.2∧s3.2.2<(p0.fC.length:Int)) ((if decide (6<(((rdL p0.fC s3.2.2).fO.length:Nat):Int))=true then some (.inr (.inl (false,s3.2.1,s3.2.2)))else some (.inl (s3.1,min (w64 (s3.2.1*(max 1 (((rdL p0.fC s3.2.2).fO.length:Nat):Int)))) 10000,w64 (s3.2.2+1)))))else some (.inr (.inr (s3.1,s3.2.1,s3.2.2))))
def gl (p0:TL):Option Bool :=
 ((aK (fD p0) (false,1,0)).bind fun u4=>match u4 with|(.inl u9)=>some u9.1|(.inr u10)=>some ((((decide ((p0.fNo.length:Int)≤12))||((decide (60<(p0.fNo.length:Int)))&&(decide ((p0.fNo.length:Int)≤80))))&&((decide ((p0.fC.length:Int)≤12))||((decide (80<(p0.fC.length:Int)))&&(decide ((p0.fC.length:Int)≤100)))))&&((decide (u10.2.1≤64))||(decide (4096<u10.2.1)))))
def go (p0:TL) (p1:Int) (s3:(Int × Int)):Option ((Int × Int) ⊕ ((Int × Int) ⊕ (Int × Int))) :=
 (if decide (s3.2<(p0.fNo.length:Int))=true then ac ((0:Int)≤s3.2∧s3.2<(p0.fNo.length:Int)) ((if(((rdL p0.fNo s3.2).fID)==p1)=true then some (.inr (.inl (s3.2,s3.2)))else some (.inl (s3.1,w64 (s3.2+1)))))else some (.inr (.inr (s3.1,s3.2))))
def gr (p0:TL) (p1:Int):Option Int :=
 ((aK (go p0 p1) (0,0)).bind fun u4=>match u4 with|(.inl u9)=>some u9.1|(.inr u10)=>some (-1))
def fF (p0:TL) (s3:(Int × Int)):Option ((Int × Int) ⊕ (Int × Int)) :=
 (if decide (s3.2<(p0.fC.length:Int))=true then ac ((0:Int)≤s3.2∧s3.2<(p0.fC.length:Int)) (some (.inl (min (w64 (s3.1*(((rdL p0.fC s3.2).fO.length:Nat):Int))) 4097,w64 (s3.2+1))))else some (.inr (s3.1,s3.2)))
def kT (p0:TL):Option Int :=
 ((aK (fF p0) (1,0)).bind fun u4=>some u4.1)
def fM (p0:TL) (p1:Int) (s3:(Int × Int)):Option ((Int × Int) ⊕ ((Int × Int) ⊕ (Int × Int))) :=
 (if decide (s3.2<(p0.fC.length:Int))=true then ac ((0:Int)≤s3.2∧s3.2<(p0.fC.length:Int)) ((if(((rdL p0.fC s3.2).fID)==p1)=true then some (.inr (.inl (s3.2,s3.2)))else some (.inl (s3.1,w64 (s3.2+1)))))else some (.inr (.inr (s3.1,s3.2))))
def fo (p0:TL) (p1:Int):Option Int :=
 ((aK (fM p0 p1) (0,0)).bind fun u4=>match u4 with|(.inl u9)=>some u9.1|(.inr u10)=>some (-1))
def jD (p0:Int) (p1:Int) (p2:Int):Option Bool :=
 some ((decide (p1≤p0))&&(decide (p0≤p2)))
def dI (p1:TC) (s10:(Bool × Int)) (s25:(Bool × Int)):Option ((Bool × Int) ⊕ ((Bool × Int) ⊕ (Bool × Int))) :=
 (if decide (s25.2<s10.2)=true then ac ((0:Int)≤s25.2∧s25.2<(p1.fO.length:Int)) (ac ((0:Int)≤s10.2∧s10.2<(p1.fO.length:Int)) ((if(((rdL p1.fO s25.2).fFrom==(rdL p1.fO s10.2).fFrom)&&((rdL p1.fO s25.2).fTo==(rdL p1.fO s10.2).fTo))=true then some (.inr (.inl (false,s25.2)))else some (.inl (s25.1,w64 (s25.2+1))))))else some (.inr (.inr (s25.1,s25.2))))
def fK (p0:TL) (p1:TC) (s10:(Bool × Int)):Option ((Bool × Int) ⊕ ((Bool × Int) ⊕ (Bool × Int))) :=
 (if decide (s10.2<(p1.fO.length:Int))=true then ac ((0:Int)≤s10.2∧s10.2<(p1.fO.length:Int)) (((gr p0 ((rdL p1.fO s10.2).fFrom)).bind fun y14=>ac ((0:Int)≤s10.2∧s10.2<(p1.fO.length:Int)) (((gr p0 ((rdL p1.fO s10.2).fTo)).bind fun y17=>((if((decide (y14<0))||(decide (y17<0)))=true then(some (true))else(ac ((0:Int)≤y14∧y14<(p0.fNo.length:Int)) (ac ((0:Int)≤y17∧y17<(p0.fNo.length:Int)) (some (decide ((rdL p0.fNo y17).fLevel≤(rdL p0.fNo y14).fLevel)))))).bind fun b21=>(if b21=true then some (.inr (.inl (false,s10.2)))else((aK (dI p1 s10) (s10.1,0)).bind fun u26=>match u26 with|(.inl u32)=>some (.inr (.inl (u32.1,s10.2)))|(.inr u33)=>some (.inl (u33.1,w64 (s10.2+1))))))))))else some (.inr (.inr (s10.1,s10.2))))
def ld (p0:TL) (p1:TC):Option Bool :=
 ((jD p1.fID 1 1099511627776).bind fun y3=>((if(!y3)=true then(some (true))else((jD (p1.fO.length:Int) 1 4).bind fun y39=>some ((!y39)))).bind fun b6=>(if b6=true then some false else((aK (fK p0 p1) (false,0)).bind fun u11=>match u11 with|(.inl u37)=>some u37.1|(.inr u38)=>some true))))
def fI (p0:TL) (s5:(Int × Int)):Option ((Int × Int) ⊕ ((Int × Int) ⊕ (Int × Int))) :=
 (if decide (s5.2<(p0.fNo.length:Int))=true then ac ((0:Int)≤s5.2∧s5.2<(p0.fNo.length:Int)) (((jD ((rdL p0.fNo s5.2).fID) 1 1099511627776).bind fun y10=>((if(!y10)=true then(some (true))else((jD ((rdL p0.fNo s5.2).fLevel) 0 9).bind fun y24=>some ((!y24)))).bind fun b13=>((if b13=true then(some (true))else((jD ((rdL p0.fNo s5.2).fCost) 0 1073741824).bind fun y22=>some ((!y22)))).bind fun b16=>(if b16=true then some (.inr (.inl (1,s5.2)))else((gr p0 ((rdL p0.fNo s5.2).fID)).bind fun y19=>(if decide (y19<s5.2)=true then some (.inr (.inl (6,s5.2)))else some (.inl (s5.1,w64 (s5.2+1))))))))))else some (.inr (.inr (s5.1,s5.2))))
def fU (p0:TL) (s30:(Int × Int)):Option ((Int × Int) ⊕ ((Int × Int) ⊕ (Int × Int))) :=
 (if decide (s30.2<(p0.fC.length:Int))=true then ac ((0:Int)≤s30.2∧s30.2<(p0.fC.length:Int)) (((ld p0 (TC.mk ((rdL p0.fC s30.2).fID) ((rdL p0.fC s30.2).fO))).bind fun y34=>(if(!y34)=true then some (.inr (.inl (1,s30.2)))else ac ((0:Int)≤s30.2∧s30.2<(p0.fC.length:Int)) (((fo p0 ((rdL p0.fC s30.2).fID)).bind fun y38=>(if decide (y38<s30.2)=true then some (.inr (.inl (6,s30.2)))else some (.inl (s30.1,w64 (s30.2+1)))))))))else some (.inr (.inr (s30.1,s30.2))))
def eD (p0:TL):Option Int :=
 (if((decide (60<(p0.fNo.length:Int)))||(decide (80<(p0.fC.length:Int))))=true then some 2 else((aK (fI p0) (0,0)).bind fun u6=>match u6 with|(.inl u27)=>some u27.1|(.inr u28)=>((aK (fU p0) (u28.1,0)).bind fun u31=>match u31 with|(.inl u42)=>some u42.1|(.inr u43)=>((kT p0).bind fun y44=>(if decide (4096<y44)=true then some 2 else some 0)))))
def g7 (p0:(List Int)) (p1:Int) (s2:(Bool × Int)):Option ((Bool × Int) ⊕ ((Bool × Int) ⊕ (Bool × Int))) :=
 (if decide (s2.2<(p0.length:Int))=true then ac ((0:Int)≤s2.2∧s2.2<(p0.length:Int)) ((if((rdL p0 s2.2)==p1)=true then some (.inr (.inl (true,s2.2)))else some (.inl (s2.1,w64 (s2.2+1)))))else some (.inr (.inr (s2.1,s2.2))))
def mJ (p0:(List Int)) (p1:Int):Option Bool :=
 ((aK (g7 p0 p1) (false,0)).bind fun u3=>match u3 with|(.inl u8)=>some u8.1|(.inr u9)=>some false)
def lm (p0:(List Int)) (p1:Int) (s2:Int):Option (Int ⊕ Int) :=
 ((if decide (0<s2)=true then(ac ((0:Int)≤w64 (s2-1)∧w64 (s2-1)<(p0.length:Int)) (some (decide (p1<(rdL p0 (w64 (s2-1)))))))else(some (false))).bind fun b5=>(if b5=true then some (.inl (w64 (s2-1)))else some (.inr s2)))
def qw (p0:(List Int)) (p1:Int):Option (List Int) :=
 ((aK (lm p0 p1) (p0.length:Int)).bind fun u3=>ac ((0:Int)≤u3∧u3≤(p0.length:Int)) (ac (0+(Int.toNat u3)≤1000000000) (ac ((0+(Int.toNat u3))+1≤1000000000) (ac ((0:Int)≤u3∧u3≤(p0.length:Int)) (ac (((0+(Int.toNat u3))+1)+(p0.length-Int.toNat u3)≤1000000000) (some (((([]:List Int)++(p0.take (Int.toNat u3)))++[p1])++(p0.drop (Int.toNat u3)))))))))
def dc (p0:(List Int)) (s2:(Bool × Int)):Option ((Bool × Int) ⊕ ((Bool × Int) ⊕ (Bool × Int))) :=
 (if decide (s2.2<(p0.length:Int))=true then ac ((0:Int)≤s2.2∧s2.2<(p0.length:Int)) (ac ((0:Int)≤w64 (s2.2-1)∧w64 (s2.2-1)<(p0.length:Int)) ((if decide ((rdL p0 s2.2)≤(rdL p0 (w64 (s2.2-1))))=true then some (.inr (.inl (false,s2.2)))else some (.inl (s2.1,w64 (s2.2+1))))))else some (.inr (.inr (s2.1,s2.2))))
def jJ (p0:(List Int)):Option Bool :=
 ((aK (dc p0) (false,1)).bind fun u3=>match u3 with|(.inl u9)=>some u9.1|(.inr u10)=>some true)
def eb (p0:TL) (p1:(List Int)) (s6:(Int × (List TC))):Option ((Int × (List TC)) ⊕ (Int × (List TC))) :=
 (if decide (s6.1<(p0.fC.length:Int))=true then ac ((0:Int)≤s6.1∧s6.1<(p0.fC.length:Int)) (((mJ p1 ((rdL p0.fC s6.1).fID)).bind fun y10=>(if(!y10)=true then ac ((0:Int)≤s6.1∧s6.1<(p0.fC.length:Int)) (ac (s6.2.length+1≤1000000000) (some (.inl (w64 (s6.1+1),(s6.2++[(TC.mk ((rdL p0.fC s6.1).fID) ((rdL p0.fC s6.1).fO))])))))else some (.inl (w64 (s6.1+1),s6.2)))))else some (.inr (s6.1,s6.2)))
def gk (p0:TL) (p1:(List Int)):Option TL :=
 ((aK (eb p0 p1) (0,([]:List TC))).bind fun u7=>some (TL.mk p0.fNo u7.2))
def gv (p0:TL) (p1:Int) (p2:(List TH)) (s6:(Int × (List TC))):Option ((Int × (List TC)) ⊕ (Int × (List TC))) :=
 (if decide (s6.1<(p0.fC.length:Int))=true then ac ((0:Int)≤s6.1∧s6.1<(p0.fC.length:Int)) ((if(s6.1==p1)=true then ac (s6.2.length+1≤1000000000) (some (.inl (w64 (s6.1+1),(s6.2++[(TC.mk ((rdL p0.fC s6.1).fID) p2)]))))else ac (s6.2.length+1≤1000000000) (some (.inl (w64 (s6.1+1),(s6.2++[(TC.mk ((rdL p0.fC s6.1).fID) ((rdL p0.fC s6.1).fO))]))))))else some (.inr (s6.1,s6.2)))
def kw (p0:TL) (p1:Int) (p2:(List TH)):Option TL :=
 ((aK (gv p0 p1 p2) (0,([]:List TC))).bind fun u7=>some (TL.mk p0.fNo u7.2))
def el (p0:Int) (cap0:TL):Option Bool :=
 ((cZ cap0 p0).bind fun y1=>some (decide (0≤y1)))
def gL (p0:TL) (p1:(List Int)):Option Bool :=
 ((bB p1 (fun x2=>ed x2) (fun x3=>el x3 p0)).bind fun y4=>some y4)
def fb (p0:TL) (p1:(List Int)) (s3:(Bool × Int)):Option ((Bool × Int) ⊕ ((Bool × Int) ⊕ (Bool × Int))) :=
 (if decide (s3.2<(p1.length:Int))=true then ac ((0:Int)≤s3.2∧s3.2<(p1.length:Int)) (((fo p0 (rdL p1 s3.2)).bind fun y7=>(if decide (y7<0)=true then some (.inr (.inl (false,s3.2)))else some (.inl (s3.1,w64 (s3.2+1))))))else some (.inr (.inr (s3.1,s3.2))))
def jL (p0:TL) (p1:(List Int)):Option Bool :=
 ((aK (fb p0 p1) (false,0)).bind fun u4=>match u4 with|(.inl u11)=>some u11.1|(.inr u12)=>((jJ p1).bind fun y13=>some y13))
def dG (p0:TL) (p1:Int) (p2:Int):Option (Int × Int) :=
 ((cf p0).bind fun y2=>(if(y2 !=0)=true then some (0,y2)else((cZ p0 p1).bind fun y5=>(if decide (y5<0)=true then some (0,5)else ac ((0:Int)≤y5∧y5<(p0.fC.length:Int)) (((co p2 0 (w64 ((((rdL p0.fC y5).fO.length:Nat):Int)-1))).bind fun y9=>(if(!y9)=true then some (0,1)else some (y5,0))))))))
def k5 (p0:TL) (p1:Int) (p2:Int):Option (TL × Int) :=
 ((dG p0 p1 p2).bind fun y3=>(if(y3.2 !=0)=true then some ((TL.mk [] []),y3.2)else ac ((0:Int)≤y3.1∧y3.1<(p0.fC.length:Int)) (ac ((0:Int)≤p2∧p2≤w64 (p2+1)∧w64 (p2+1)≤(((rdL p0.fC y3.1).fO.length:Nat):Int)) (((fj p0 y3.1 ((((rdL p0.fC y3.1).fO).drop (Int.toNat p2)).take (Int.toNat (w64 (p2+1))-Int.toNat p2))).bind fun y8=>some (y8,0))))))
def g8 (p0:TL) (p1:Int) (p2:Int):Option (Int × Int) :=
 ((eD p0).bind fun y2=>(if(y2 !=0)=true then some (0,y2)else((fo p0 p1).bind fun y5=>(if decide (y5<0)=true then some (0,5)else ac ((0:Int)≤y5∧y5<(p0.fC.length:Int)) (((jD p2 0 (w64 ((((rdL p0.fC y5).fO.length:Nat):Int)-1))).bind fun y9=>(if(!y9)=true then some (0,1)else some (y5,0))))))))
def lT (p0:TL) (p1:Int) (p2:Int):Option TMade :=
 ((g8 p0 p1 p2).bind fun y3=>(if(y3.2 !=0)=true then some (TMade.mk (TL.mk ([]:(List TN)) ([]:(List TC))) y3.2)else ac ((0:Int)≤y3.1∧y3.1<(p0.fC.length:Int)) (ac ((0:Int)≤p2∧p2≤w64 (p2+1)∧w64 (p2+1)≤(((rdL p0.fC y3.1).fO.length:Nat):Int)) (((kw p0 y3.1 ((((rdL p0.fC y3.1).fO).drop (Int.toNat p2)).take (Int.toNat (w64 (p2+1))-Int.toNat p2))).bind fun y8=>some (TMade.mk (TL.mk p0.fNo y8.fC) 0))))))
def df (p0:(List TH)) (p1:Int) (p2:Int):Option (List TH) :=
 ac ((0:Int)≤p1∧p1≤p2∧p2≤(p0.length:Int)∧(p0.length:Int)≤(p0.length:Int)) ((if(p1==p2)=true then some p0 else ac ((0:Int)≤p1∧p1≤(p0.length:Int)) (ac ((0:Int)≤p2∧p2≤(p0.length:Int)) (ac (p1≤p2) (some (p0.take (Int.toNat p1)++p0.drop (Int.toNat p2)))))))
def iE (p0:TL) (p1:Int) (p2:Int):Option (TL × Int) :=
 ((dG p0 p1 p2).bind fun y3=>(if(y3.2 !=0)=true then some ((TL.mk [] []),y3.2)else ac ((0:Int)≤y3.1∧y3.1<(p0.fC.length:Int)) (((bo ((rdL p0.fC y3.1).fO)).bind fun y7=>((df y7 p2 (w64 (p2+1))).bind fun y13=>(if((y13.length:Int)==0)=true then some ((TL.mk [] []),9)else((fj p0 y3.1 y13).bind fun y18=>some (y18,0))))))))
def eU (p0:TL) (p2:Int) (y3:(Int × Int)) (s8:(Int × (List TH))):Option ((Int × (List TH)) ⊕ (Int × (List TH))) :=
 ac ((0:Int)≤y3.1∧y3.1<(p0.fC.length:Int)) ((if decide (s8.1<(((rdL p0.fC y3.1).fO.length:Nat):Int))=true then(if(s8.1 !=p2)=true then ac ((0:Int)≤y3.1∧y3.1<(p0.fC.length:Int)) (ac ((0:Int)≤s8.1∧s8.1<(((rdL p0.fC y3.1).fO.length:Nat):Int)) (ac (s8.2.length+1≤1000000000) (some (.inl (w64 (s8.1+1),(s8.2++[(TH.mk ((rdL ((rdL p0.fC y3.1).fO) s8.1).fFrom) ((rdL ((rdL p0.fC y3.1).fO) s8.1).fTo))]))))))else some (.inl (w64 (s8.1+1),s8.2)))else some (.inr (s8.1,s8.2))))
def jP (p0:TL) (p1:Int) (p2:Int):Option TMade :=
 ((g8 p0 p1 p2).bind fun y3=>(if(y3.2 !=0)=true then some (TMade.mk (TL.mk ([]:(List TN)) ([]:(List TC))) y3.2)else((aK (eU p0 p2 y3) (0,([]:List TH))).bind fun u9=>(if((u9.2.length:Int)==0)=true then some (TMade.mk (TL.mk ([]:(List TN)) ([]:(List TC))) 9)else((kw p0 y3.1 u9.2).bind fun y21=>some (TMade.mk (TL.mk p0.fNo y21.fC) 0))))))
def bn (p0:(List TC)) (p1:TC→Option Bool) (s6:(Int × Int × (List TC))):Option ((Int × Int × (List TC)) ⊕ (Int × Int × (List TC))) :=
 (if decide (s6.2.1<(p0.length:Int))=true then ac ((0:Int)≤s6.2.1∧s6.2.1<(p0.length:Int)) (((p1 (TC.mk ((rdL s6.2.2 s6.2.1).fID) ((rdL s6.2.2 s6.2.1).fO))).bind fun y11=>(if(!y11)=true then ac ((0:Int)≤s6.1∧s6.1<(p0.length:Int)) (some (.inl (w64 (s6.1+1),w64 (s6.2.1+1),(s6.2.2.set (Int.toNat s6.1) (TC.mk ((rdL s6.2.2 s6.2.1).fID) ((rdL s6.2.2 s6.2.1).fO))))))else some (.inl (s6.1,w64 (s6.2.1+1),s6.2.2)))))else some (.inr (s6.1,s6.2.1,s6.2.2)))
def bJ (p0:(List TC)) (p1:TC→Option Bool):Option (List TC) :=
 ((aR p0 p1).bind fun y1=>(if(y1==(-1))=true then some p0 else((aK (bn p0 p1) (y1,w64 (y1+1),p0)).bind fun u7=>ac ((0:Int)≤u7.1∧u7.1≤(p0.length:Int)) (ac ((0:Int)≤u7.1∧u7.1≤(p0.length:Int)) (some (u7.2.2.take (Int.toNat u7.1)))))))
def fz (p0:TC) (cap0:(List Int)):Option Bool :=
 ((a5 cap0 p0.fID).bind fun y2=>some y2)
def gO (p0:TL) (p1:(List Int)):Option (TL × Int) :=
 ((cf p0).bind fun y4=>(if(y4 !=0)=true then some ((TL.mk [] []),y4)else((gL p0 p1).bind fun y7=>(if(!y7)=true then some ((TL.mk [] []),1)else((cH p0).bind fun y10=>((bJ y10.fC (fun x29=>fz x29 p1)).bind fun y30=>some ((TL.mk y10.fNo y30),0)))))))
def iH (p0:TL) (p1:(List Int)):Option TMade :=
 ((eD p0).bind fun y3=>((if(y3==0)=true then((jL p0 p1).bind fun y39=>some ((!y39)))else(some (false))).bind fun b6=>(if b6=true then(if(1 !=0)=true then some (TMade.mk (TL.mk ([]:(List TN)) ([]:(List TC))) 1)else((gk p0 p1).bind fun y10=>some (TMade.mk (TL.mk p0.fNo y10.fC) 0)))else(if(y3 !=0)=true then some (TMade.mk (TL.mk ([]:(List TN)) ([]:(List TC))) y3)else((gk p0 p1).bind fun y25=>some (TMade.mk (TL.mk p0.fNo y25.fC) 0))))))
def iI (p0:(List TH)) (p1:(List TH)) (s3:(Bool × Int)):Option ((Bool × Int) ⊕ ((Bool × Int) ⊕ (Bool × Int))) :=
 (if decide (s3.2<(p0.length:Int))=true then ac ((0:Int)≤s3.2∧s3.2<(p0.length:Int)) (ac ((0:Int)≤s3.2∧s3.2<(p1.length:Int)) ((if(!(((rdL p0 s3.2).fFrom==(rdL p1 s3.2).fFrom)&&((rdL p0 s3.2).fTo==(rdL p1 s3.2).fTo)))=true then some (.inr (.inl (false,s3.2)))else some (.inl (s3.1,w64 (s3.2+1))))))else some (.inr (.inr (s3.1,s3.2))))
def eQ (p0:(List TH)) (p1:(List TH)):Option Bool :=
 (if((p0.length:Int) !=(p1.length:Int))=true then some false else((aK (iI p0 p1) (false,0)).bind fun u4=>match u4 with|(.inl u10)=>some u10.1|(.inr u11)=>some true))
def ky (p0:TC) (p1:TC):Option Bool :=
 ((if(p0.fID==p1.fID)=true then((eQ p0.fO p1.fO).bind fun y6=>some (y6))else(some (false))).bind fun b4=>some b4)
def fS (p0:TL) (y30:TL) (s53:(Bool × Int × (List TN))):Option ((Bool × Int × (List TN)) ⊕ (Bool × Int × (List TN))) :=
 (if decide (s53.2.1<(y30.fNo.length:Int))=true then ac ((0:Int)≤s53.2.1∧s53.2.1<(y30.fNo.length:Int)) (((bV p0 ((rdL y30.fNo s53.2.1).fID)).bind fun y58=>(if decide (y58<0)=true then ac (s53.2.2.length+1≤1000000000) (some (.inl (s53.1,w64 (s53.2.1+1),(s53.2.2++[(TN.mk ((rdL y30.fNo s53.2.1).fID) ((rdL y30.fNo s53.2.1).fLevel) ((rdL y30.fNo s53.2.1).fCost))]))))else((if s53.1=true then(some (true))else(ac ((0:Int)≤y58∧y58<(p0.fNo.length:Int)) (some ((!(((rdL p0.fNo y58).fID==(rdL y30.fNo s53.2.1).fID)&&(((rdL p0.fNo y58).fLevel==(rdL y30.fNo s53.2.1).fLevel)&&((rdL p0.fNo y58).fCost==(rdL y30.fNo s53.2.1).fCost)))))))).bind fun b66=>some (.inl (b66,w64 (s53.2.1+1),s53.2.2))))))else some (.inr (s53.1,s53.2.1,s53.2.2)))
def fH (p0:TL) (y30:TL) (s72:(Bool × Int × (List TC))):Option ((Bool × Int × (List TC)) ⊕ (Bool × Int × (List TC))) :=
 (if decide (s72.2.1<(y30.fC.length:Int))=true then ac ((0:Int)≤s72.2.1∧s72.2.1<(y30.fC.length:Int)) (((cZ p0 ((rdL y30.fC s72.2.1).fID)).bind fun y77=>(if decide (y77<0)=true then ac (s72.2.2.length+1≤1000000000) (some (.inl (s72.1,w64 (s72.2.1+1),(s72.2.2++[(TC.mk ((rdL y30.fC s72.2.1).fID) ((rdL y30.fC s72.2.1).fO))]))))else((if s72.1=true then(some (true))else(ac ((0:Int)≤y77∧y77<(p0.fC.length:Int)) (((ky (TC.mk ((rdL p0.fC y77).fID) ((rdL p0.fC y77).fO)) (TC.mk ((rdL y30.fC s72.2.1).fID) ((rdL y30.fC s72.2.1).fO))).bind fun y88=>some ((!y88)))))).bind fun b85=>some (.inl (b85,w64 (s72.2.1+1),s72.2.2))))))else some (.inr (s72.1,s72.2.1,s72.2.2)))
def kx (p0:TL) (p1:TL):Option (TL × Int) :=
 ((cf p0).bind fun y4=>(if(y4 !=0)=true then some ((TL.mk [] []),y4)else((cf p1).bind fun y7=>(if(y7 !=0)=true then some ((TL.mk [] []),y7)else((cH p0).bind fun y11=>((cH p1).bind fun y30=>((aK (fS p0 y30) (false,0,y11.fNo)).bind fun u54=>((aK (fH p0 y30) (u54.1,0,y11.fC)).bind fun u73=>(if u73.1=true then some ((TL.mk [] []),9)else((cf (TL.mk u54.2.2 u73.2.2)).bind fun y92=>(if(y92 !=0)=true then some ((TL.mk [] []),y92)else some ((TL.mk u54.2.2 u73.2.2),0))))))))))))
def gp (p0:(List TH)) (p1:(List TH)) (s3:(Bool × Int)):Option ((Bool × Int) ⊕ ((Bool × Int) ⊕ (Bool × Int))) :=
 (if decide (s3.2<(p0.length:Int))=true then ac ((0:Int)≤s3.2∧s3.2<(p0.length:Int)) (ac ((0:Int)≤s3.2∧s3.2<(p1.length:Int)) ((if(!(((rdL p0 s3.2).fFrom==(rdL p1 s3.2).fFrom)&&((rdL p0 s3.2).fTo==(rdL p1 s3.2).fTo)))=true then some (.inr (.inl (false,s3.2)))else some (.inl (s3.1,w64 (s3.2+1))))))else some (.inr (.inr (s3.1,s3.2))))
def dH (p0:(List TH)) (p1:(List TH)):Option Bool :=
 (if((p0.length:Int) !=(p1.length:Int))=true then some false else((aK (gp p0 p1) (false,0)).bind fun u4=>match u4 with|(.inl u10)=>some u10.1|(.inr u11)=>some true))
def fk (p0:TL) (p1:TL) (s22:(Int × (List TN) × Int)):Option ((Int × (List TN) × Int) ⊕ ((Int × (List TN) × Int) ⊕ (Int × (List TN) × Int))) :=
 (if decide (s22.1<(p1.fNo.length:Int))=true then ac ((0:Int)≤s22.1∧s22.1<(p1.fNo.length:Int)) (((gr p0 ((rdL p1.fNo s22.1).fID)).bind fun y26=>(if decide (y26<0)=true then ac ((0:Int)≤s22.1∧s22.1<(p1.fNo.length:Int)) (ac (s22.2.1.length+1≤1000000000) (some (.inl (w64 (s22.1+1),(s22.2.1++[(TN.mk ((rdL p1.fNo s22.1).fID) ((rdL p1.fNo s22.1).fLevel) ((rdL p1.fNo s22.1).fCost))]),s22.2.2))))else ac ((0:Int)≤y26∧y26<(p0.fNo.length:Int)) (ac ((0:Int)≤s22.1∧s22.1<(p1.fNo.length:Int)) ((if(!(((rdL p0.fNo y26).fID==(rdL p1.fNo s22.1).fID)&&(((rdL p0.fNo y26).fLevel==(rdL p1.fNo s22.1).fLevel)&&((rdL p0.fNo y26).fCost==(rdL p1.fNo s22.1).fCost))))=true then some (.inr (.inl (s22.1,s22.2.1,9)))else some (.inl (w64 (s22.1+1),s22.2.1,s22.2.2))))))))else some (.inr (.inr (s22.1,s22.2.1,s22.2.2))))
def fi (p0:TL) (p1:TL) (s43:(Int × (List TC) × Int)):Option ((Int × (List TC) × Int) ⊕ ((Int × (List TC) × Int) ⊕ (Int × (List TC) × Int))) :=
 (if decide (s43.1<(p1.fC.length:Int))=true then ac ((0:Int)≤s43.1∧s43.1<(p1.fC.length:Int)) (((fo p0 ((rdL p1.fC s43.1).fID)).bind fun y47=>(if decide (y47<0)=true then ac ((0:Int)≤s43.1∧s43.1<(p1.fC.length:Int)) (ac (s43.2.1.length+1≤1000000000) (some (.inl (w64 (s43.1+1),(s43.2.1++[(TC.mk ((rdL p1.fC s43.1).fID) ((rdL p1.fC s43.1).fO))]),s43.2.2))))else ac ((0:Int)≤y47∧y47<(p0.fC.length:Int)) (ac ((0:Int)≤s43.1∧s43.1<(p1.fC.length:Int)) (((dH ((rdL p0.fC y47).fO) ((rdL p1.fC s43.1).fO)).bind fun y58=>(if(!y58)=true then some (.inr (.inl (s43.1,s43.2.1,9)))else some (.inl (w64 (s43.1+1),s43.2.1,s43.2.2)))))))))else some (.inr (.inr (s43.1,s43.2.1,s43.2.2))))
def nQ (p0:TL) (p1:TL) (s80:(Int × (List TN) × Int)):Option ((Int × (List TN) × Int) ⊕ ((Int × (List TN) × Int) ⊕ (Int × (List TN) × Int))) :=
 (if decide (s80.1<(p1.fNo.length:Int))=true then ac ((0:Int)≤s80.1∧s80.1<(p1.fNo.length:Int)) (((gr p0 ((rdL p1.fNo s80.1).fID)).bind fun y84=>(if decide (y84<0)=true then ac ((0:Int)≤s80.1∧s80.1<(p1.fNo.length:Int)) (ac (s80.2.1.length+1≤1000000000) (some (.inl (w64 (s80.1+1),(s80.2.1++[(TN.mk ((rdL p1.fNo s80.1).fID) ((rdL p1.fNo s80.1).fLevel) ((rdL p1.fNo s80.1).fCost))]),s80.2.2))))else ac ((0:Int)≤y84∧y84<(p0.fNo.length:Int)) (ac ((0:Int)≤s80.1∧s80.1<(p1.fNo.length:Int)) ((if(!(((rdL p0.fNo y84).fID==(rdL p1.fNo s80.1).fID)&&(((rdL p0.fNo y84).fLevel==(rdL p1.fNo s80.1).fLevel)&&((rdL p0.fNo y84).fCost==(rdL p1.fNo s80.1).fCost))))=true then some (.inr (.inl (s80.1,s80.2.1,9)))else some (.inl (w64 (s80.1+1),s80.2.1,s80.2.2))))))))else some (.inr (.inr (s80.1,s80.2.1,s80.2.2))))
def oc (p0:TL) (p1:TL) (s101:(Int × (List TC) × Int)):Option ((Int × (List TC) × Int) ⊕ ((Int × (List TC) × Int) ⊕ (Int × (List TC) × Int))) :=
 (if decide (s101.1<(p1.fC.length:Int))=true then ac ((0:Int)≤s101.1∧s101.1<(p1.fC.length:Int)) (((fo p0 ((rdL p1.fC s101.1).fID)).bind fun y105=>(if decide (y105<0)=true then ac ((0:Int)≤s101.1∧s101.1<(p1.fC.length:Int)) (ac (s101.2.1.length+1≤1000000000) (some (.inl (w64 (s101.1+1),(s101.2.1++[(TC.mk ((rdL p1.fC s101.1).fID) ((rdL p1.fC s101.1).fO))]),s101.2.2))))else ac ((0:Int)≤y105∧y105<(p0.fC.length:Int)) (ac ((0:Int)≤s101.1∧s101.1<(p1.fC.length:Int)) (((dH ((rdL p0.fC y105).fO) ((rdL p1.fC s101.1).fO)).bind fun y116=>(if(!y116)=true then some (.inr (.inl (s101.1,s101.2.1,9)))else some (.inl (w64 (s101.1+1),s101.2.1,s101.2.2)))))))))else some (.inr (.inr (s101.1,s101.2.1,s101.2.2))))
def lX (p0:TL) (p1:TL):Option TMade :=
 ((eD p0).bind fun y4=>(if(y4==0)=true then((eD p1).bind fun y7=>(if(y7 !=0)=true then some (TMade.mk (TL.mk [] []) y7)else ac (0+p0.fNo.length≤1000000000) (ac (0+p0.fC.length≤1000000000) (((aK (fk p0 p1) (0,(([]:List TN)++p0.fNo),0)).bind fun u23=>match u23 with|(.inl u39)=>some (TMade.mk (TL.mk ([]:List TN) ([]:List TC)) u39.2.2)|(.inr u40)=>((aK (fi p0 p1) (0,(([]:List TC)++p0.fC),u40.2.2)).bind fun u44=>match u44 with|(.inl u62)=>some (TMade.mk (TL.mk ([]:List TN) ([]:List TC)) u62.2.2)|(.inr u63)=>((eD (TL.mk u40.2.1 u63.2.1)).bind fun y64=>(if(y64 !=0)=true then some (TMade.mk (TL.mk [] []) y64)else some (TMade.mk (TL.mk u40.2.1 u63.2.1) 0)))))))))else(if(y4 !=0)=true then some (TMade.mk (TL.mk [] []) y4)else ac (0+p0.fNo.length≤1000000000) (ac (0+p0.fC.length≤1000000000) (((aK (nQ p0 p1) (0,(([]:List TN)++p0.fNo),0)).bind fun u81=>match u81 with|(.inl u97)=>some (TMade.mk (TL.mk ([]:List TN) ([]:List TC)) u97.2.2)|(.inr u98)=>((aK (oc p0 p1) (0,(([]:List TC)++p0.fC),u98.2.2)).bind fun u102=>match u102 with|(.inl u120)=>some (TMade.mk (TL.mk ([]:List TN) ([]:List TC)) u120.2.2)|(.inr u121)=>((eD (TL.mk u98.2.1 u121.2.1)).bind fun y122=>(if(y122 !=0)=true then some (TMade.mk (TL.mk [] []) y122)else some (TMade.mk (TL.mk u98.2.1 u121.2.1) 0))))))))))
def cP (p0:TL) (p1:TL) (s6:(Bool × Int)):Option ((Bool × Int) ⊕ ((Bool × Int) ⊕ (Bool × Int))) :=
 (if decide (s6.2<(p0.fNo.length:Int))=true then ac ((0:Int)≤s6.2∧s6.2<(p0.fNo.length:Int)) (ac ((0:Int)≤s6.2∧s6.2<(p1.fNo.length:Int)) ((if(!(((rdL p0.fNo s6.2).fID==(rdL p1.fNo s6.2).fID)&&(((rdL p0.fNo s6.2).fLevel==(rdL p1.fNo s6.2).fLevel)&&((rdL p0.fNo s6.2).fCost==(rdL p1.fNo s6.2).fCost))))=true then some (.inr (.inl (false,s6.2)))else some (.inl (s6.1,w64 (s6.2+1))))))else some (.inr (.inr (s6.1,s6.2))))
def cO (p0:TL) (p1:TL) (s16:(Bool × Int)):Option ((Bool × Int) ⊕ ((Bool × Int) ⊕ (Bool × Int))) :=
 (if decide (s16.2<(p0.fC.length:Int))=true then ac ((0:Int)≤s16.2∧s16.2<(p0.fC.length:Int)) (ac ((0:Int)≤s16.2∧s16.2<(p1.fC.length:Int)) (((dH ((rdL p0.fC s16.2).fO) ((rdL p1.fC s16.2).fO)).bind fun y21=>ac ((0:Int)≤s16.2∧s16.2<(p0.fC.length:Int)) (ac ((0:Int)≤s16.2∧s16.2<(p1.fC.length:Int)) ((if((((rdL p0.fC s16.2).fID) !=((rdL p1.fC s16.2).fID))||(!y21))=true then some (.inr (.inl (false,s16.2)))else some (.inl (s16.1,w64 (s16.2+1)))))))))else some (.inr (.inr (s16.1,s16.2))))
def cv (p0:TL) (p1:TL):Option Bool :=
 (if(((p0.fNo.length:Int) !=(p1.fNo.length:Int))||((p0.fC.length:Int) !=(p1.fC.length:Int)))=true then some false else((aK (cP p0 p1) (false,0)).bind fun u7=>match u7 with|(.inl u13)=>some u13.1|(.inr u14)=>((aK (cO p0 p1) (u14.1,0)).bind fun u17=>match u17 with|(.inl u28)=>some u28.1|(.inr u29)=>some true)))
def dV (p0:TL) (p1:TL) (p2:Int) (p3:Int) (p4:(List Int)):Option Bool :=
 ((fV).bind fun y3=>((gl p0).bind fun y5=>((if(!y5)=true then(some (true))else((gl p1).bind fun y198=>some ((!y198)))).bind fun b8=>(if(b8||(decide (100<(p4.length:Int))))=true then some y3 else((k5 p0 p2 p3).bind fun y12=>((lT p0 p2 p3).bind fun y31=>((iE p0 p2 p3).bind fun y54=>((jP p0 p2 p3).bind fun y73=>((gO p0 p4).bind fun y96=>((iH p0 p4).bind fun y115=>((kx p0 p1).bind fun y138=>((lX p0 p1).bind fun y157=>((cv y12.1 y31.fL).bind fun y176=>((if y176=true then((cv y54.1 y73.fL).bind fun y196=>some (y196))else(some (false))).bind fun b179=>((if b179=true then((cv y96.1 y115.fL).bind fun y194=>some (y194))else(some (false))).bind fun b182=>((if b182=true then((cv y138.1 y157.fL).bind fun y192=>some (y192))else(some (false))).bind fun b185=>some (((((y3&&b185)&&(y12.2==y31.fE))&&(y54.2==y73.fE))&&(y96.2==y115.fE))&&(y138.2==y157.fE))))))))))))))))))
end
end Go.Proofs.YtbblpokfbmekfaaGreat
