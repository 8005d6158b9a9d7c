import Derived.Test.YtbblpokfbmekfaaGreatGs
set_option linter.unusedVariables false
namespace Go.Proofs.YtbblpokfbmekfaaGreat
noncomputable section
structure TN where
 fID:Int
 fLevel:Int
 fCost:Int
 deriving DecidableEq
instance:Inhabited TN:=⟨⟨default,default,default⟩⟩
def TNode_rg (x:TN):Prop:=Rg_i64 x.fID∧Rg_i64 x.fLevel∧Rg_i64 x.fCost
structure TH where
 fFrom:Int
 fTo:Int
 deriving DecidableEq
instance:Inhabited TH:=⟨⟨default,default⟩⟩
def THop_rg (x:TH):Prop:=Rg_i64 x.fFrom∧Rg_i64 x.fTo
structure TC where
 fID:Int
 fO:(List TH)
 deriving DecidableEq
instance:Inhabited TC:=⟨⟨default,default⟩⟩
def TClaim_rg (x:TC):Prop:=Rg_i64 x.fID∧(j8 THop_rg x.fO)
structure TL where
 fNo:(List TN)
 fC:(List TC)
 deriving DecidableEq
instance:Inhabited TL:=⟨⟨default,default⟩⟩
def qR (x:TL):Prop:=(j8 TNode_rg x.fNo)∧(j8 TClaim_rg x.fC)
structure TRatio where
 fNum:Int
 fDen:Int
 deriving DecidableEq
instance:Inhabited TRatio:=⟨⟨default,default⟩⟩
def TRatio_rg (x:TRatio):Prop:=Rg_i64 x.fNum∧Rg_i64 x.fDen
structure Tasking where
 f_id:Int
 f_left:Int
 deriving DecidableEq
instance:Inhabited Tasking:=⟨⟨default,default⟩⟩
def Tasking_rg (x:Tasking):Prop:=Rg_i64 x.f_id∧Rg_i64 x.f_left
structure TTwo where
 fA:(List Int)
 fB:(List Int)
 fE:Int
 deriving DecidableEq
instance:Inhabited TTwo:=⟨⟨default,default,default⟩⟩
def TTwo_rg (x:TTwo):Prop:=(j8 Rg_i64 x.fA)∧(j8 Rg_i64 x.fB)∧Rg_i64 x.fE
structure TBill where
 fL:(List Int)
 fN:Int
 fE:Int
 deriving DecidableEq
instance:Inhabited TBill:=⟨⟨default,default,default⟩⟩
def TBill_rg (x:TBill):Prop:=(j8 Rg_i64 x.fL)∧Rg_i64 x.fN∧Rg_i64 x.fE
structure TInts where
 fL:(List Int)
 fE:Int
 deriving DecidableEq
instance:Inhabited TInts:=⟨⟨default,default⟩⟩
def TInts_rg (x:TInts):Prop:=(j8 Rg_i64 x.fL)∧Rg_i64 x.fE
structure TTrace where
 fCase:(List Int)
 fC:(List Int)
 deriving DecidableEq
instance:Inhabited TTrace:=⟨⟨default,default⟩⟩
def TTrace_rg (x:TTrace):Prop:=(j8 Rg_i64 x.fCase)∧(j8 Rg_i64 x.fC)
structure TMade where
 fL:TL
 fE:Int
 deriving DecidableEq
instance:Inhabited TMade:=⟨⟨default,default⟩⟩
def TMade_rg (x:TMade):Prop:=(j8 TNode_rg x.fL.fNo)∧(j8 TClaim_rg x.fL.fC)∧Rg_i64 x.fE
def aQ (p0:(List TN)) (p1:TN→Option Bool) (s2:(Int × Int)):Option ((Int × Int) ⊕ ((Int × Int) ⊕ (Int × Int))) :=
 (if decide (s2.2<(p0.length:Int))=true then ac ((0:Int)≤s2.2∧s2.2<(p0.length:Int)) (((p1 (TN.mk ((rdL p0 s2.2).fID) ((rdL p0 s2.2).fLevel) ((rdL p0 s2.2).fCost))).bind fun y6=>(if y6=true then some (.inr (.inl (s2.2,s2.2)))else some (.inl (s2.1,w64 (s2.2+1))))))else some (.inr (.inr (s2.1,s2.2))))
def be (p0:(List TN)) (p1:TN→Option Bool):Option Int :=
 ((aL (aQ p0 p1) (0,0)).bind fun u3=>match u3 with|(.inl u10)=>some u10.1|(.inr u11)=>some (-1))
def dR (p0:TN) (cap0:Int):Option Bool :=
 some (p0.fID==cap0)
def bV (p0:TL) (p1:Int):Option Int :=
 ((be p0.fNo (fun x3=>dR x3 p1)).bind fun y4=>some y4)
def aN (p0:(List TC)) (p1:TC→Option Bool) (s2:(Int × Int)):Option ((Int × Int) ⊕ ((Int × Int) ⊕ (Int × Int))) :=
 (if decide (s2.2<(p0.length:Int))=true then ac ((0:Int)≤s2.2∧s2.2<(p0.length:Int)) (((p1 (TC.mk ((rdL p0 s2.2).fID) ((rdL p0 s2.2).fO))).bind fun y6=>(if y6=true then some (.inr (.inl (s2.2,s2.2)))else some (.inl (s2.1,w64 (s2.2+1))))))else some (.inr (.inr (s2.1,s2.2))))
def aR (p0:(List TC)) (p1:TC→Option Bool):Option Int :=
 ((aL (aN p0 p1) (0,0)).bind fun u3=>match u3 with|(.inl u10)=>some u10.1|(.inr u11)=>some (-1))
def dT (p0:TC) (cap0:Int):Option Bool :=
 some (p0.fID==cap0)
def c9 (p0:TL) (p1:Int):Option Int :=
 ((aR p0.fC (fun x3=>dT x3 p1)).bind fun y4=>some y4)
def co (p0:Int) (p1:Int) (p2:Int):Option Bool :=
 some ((decide (p1≤p0))&&(decide (p0≤p2)))
def bi (p0:(List TH)) (p1:TH) (s3:(Int × Int)):Option ((Int × Int) ⊕ ((Int × Int) ⊕ (Int × Int))) :=
 (if decide (s3.2<(p0.length:Int))=true then ac ((0:Int)≤s3.2∧s3.2<(p0.length:Int)) ((if((p1.fFrom==(rdL p0 s3.2).fFrom)&&(p1.fTo==(rdL p0 s3.2).fTo))=true then some (.inr (.inl (s3.2,s3.2)))else some (.inl (s3.1,w64 (s3.2+1)))))else some (.inr (.inr (s3.1,s3.2))))
def bY (p0:(List TH)) (p1:TH):Option Int :=
 ((aL (bi p0 p1) (0,0)).bind fun u4=>match u4 with|(.inl u9)=>some u9.1|(.inr u10)=>some (-1))
def bD (p0:(List TH)) (p1:TH):Option Bool :=
 ((bY p0 p1).bind fun y2=>some (decide (0≤y2)))
def cw (p0:TL) (p1:(List TH)) (s6:(Bool × Int)):Option ((Bool × Int) ⊕ ((Bool × Int) ⊕ (Bool × Int))) :=
 (if decide (s6.2<(p1.length:Int))=true then ac ((0:Int)≤s6.2∧s6.2<(p1.length:Int)) (((bV p0 ((rdL p1 s6.2).fFrom)).bind fun y11=>((bV p0 ((rdL p1 s6.2).fTo)).bind fun y13=>((if((decide (y11<0))||(decide (y13<0)))=true then(some (true))else(ac ((0:Int)≤y11∧y11<(p0.fNo.length:Int)) (ac ((0:Int)≤y13∧y13<(p0.fNo.length:Int)) (some (decide ((rdL p0.fNo y13).fLevel≤(rdL p0.fNo y11).fLevel)))))).bind fun b17=>((if b17=true then(some (true))else(ac ((0:Int)≤s6.2∧s6.2≤(p1.length:Int)) (((bD (p1.take (Int.toNat s6.2)) (TH.mk ((rdL p1 s6.2).fFrom) ((rdL p1 s6.2).fTo))).bind fun y24=>some (y24))))).bind fun b20=>(if b20=true then some (.inr (.inl (false,s6.2)))else some (.inl (s6.1,w64 (s6.2+1)))))))))else some (.inr (.inr (s6.1,s6.2))))
def eO (p0:TL) (p1:(List TH)):Option Bool :=
 ((co (p1.length:Int) 1 4).bind fun y2=>(if(!y2)=true then some false else((aL (cw p0 p1) (false,0)).bind fun u7=>match u7 with|(.inl u29)=>some u29.1|(.inr u30)=>some true)))
def dh (p0:TL) (s5:(Int × Int)):Option ((Int × Int) ⊕ ((Int × Int) ⊕ (Int × Int))) :=
 (if decide (s5.2<(p0.fNo.length:Int))=true then ac ((0:Int)≤s5.2∧s5.2<(p0.fNo.length:Int)) (((co ((rdL p0.fNo s5.2).fID) 1 1099511627776).bind fun y10=>((if(!y10)=true then(some (true))else((co ((rdL p0.fNo s5.2).fLevel) 0 9).bind fun y24=>some ((!y24)))).bind fun b13=>((if b13=true then(some (true))else((co ((rdL p0.fNo s5.2).fCost) 0 1073741824).bind fun y22=>some ((!y22)))).bind fun b16=>(if b16=true then some (.inr (.inl (1,s5.2)))else((bV p0 ((rdL p0.fNo s5.2).fID)).bind fun y19=>(if decide (y19<s5.2)=true then some (.inr (.inl (6,s5.2)))else some (.inl (s5.1,w64 (s5.2+1))))))))))else some (.inr (.inr (s5.1,s5.2))))
def di (p0:TL) (s30:(Int × Int × Int)):Option ((Int × Int × Int) ⊕ ((Int × Int × Int) ⊕ (Int × Int × Int))) :=
 (if decide (s30.2.2<(p0.fC.length:Int))=true then ac ((0:Int)≤s30.2.2∧s30.2.2<(p0.fC.length:Int)) (((co ((rdL p0.fC s30.2.2).fID) 1 1099511627776).bind fun y35=>((if(!y35)=true then(some (true))else((eO p0 ((rdL p0.fC s30.2.2).fO)).bind fun y44=>some ((!y44)))).bind fun b38=>(if b38=true then some (.inr (.inl (1,s30.2.1,s30.2.2)))else((c9 p0 ((rdL p0.fC s30.2.2).fID)).bind fun y41=>(if decide (y41<s30.2.2)=true then some (.inr (.inl (6,s30.2.1,s30.2.2)))else some (.inl (s30.1,min (w64 (s30.2.1*(((rdL p0.fC s30.2.2).fO.length:Nat):Int))) 4097,w64 (s30.2.2+1)))))))))else some (.inr (.inr (s30.1,s30.2.1,s30.2.2))))
def ce (p0:TL):Option Int :=
 (if((decide (60<(p0.fNo.length:Int)))||(decide (80<(p0.fC.length:Int))))=true then some 2 else((aL (dh p0) (0,0)).bind fun u6=>match u6 with|(.inl u27)=>some u27.1|(.inr u28)=>((aL (di p0) (u28.1,1,0)).bind fun u31=>match u31 with|(.inl u47)=>some u47.1|(.inr u48)=>(if decide (4096<u48.2.1)=true then some 2 else some 0))))
def c5 (p0:Int):Option Bool :=
 some (p0 !=p0)
def jP (p0:Int) (p1:Int):Option Bool :=
 ((c5 p0).bind fun y1=>((if y1=true then((c5 p1).bind fun y7=>some ((!y7)))else(some (false))).bind fun b4=>some (b4||(decide (p0<p1)))))
def aV (p0:(List Int)) (p1:Int) (s8:(Int × (List Int))):Option ((Int × (List Int)) ⊕ (Int × (List Int))) :=
 ((if decide (p1<s8.1)=true then(ac ((0:Int)≤s8.1∧s8.1<(p0.length:Int)) (ac ((0:Int)≤w64 (s8.1-1)∧w64 (s8.1-1)<(p0.length:Int)) (((jP (rdL s8.2 s8.1) (rdL s8.2 (w64 (s8.1-1)))).bind fun y21=>some (y21)))))else(some (false))).bind fun b11=>(if b11=true then ac ((0:Int)≤w64 (s8.1-1)∧w64 (s8.1-1)<(p0.length:Int)) (ac ((0:Int)≤s8.1∧s8.1<(p0.length:Int)) (ac ((0:Int)≤s8.1∧s8.1<(p0.length:Int)) (ac ((0:Int)≤w64 (s8.1-1)∧w64 (s8.1-1)<(p0.length:Int)) (some (.inl (w64 (s8.1-1),((s8.2.set (Int.toNat s8.1) (rdL s8.2 (w64 (s8.1-1)))).set (Int.toNat (w64 (s8.1-1))) (rdL s8.2 s8.1))))))))else some (.inr (s8.1,s8.2))))
def aE (p0:(List Int)) (p1:Int) (p2:Int) (s3:(Int × (List Int))):Option ((Int × (List Int)) ⊕ (Int × (List Int))) :=
 (if decide (s3.1<p2)=true then((aL (aV p0 p1) (s3.1,s3.2)).bind fun u9=>some (.inl (w64 (s3.1+1),u9.2)))else some (.inr (s3.1,s3.2)))
def bt (p0:(List Int)) (p1:Int) (p2:Int):Option (List Int) :=
 ((aL (aE p0 p1 p2) (w64 (p1+1),p0)).bind fun u4=>some u4.2)
def lenv (x:Int):Int:=if x<1 then 0 else if x<2 then 1 else if x<4 then 2 else if x<8 then 3 else 4
def iy (p0:Int):Option Int:=ac (0≤p0∧p0<16) (some (w64 (0+lenv p0)))
def kk (p0:Int):Option Int :=
 ((iy p0).bind fun y1=>some y1)
def cC (s3:(Int × Int × Int × Bool × Bool × (List Int))):Option ((Int × Int × Int × Bool × Bool × (List Int)) ⊕ (Int × Int × Int × Bool × Bool × (List Int))) :=
 ac (decide (w64 (s3.2.1-s3.1)≤12)=true) (((bt s3.2.2.2.2.2 s3.1 s3.2.1).bind fun y6=>some (.inr (s3.1,s3.2.1,s3.2.2.1,s3.2.2.2.1,s3.2.2.2.2.1,y6))))
def cZ (p0:(List Int)) (p1:Int) (p2:Int) (p3:Int):Option (List Int) :=
 ((aL (cC) (p1,p2,p3,true,true,p0)).bind fun u4=>some u4.2.2.2.2.2)
def bP (p0:(List Int)):Option (List Int):=ac (p0.length≤12) (some (srtI p0))
def bo (p0:(List (Int × Bool))):Option (List Int):=ac (p0.length≤1000000∧(ir p0).length≤12∧p0.all (fun p=>dx p.1)=true) (some (ir p0))
def iS (p0:TL) (p1:Int) (s5:(Int × (List (Int × Bool)))):Option ((Int × (List (Int × Bool))) ⊕ (Int × (List (Int × Bool)))) :=
 (if decide (s5.1<(p0.fNo.length:Int))=true then ac ((0:Int)≤s5.1∧s5.1<(p0.fNo.length:Int)) ((if(((rdL p0.fNo s5.1).fLevel)==p1)=true then ac (dx ((rdL p0.fNo s5.1).fID)=true∧List.length s5.2<1000000000) (some (.inl (w64 (s5.1+1),(((rdL p0.fNo s5.1).fID,true)::s5.2))))else some (.inl (w64 (s5.1+1),s5.2))))else some (.inr (s5.1,s5.2)))
def jM (p0:TL) (p1:Int):Option (List (Int × Bool)) :=
 ((aL (iS p0 p1) (0,[])).bind fun u6=>some u6.2)
def gH (p0:TL):Option (List Int) :=
 ((jM p0 0).bind fun y2=>((bo y2).bind fun y5=>some y5))
def cq (l:TL):Prop:=l.fC.length≤1000∧∀x∈l.fC,0<x.fO.length∧x.fO.length≤1000
instance (l:TL):Decidable (cq l):=by unfold cq;infer_instance
def sKs (l:TL):List Nat:=l.fC.map fun x=>x.fO.length
def sCs (l:TL):List (List Int):=rJ (sKs l)
def fa (cap0:TL) (s10:(Int × (List Int))):Option ((Int × (List Int)) ⊕ (Int × (List Int))) :=
 ((if decide (0≤s10.1)=true then(ac ((0:Int)≤s10.1∧s10.1<(cap0.fC.length:Int)) (ac ((0:Int)≤s10.1∧s10.1<(cap0.fC.length:Int)) (some (((w64 ((rdL s10.2 s10.1)+1))==(((rdL cap0.fC s10.1).fO.length:Nat):Int))))))else(some (false))).bind fun b13=>(if b13=true then ac ((0:Int)≤s10.1∧s10.1<(cap0.fC.length:Int)) (some (.inl (w64 (s10.1-1),(s10.2.set (Int.toNat s10.1) 0))))else some (.inr (s10.1,s10.2))))
def dj (p0:TL):Option Unit :=
 some ()
def aJ (p0:(List Int)) (p1:Int) (p3:Int→Int→Option Int) (s8:(Int × (List Int))):Option ((Int × (List Int)) ⊕ (Int × (List Int))) :=
 ((if decide (p1<s8.1)=true then(ac ((0:Int)≤s8.1∧s8.1<(p0.length:Int)) (ac ((0:Int)≤w64 (s8.1-1)∧w64 (s8.1-1)<(p0.length:Int)) (((p3 (rdL s8.2 s8.1) (rdL s8.2 (w64 (s8.1-1)))).bind fun y21=>some (decide (y21<0))))))else(some (false))).bind fun b11=>(if b11=true then ac ((0:Int)≤w64 (s8.1-1)∧w64 (s8.1-1)<(p0.length:Int)) (ac ((0:Int)≤s8.1∧s8.1<(p0.length:Int)) (ac ((0:Int)≤s8.1∧s8.1<(p0.length:Int)) (ac ((0:Int)≤w64 (s8.1-1)∧w64 (s8.1-1)<(p0.length:Int)) (some (.inl (w64 (s8.1-1),((s8.2.set (Int.toNat s8.1) (rdL s8.2 (w64 (s8.1-1)))).set (Int.toNat (w64 (s8.1-1))) (rdL s8.2 s8.1))))))))else some (.inr (s8.1,s8.2))))
def az (p0:(List Int)) (p1:Int) (p2:Int) (p3:Int→Int→Option Int) (s3:(Int × (List Int))):Option ((Int × (List Int)) ⊕ (Int × (List Int))) :=
 (if decide (s3.1<p2)=true then((aL (aJ p0 p1 p3) (s3.1,s3.2)).bind fun u9=>some (.inl (w64 (s3.1+1),u9.2)))else some (.inr (s3.1,s3.2)))
def aT (p0:(List Int)) (p1:Int) (p2:Int) (p3:Int→Int→Option Int):Option (List Int) :=
 ((aL (az p0 p1 p2 p3) (w64 (p1+1),p0)).bind fun u4=>some u4.2)
def bw (p1:Int) (s2:(Int × Int)):Option ((Int × Int) ⊕ (Int × Int)) :=
 ac (decide (s2.2≤p1)=false) (some (.inr (s2.1,s2.2)))
def bq (p1:Int) (s10:(Int × Int × Int)):Option ((Int × Int × Int) ⊕ (Int × Int × Int)) :=
 ac (decide (s10.1<p1)=false) (some (.inr (s10.1,s10.2.1,s10.2.2)))
def bO (p0:(List Int)) (p1:Int) (p2:Int→Int→Option Int):Option (List Int) :=
 ((aL (bw p1) (0,20)).bind fun u3=>((aT p0 u3.1 p1 p2).bind fun y6=>((aL (bq p1) (20,u3.1,u3.2)).bind fun u11=>some y6)))
def bh (p0:(List Int)) (p1:Int→Int→Option Int):Option (List Int) :=
 ((bO p0 (p0.length:Int) p1).bind fun y1=>some y1)
def dO (p0:Int) (p1:Int):Option Int :=
 ((c5 p0).bind fun y1=>((c5 p1).bind fun y3=>(if y1=true then(if y3=true then some 0 else some (-1))else(if y3=true then some 1 else(if decide (p0<p1)=true then some (-1)else(if decide (p1<p0)=true then some 1 else some 0))))))
def dn (p0:Int) (p1:Int) (cap0:TL):Option Int :=
 ac ((0:Int)≤p0∧p0<(cap0.fNo.length:Int)) (ac ((0:Int)≤p1∧p1<(cap0.fNo.length:Int)) (((dO ((rdL cap0.fNo p0).fLevel) ((rdL cap0.fNo p1).fLevel)).bind fun y3=>some y3)))
def cV (p0:TL) (s6:(Int × (List Int))):Option ((Int × (List Int)) ⊕ (Int × (List Int))) :=
 (if decide (s6.1<((Int.toNat (p0.fNo.length:Int):Nat):Int))=true then ac ((0:Int)≤s6.1∧s6.1<((Int.toNat (p0.fNo.length:Int):Nat):Int)) (some (.inl (w64 (s6.1+1),(s6.2.set (Int.toNat s6.1) s6.1))))else some (.inr (s6.1,s6.2)))
def fg (p0:TL):Option (List Int) :=
 ac ((0:Int)≤(p0.fNo.length:Int)∧(p0.fNo.length:Int)*8≤281474976710656) (((aL (cV p0) (0,(List.replicate (Int.toNat (p0.fNo.length:Int)) 0))).bind fun u7=>((bh u7.2 (fun x11 x12=>dn x11 x12 p0)).bind fun y13=>some y13)))
def dr (p0:TL) (p2:Int→Int→Option Bool) (s5:(Int × (List (Int × (List Int))))) (s12:(Int × (List (Int × (List Int))))):Option ((Int × (List (Int × (List Int)))) ⊕ (Int × (List (Int × (List Int))))) :=
 (if decide (s12.1<(((rdL p0.fC s5.1).fO.length:Nat):Int))=true then ac ((0:Int)≤s12.1∧s12.1<(((rdL p0.fC s5.1).fO.length:Nat):Int)) (((p2 s5.1 s12.1).bind fun y17=>(if y17=true then ac (dx ((rdL ((rdL p0.fC s5.1).fO) s12.1).fFrom)=true) (ac ((ax [] s12.2 ((rdL ((rdL p0.fC s5.1).fO) s12.1).fFrom)).length+1≤1000000000) (ac (dx ((rdL ((rdL p0.fC s5.1).fO) s12.1).fFrom)=true∧List.length s12.2<1000000000) (some (.inl (w64 (s12.1+1),(((rdL ((rdL p0.fC s5.1).fO) s12.1).fFrom,((ax [] s12.2 ((rdL ((rdL p0.fC s5.1).fO) s12.1).fFrom))++[(rdL ((rdL p0.fC s5.1).fO) s12.1).fTo]))::s12.2))))))else some (.inl (w64 (s12.1+1),s12.2)))))else some (.inr (s12.1,s12.2)))
def dk (p0:TL) (p2:Int→Int→Option Bool) (s5:(Int × (List (Int × (List Int))))):Option ((Int × (List (Int × (List Int)))) ⊕ (Int × (List (Int × (List Int))))) :=
 (if decide (s5.1<(p0.fC.length:Int))=true then ac ((0:Int)≤s5.1∧s5.1<(p0.fC.length:Int)) (((aL (dr p0 p2 s5) (0,s5.2)).bind fun u13=>some (.inl (w64 (s5.1+1),u13.2))))else some (.inr (s5.1,s5.2)))
def dM (p1:(List Int)) (s32:(Int × (List (Int × Bool)))):Option ((Int × (List (Int × Bool))) ⊕ (Int × (List (Int × Bool)))) :=
 (if decide (s32.1<(p1.length:Int))=true then ac ((0:Int)≤s32.1∧s32.1<(p1.length:Int)) (ac (dx (rdL p1 s32.1)=true∧List.length s32.2<1000000000) (some (.inl (w64 (s32.1+1),(((rdL p1 s32.1),true)::s32.2)))))else some (.inr (s32.1,s32.2)))
def dS (p0:TL) (u6:(Int × (List (Int × (List Int))))) (y38:(List Int)) (s46:(Int × (List (Int × Bool)))) (s56:(Int × (List (Int × Bool)))):Option ((Int × (List (Int × Bool))) ⊕ (Int × (List (Int × Bool)))) :=
 (if decide (s56.1<(((ax [] u6.2 ((rdL p0.fNo (rdL y38 s46.1)).fID)).length:Nat):Int))=true then ac ((0:Int)≤s56.1∧s56.1<(((ax [] u6.2 ((rdL p0.fNo (rdL y38 s46.1)).fID)).length:Nat):Int)) (ac (dx (rdL (ax [] u6.2 ((rdL p0.fNo (rdL y38 s46.1)).fID)) s56.1)=true∧List.length s56.2<1000000000) (some (.inl (w64 (s56.1+1),(((rdL (ax [] u6.2 ((rdL p0.fNo (rdL y38 s46.1)).fID)) s56.1),true)::s56.2)))))else some (.inr (s56.1,s56.2)))
def dl (p0:TL) (u6:(Int × (List (Int × (List Int))))) (y38:(List Int)) (s46:(Int × (List (Int × Bool)))):Option ((Int × (List (Int × Bool))) ⊕ (Int × (List (Int × Bool)))) :=
 (if decide (s46.1<(y38.length:Int))=true then ac ((0:Int)≤s46.1∧s46.1<(y38.length:Int)) (ac ((0:Int)≤(rdL y38 s46.1)∧(rdL y38 s46.1)<(p0.fNo.length:Int)) (ac (dx ((rdL p0.fNo (rdL y38 s46.1)).fID)=true) ((if(!(ax false s46.2 ((rdL p0.fNo (rdL y38 s46.1)).fID)))=true then some (.inl (w64 (s46.1+1),s46.2))else ac (dx ((rdL p0.fNo (rdL y38 s46.1)).fID)=true) (((aL (dS p0 u6 y38 s46) (0,s46.2)).bind fun u57=>some (.inl (w64 (s46.1+1),u57.2))))))))else some (.inr (s46.1,s46.2)))
def rcR (p0:TL) (p1:(List Int)) (p2:Int→Int→Option Bool):Option (List (Int × Bool)) :=
 ((aL (dk p0 p2) (0,([]:(List (Int × (List Int)))))).bind fun u6=>((aL (dM p1) (0,[])).bind fun u33=>((fg p0).bind fun y38=>((aL (dl p0 u6 y38) (0,u33.2)).bind fun u47=>some u47.2))))
def bf (p0:(List Int)) (p1:Int) (p2:Int):Option Bool :=
 ac ((0:Int)≤p1∧p1<(p0.length:Int)) (some ((rdL p0 p1)==p2))
def dF (p0:(List Int)):Option Unit :=
 some ()
def dv (p0:TL) (p1:(List Int)) (s18:(List (Int × Bool))) (x19:(List Int)):Option ((List (Int × Bool)) ⊕ Unit) :=
 ((dF x19).bind fun y21=>((rcR p0 p1 (fun x23 x24=>bf x19 x23 x24)).bind fun y25=>ac (List.length s18+List.length y25≤1000000) (some (.inl (lk true y25 s18)))))
def bI (p0:TL) (p1:(List Int)):Option (List (Int × Bool)) :=
 ((dj p0).bind fun y5=>(ac (cq p0) ((gA (dv p0 p1) (sCs p0) []).bind fun u20=>match u20 with|.inl u45=>some u45|.inr _=>none)))
def fG (p0:TL) (p1:(List Int)) (s20:(List (Int × Bool))) (x21:(List Int)):Option ((List (Int × Bool)) ⊕ Unit) :=
 ((dF x21).bind fun y23=>((rcR p0 p1 (fun x25 x26=>bf x21 x25 x26)).bind fun y27=>some (.inl (s20.filter (fun p => !(fun y33=>(!(ax false y27 y33))) p.1)))))
def eD (p0:TL) (p1:(List Int)):Option (List (Int × Bool)) :=
 ((bI p0 p1).bind fun y3=>((dj p0).bind fun y7=>(ac (cq p0) ((gA (fG p0 p1) (sCs p0) y3).bind fun u22=>match u22 with|.inl u48=>some u48|.inr _=>none))))
def gl (p0:TL) (p1:Int) (y8:(List Int)) (s16:(Int × (List Int) × (List Int))):Option ((Int × (List Int) × (List Int)) ⊕ (Int × (List Int) × (List Int))) :=
 (if decide (s16.1<(y8.length:Int))=true then ac ((0:Int)≤s16.1∧s16.1<(y8.length:Int)) (((eD p0 [(rdL y8 s16.1)]).bind fun y21=>ac (dx p1=true) ((if ax false y21 p1=true then ac (s16.2.1.length+1≤1000000000) (((bI p0 [(rdL y8 s16.1)]).bind fun y31=>ac (dx p1=true) ((if ax false y31 p1=true then ac (s16.2.2.length+1≤1000000000) (some (.inl (w64 (s16.1+1),(s16.2.1++[(rdL y8 s16.1)]),(s16.2.2++[(rdL y8 s16.1)]))))else some (.inl (w64 (s16.1+1),(s16.2.1++[(rdL y8 s16.1)]),s16.2.2))))))else((bI p0 [(rdL y8 s16.1)]).bind fun y41=>ac (dx p1=true) ((if ax false y41 p1=true then ac (s16.2.2.length+1≤1000000000) (some (.inl (w64 (s16.1+1),s16.2.1,(s16.2.2++[(rdL y8 s16.1)]))))else some (.inl (w64 (s16.1+1),s16.2.1,s16.2.2)))))))))else some (.inr (s16.1,s16.2.1,s16.2.2)))
def gQ (p0:TL) (p1:Int):Option ((List Int) × (List Int) × Int) :=
 ((ce p0).bind fun y2=>(if(y2 !=0)=true then some ([],[],y2)else((bV p0 p1).bind fun y5=>(if decide (y5<0)=true then some ([],[],5)else((gH p0).bind fun y8=>((aL (gl p0 p1 y8) (0,([]:List Int),([]:List Int))).bind fun u17=>some (u17.2.1,u17.2.2,0)))))))
def a8 (p0:(List Int)) (p1:Int→Option Int) (p2:Int→Option Bool) (s2:(Bool × Int)):Option ((Bool × Int) ⊕ ((Bool × Int) ⊕ (Bool × Int))) :=
 (if decide (s2.2<(p0.length:Int))=true then ac ((0:Int)≤s2.2∧s2.2<(p0.length:Int)) (((p1 (rdL p0 s2.2)).bind fun y6=>((p2 y6).bind fun y8=>((if(!y8)=true then(some (true))else((if decide (0<s2.2)=true then((p1 (rdL p0 s2.2)).bind fun y17=>ac ((0:Int)≤w64 (s2.2-1)∧w64 (s2.2-1)<(p0.length:Int)) (((p1 (rdL p0 (w64 (s2.2-1)))).bind fun y20=>some (decide (y17≤y20)))))else(some (false))).bind fun b15=>some (b15))).bind fun b11=>(if b11=true then some (.inr (.inl (false,s2.2)))else some (.inl (s2.1,w64 (s2.2+1))))))))else some (.inr (.inr (s2.1,s2.2))))
def bz (p0:(List Int)) (p1:Int→Option Int) (p2:Int→Option Bool):Option Bool :=
 ((aL (a8 p0 p1 p2) (false,0)).bind fun u3=>match u3 with|(.inl u23)=>some u23.1|(.inr u24)=>some true)
def eb (p0:Int):Option Int :=
 some p0
def dp (p0:Int) (cap0:TL):Option Bool :=
 ((bV cap0 p0).bind fun y1=>some (decide (0≤y1)))
def fp (p0:TL) (p1:(List Int)):Option Bool :=
 ((if decide (0<(p1.length:Int))=true then((bz p1 (fun x5=>eb x5) (fun x6=>dp x6 p0)).bind fun y7=>some (y7))else(some (false))).bind fun b3=>some b3)
def ct (p0:TL) (p1:(List Int)):Option Int :=
 ((ce p0).bind fun y2=>(if(y2 !=0)=true then some y2 else((fp p0 p1).bind fun y5=>(if(!y5)=true then some 1 else some 0))))
def iB (p0:TL) (p1:(List (Int × Bool))) (s5:(Int × Int × (List (Int × Bool)))):Option ((Int × Int × (List (Int × Bool))) ⊕ (Int × Int × (List (Int × Bool)))) :=
 (if decide (s5.2.1<(p0.fNo.length:Int))=true then ac ((0:Int)≤s5.2.1∧s5.2.1<(p0.fNo.length:Int)) (((if(((rdL p0.fNo s5.2.1).fLevel)==9)=true then(ac (dx ((rdL p0.fNo s5.2.1).fID)=true) (some (ax false p1 ((rdL p0.fNo s5.2.1).fID))))else(some (false))).bind fun b11=>(if b11=true then ac (dx ((rdL p0.fNo s5.2.1).fID)=true∧List.length s5.2.2<1000000000) (some (.inl (w64 (s5.1+((rdL p0.fNo s5.2.1).fCost)),w64 (s5.2.1+1),(((rdL p0.fNo s5.2.1).fID,true)::s5.2.2))))else some (.inl (s5.1,w64 (s5.2.1+1),s5.2.2)))))else some (.inr (s5.1,s5.2.1,s5.2.2)))
def gb (p0:TL) (p1:(List (Int × Bool))):Option ((List Int) × Int) :=
 ((aL (iB p0 p1) (0,0,[])).bind fun u6=>((bo u6.2.2).bind fun y17=>some (y17,u6.1)))
def iQ (p0:TL) (p1:(List Int)) (p2:Bool):Option ((List Int) × Int × Int) :=
 ((ct p0 p1).bind fun y2=>(if(y2 !=0)=true then some ([],0,y2)else((bI p0 p1).bind fun y5=>(if p2=true then((eD p0 p1).bind fun y9=>((gb p0 y9).bind fun y12=>some (y12.1,y12.2,0)))else((gb p0 y5).bind fun y18=>some (y18.1,y18.2,0))))))
def go (p0:(List Int)) (p1:(List Int)) (s3:(Bool × Int)):Option ((Bool × Int) ⊕ ((Bool × Int) ⊕ (Bool × Int))) :=
 (if decide (s3.2<(p0.length:Int))=true then ac ((0:Int)≤s3.2∧s3.2<(p0.length:Int)) (ac ((0:Int)≤s3.2∧s3.2<(p1.length:Int)) ((if((rdL p0 s3.2) !=(rdL p1 s3.2))=true then some (.inr (.inl (false,s3.2)))else some (.inl (s3.1,w64 (s3.2+1))))))else some (.inr (.inr (s3.1,s3.2))))
def bR (p0:(List Int)) (p1:(List Int)):Option Bool :=
 (if((p0.length:Int) !=(p1.length:Int))=true then some false else((aL (go p0 p1) (false,0)).bind fun u4=>match u4 with|(.inl u10)=>some u10.1|(.inr u11)=>some true))
def dI (p0:TL) (p1:(List Int)) (p2:Int):Option Int :=
 ((ct p0 p1).bind fun y2=>(if(y2 !=0)=true then some y2 else((bV p0 p2).bind fun y5=>(if decide (y5<0)=true then some 5 else some 0))))
def fK (p0:Int) (p1:Int) (cap0:(List Int)) (cap1:Int→Int→Option Bool):Option Bool :=
 ac ((0:Int)≤p0∧p0<(cap0.length:Int)) (((if((rdL cap0 p0)==p1)=true then((cap1 p0 p1).bind fun y5=>some (y5))else(some (false))).bind fun b3=>some b3))
def ip (p0:TL) (p1:(List Int)) (p2:Int) (p3:Int→Int→Option Bool) (s24:Bool) (x25:(List Int)):Option (Bool ⊕ Bool) :=
 ((rcR p0 p1 (fun x28 x29=>fK x28 x29 x25 p3)).bind fun y30=>ac (dx p2=true) ((if ax false y30 p2=true then some (.inr true)else some (.inl s24))))
def eu (p0:TL) (p1:(List Int)) (p2:Int) (p3:Int→Int→Option Bool):Option Bool :=
 ((rcR p0 p1 p3).bind fun y6=>ac (dx p2=true) ((if(!(ax false y6 p2))=true then some false else((dj p0).bind fun y11=>(ac (cq p0) ((gA (ip p0 p1 p2 p3) (sCs p0) false).bind fun u26=>match u26 with|.inl u37=>some false|.inr u38=>some u38))))))
def cQ (p0:Int) (p1:Int):Option Bool :=
 some true
def fU (p0:Int) (p1:Int) (cap0:Int):Option Bool :=
 some (p0 !=cap0)
def iD (p0:TL) (p1:(List Int)) (p2:Int) (s12:(Int × (List Int))):Option ((Int × (List Int)) ⊕ (Int × (List Int))) :=
 (if decide (s12.1<(p0.fC.length:Int))=true then ac ((0:Int)≤s12.1∧s12.1<(p0.fC.length:Int)) (((eu p0 p1 p2 (fun x18 x19=>fU x18 x19 s12.1)).bind fun y20=>(if(!y20)=true then ac (s12.2.length+1≤1000000000) (some (.inl (w64 (s12.1+1),(s12.2++[(rdL p0.fC s12.1).fID]))))else some (.inl (w64 (s12.1+1),s12.2)))))else some (.inr (s12.1,s12.2)))
def jI (p0:TL) (p1:(List Int)) (p2:Int):Option ((List Int) × Int) :=
 ((dI p0 p1 p2).bind fun y2=>(if(y2 !=0)=true then some ([],y2)else((eu p0 p1 p2 (fun x5 x6=>cQ x5 x6)).bind fun y7=>(if(!y7)=true then some ([],5)else((aL (iD p0 p1 p2) (0,([]:List Int))).bind fun u13=>((bP u13.2).bind fun y28=>some (y28,0)))))))
def bl (p0:(List Int)) (p1:Int) (s2:(Int × Int)):Option ((Int × Int) ⊕ ((Int × Int) ⊕ (Int × Int))) :=
 (if decide (s2.2<(p0.length:Int))=true then ac ((0:Int)≤s2.2∧s2.2<(p0.length:Int)) ((if(p1==(rdL p0 s2.2))=true then some (.inr (.inl (s2.2,s2.2)))else some (.inl (s2.1,w64 (s2.2+1)))))else some (.inr (.inr (s2.1,s2.2))))
def bZ (p0:(List Int)) (p1:Int):Option Int :=
 ((aL (bl p0 p1) (0,0)).bind fun u3=>match u3 with|(.inl u8)=>some u8.1|(.inr u9)=>some (-1))
def a5 (p0:(List Int)) (p1:Int):Option Bool :=
 ((bZ p0 p1).bind fun y1=>some (decide (0≤y1)))
def fM (p0:Int) (p1:Int) (cap0:TL) (cap1:TN):Option Bool :=
 ac ((0:Int)≤p0∧p0<(cap0.fC.length:Int)) (ac ((0:Int)≤p1∧p1<(((rdL cap0.fC p0).fO.length:Nat):Int)) (some (((rdL ((rdL cap0.fC p0).fO) p1).fTo) !=cap1.fID)))
def iI (p0:TL) (p1:(List Int)) (p2:Int) (s12:(Int × (List Int))):Option ((Int × (List Int)) ⊕ (Int × (List Int))) :=
 (if decide (s12.1<(p0.fNo.length:Int))=true then ac ((0:Int)≤s12.1∧s12.1<(p0.fNo.length:Int)) (((if(((rdL p0.fNo s12.1).fID)==p2)=true then(some (true))else((a5 p1 ((rdL p0.fNo s12.1).fID)).bind fun y30=>some (y30))).bind fun b18=>(if b18=true then some (.inl (w64 (s12.1+1),s12.2))else((eu p0 p1 p2 (fun x21 x22=>fM x21 x22 p0 (TN.mk ((rdL p0.fNo s12.1).fID) ((rdL p0.fNo s12.1).fLevel) ((rdL p0.fNo s12.1).fCost)))).bind fun y23=>(if(!y23)=true then ac (s12.2.length+1≤1000000000) (some (.inl (w64 (s12.1+1),(s12.2++[(rdL p0.fNo s12.1).fID]))))else some (.inl (w64 (s12.1+1),s12.2)))))))else some (.inr (s12.1,s12.2)))
def jX (p0:TL) (p1:(List Int)) (p2:Int):Option ((List Int) × Int) :=
 ((dI p0 p1 p2).bind fun y2=>(if(y2 !=0)=true then some ([],y2)else((eu p0 p1 p2 (fun x5 x6=>cQ x5 x6)).bind fun y7=>(if(!y7)=true then some ([],5)else((aL (iI p0 p1 p2) (0,([]:List Int))).bind fun u13=>((bP u13.2).bind fun y33=>some (y33,0)))))))
def iE (p0:TL) (p1:(List Int)) (p2:Int) (s23:(Int × Int)) (x24:(List Int)):Option ((Int × Int) ⊕ Unit) :=
 ((dF x24).bind fun y27=>((rcR p0 p1 (fun x29 x30=>bf x24 x29 x30)).bind fun y31=>ac (dx p2=true) ((if ax false y31 p2=true then some (.inl (w64 (s23.1+1),w64 (s23.2+1)))else some (.inl (s23.1,w64 (s23.2+1)))))))
def iK (s40:(Int × Int)):Option ((Int × Int) ⊕ (Int × Int)) :=
 (if decide (0<s40.2)=true then ac (s40.2≠0) (some (.inl (s40.2,Int.tmod s40.1 s40.2)))else some (.inr (s40.1,s40.2)))
def jH (p0:TL) (p1:(List Int)) (p2:Int):Option (TRatio × Int) :=
 ((dI p0 p1 p2).bind fun y5=>(if(y5 !=0)=true then some ((TRatio.mk 0 0),y5)else((dj p0).bind fun y10=>(ac (cq p0) ((gA (iE p0 p1 p2) (sCs p0) (0,0)).bind fun u25=>match u25 with|.inl u38=>((aL (iK) (u38.1,u38.2)).bind fun u41=>ac (u41.1≠0) (ac (u41.1≠0) (some ((TRatio.mk (w64 (Int.tdiv u38.1 u41.1)) (w64 (Int.tdiv u38.2 u41.1))),0))))|.inr _=>none)))))
def jK (p0:TL) (p1:(List Int)):Option Int :=
 ((bI p0 p1).bind fun y2=>((eD p0 p1).bind fun y5=>((gb p0 (tc y5 y2)).bind fun y23=>some y23.2)))
def bp (p0:(List TH)):Option (List TH) :=
 ac (0+p0.length≤1000000000) (some (([]:List TH)++p0))
def ch (p0:(List TN)):Option (List TN) :=
 ac (0+p0.length≤1000000000) (some (([]:List TN)++p0))
def a7 (p0:(List TC)):Option (List TC) :=
 ac (0+p0.length≤1000000000) (some (([]:List TC)++p0))
def cU (y10:(List TC)) (s22:(Int × (List TC))):Option ((Int × (List TC)) ⊕ (Int × (List TC))) :=
 (if decide (s22.1<(y10.length:Int))=true then ac ((0:Int)≤s22.1∧s22.1<(y10.length:Int)) (((bp ((rdL s22.2 s22.1).fO)).bind fun y26=>ac ((0:Int)≤s22.1∧s22.1<(y10.length:Int)) (some (.inl (w64 (s22.1+1),(s22.2.set (Int.toNat s22.1) (TC.mk ((rdL s22.2 s22.1).fID) y26)))))))else some (.inr (s22.1,s22.2)))
def cJ (p0:TL):Option TL :=
 ((ch p0.fNo).bind fun y4=>((a7 p0.fC).bind fun y10=>((aL (cU y10) (0,y10)).bind fun u23=>some (TL.mk y4 u23.2))))
def fi (p0:TL) (p1:Int) (p2:(List TH)):Option TL :=
 ((cJ p0).bind fun y3=>((bp p2).bind fun y22=>ac ((0:Int)≤p1∧p1<(y3.fC.length:Int)) (some (TL.mk y3.fNo (y3.fC.set (Int.toNat p1) (TC.mk ((rdL y3.fC p1).fID) y22))))))
def bL (p0:(List Tasking)) (p1:Tasking→Tasking→Option Bool) (s5:(Int × Int × Int)):Option ((Int × Int × Int) ⊕ (Int × Int × Int)) :=
 (if decide (s5.1<(p0.length:Int))=true then ac ((0:Int)≤s5.1∧s5.1<(p0.length:Int)) (((if(s5.1==0)=true then(some (true))else((p1 (Tasking.mk ((rdL p0 s5.1).f_id) ((rdL p0 s5.1).f_left)) (Tasking.mk s5.2.1 s5.2.2)).bind fun y14=>some (y14))).bind fun b11=>(if b11=true then some (.inl (w64 (s5.1+1),(rdL p0 s5.1).f_id,(rdL p0 s5.1).f_left))else some (.inl (w64 (s5.1+1),s5.2.1,s5.2.2)))))else some (.inr (s5.1,s5.2.1,s5.2.2)))
def bv (p0:(List Tasking)) (p1:Tasking→Tasking→Option Bool):Option (Tasking × Bool) :=
 ((aL (bL p0 p1) (0,0,0)).bind fun u6=>some ((Tasking.mk u6.2.1 u6.2.2),decide (0<(p0.length:Int))))
def ie (p0:Tasking) (p1:Tasking):Option Bool :=
 some ((decide (p0.f_left<p1.f_left))||((p0.f_left==p1.f_left)&&(decide (p0.f_id<p1.f_id))))
def kh (p0:TL) (p1:(List Int)) (s7:(Int × (List Tasking))) (s16:(Int × Int)):Option ((Int × Int) ⊕ (Int × Int)) :=
 (if decide (s16.1<(((rdL p0.fC s7.1).fO.length:Nat):Int))=true then ac ((0:Int)≤s16.1∧s16.1≤w64 (s16.1+1)∧w64 (s16.1+1)≤w64 (s16.1+1)∧w64 (s16.1+1)≤(((rdL p0.fC s7.1).fO.length:Nat):Int)) (((fi p0 s7.1 ((((rdL p0.fC s7.1).fO).drop (Int.toNat s16.1)).take (Int.toNat (w64 (s16.1+1))-Int.toNat s16.1))).bind fun y20=>((jK y20 p1).bind fun y34=>some (.inl (w64 (s16.1+1),max s16.2 y34)))))else some (.inr (s16.1,s16.2)))
def ko (p0:TL) (p1:(List Int)) (s7:(Int × (List Tasking))):Option ((Int × (List Tasking)) ⊕ (Int × (List Tasking))) :=
 (if decide (s7.1<(p0.fC.length:Int))=true then ac ((0:Int)≤s7.1∧s7.1<(p0.fC.length:Int)) ((if decide ((((rdL p0.fC s7.1).fO.length:Nat):Int)<2)=true then some (.inl (w64 (s7.1+1),s7.2))else((aL (kh p0 p1 s7) (0,0)).bind fun u17=>ac (s7.2.length+1≤1000000000) (some (.inl (w64 (s7.1+1),(s7.2++[(Tasking.mk ((rdL p0.fC s7.1).fID) u17.2)])))))))else some (.inr (s7.1,s7.2)))
def lN (p0:TL) (p1:(List Int)):Option (Int × Int × Int) :=
 ((ct p0 p1).bind fun y2=>(if(y2 !=0)=true then some (0,0,y2)else((aL (ko p0 p1) (0,([]:List Tasking))).bind fun u8=>((bv u8.2 (fun x54 x55=>ie x54 x55)).bind fun y56=>(if(!y56.2)=true then some (0,0,5)else some (y56.1.f_id,y56.1.f_left,0))))))
def fH (p0:Int) (p1:Int) (cap0:(List (Int × Bool))) (cap1:TL):Option Bool :=
 ac ((0:Int)≤p0∧p0<(cap1.fC.length:Int)) (ac (dx ((rdL cap1.fC p0).fID)=true) (some (!(ax false cap0 ((rdL cap1.fC p0).fID)))))
def jY (p0:TL) (p1:(List Int)) (p2:Int) (p3:(List (Int × Bool))):Option Bool :=
 ((eu p0 p1 p2 (fun x3 x4=>fH x3 x4 p3 p0)).bind fun y5=>some (!y5))
def kj (p0:TL) (s11:(Int × (List (Int × Bool)))):Option ((Int × (List (Int × Bool))) ⊕ (Int × (List (Int × Bool)))) :=
 (if decide (s11.1<(p0.fC.length:Int))=true then ac ((0:Int)≤s11.1∧s11.1<(p0.fC.length:Int)) (ac (dx ((rdL p0.fC s11.1).fID)=true∧List.length s11.2<1000000000) (some (.inl (w64 (s11.1+1),(((rdL p0.fC s11.1).fID,true)::s11.2)))))else some (.inr (s11.1,s11.2)))
def kr (p0:TL) (p1:(List Int)) (p2:Int) (y18:(List Int)) (s26:(Int × (List (Int × Bool)))):Option ((Int × (List (Int × Bool))) ⊕ (Int × (List (Int × Bool)))) :=
 (if decide (s26.1<(y18.length:Int))=true then ac ((0:Int)≤s26.1∧s26.1<(y18.length:Int)) (ac (dx (rdL y18 s26.1)=true∧List.length s26.2<1000000000) (((jY p0 p1 p2 (((rdL y18 s26.1),false)::s26.2)).bind fun y31=>(if(!y31)=true then ac (dx (rdL y18 s26.1)=true∧List.length (((rdL y18 s26.1),false)::s26.2)<1000000000) (some (.inl (w64 (s26.1+1),(((rdL y18 s26.1),true)::(((rdL y18 s26.1),false)::s26.2)))))else some (.inl (w64 (s26.1+1),(((rdL y18 s26.1),false)::s26.2)))))))else some (.inr (s26.1,s26.2)))
def lU (p0:TL) (p1:(List Int)) (p2:Int):Option ((List Int) × Int) :=
 ((dI p0 p1 p2).bind fun y2=>(if(y2 !=0)=true then some ([],y2)else((a5 p1 p2).bind fun y5=>(if y5=true then some ([],5)else((aL (kj p0) (0,[])).bind fun u12=>((bo u12.2).bind fun y18=>((aL (kr p0 p1 p2 y18) (0,u12.2)).bind fun u27=>((bo u27.2).bind fun y36=>some (y36,0)))))))))
def eo (p0:TL) (p1:(List Int)):Option ((List Int) × Int) :=
 ((ct p0 p1).bind fun y2=>(if(y2 !=0)=true then some ([],y2)else((eD p0 p1).bind fun y5=>((bo y5).bind fun y8=>some (y8,0)))))
def de (p0:TL) (p1:(List Int)):Option ((List Int) × Int) :=
 ((ct p0 p1).bind fun y2=>(if(y2 !=0)=true then some ([],y2)else((bI p0 p1).bind fun y5=>((bo y5).bind fun y8=>some (y8,0)))))
def eW  : Option TL :=
 some (TL.mk [(TN.mk 1 0 0),(TN.mk 2 0 0),(TN.mk 3 3 0),(TN.mk 4 3 0),(TN.mk 5 9 10),(TN.mk 6 9 7)] [(TC.mk 11 [(TH.mk 1 3)]),(TC.mk 12 [(TH.mk 1 4),(TH.mk 2 4)]),(TC.mk 13 [(TH.mk 3 5)]),(TC.mk 14 [(TH.mk 4 5),(TH.mk 4 6)])])
def iG (s19:Int) (x20:(List Int)):Option (Int ⊕ Unit) :=
 some (.inl (w64 (s19+1)))
def jQ (p0:TL):Option (Int × Int) :=
 ((ce p0).bind fun y2=>(if(y2 !=0)=true then some (0,y2)else((dj p0).bind fun y6=>(ac (cq p0) ((gA (iG) (sCs p0) 0).bind fun u21=>match u21 with|.inl u24=>some (u24,0)|.inr _=>none)))))
def fR  : Option Bool :=
 ((eW).bind fun y1=>((jQ y1).bind fun y20=>((eo y1 [1]).bind fun y23=>((de y1 [2]).bind fun y30=>((jI y1 [1] 6).bind fun y37=>((jX y1 [1] 6).bind fun y44=>((lU y1 [1] 5).bind fun y51=>((jH y1 [2] 5).bind fun y58=>((iQ y1 [1] false).bind fun y62=>((lN y1 [1]).bind fun y69=>((gQ y1 5).bind fun y71=>(if((((((((((y20.2 !=0)||(y23.2 !=0))||(y30.2 !=0))||(y37.2 !=0))||(y44.2 !=0))||(y51.2 !=0))||(y58.2 !=0))||(y62.2.2 !=0))||(y69.2.2 !=0))||(y71.2.2 !=0))=true then some false else((bR y23.1 [1,3,5]).bind fun y92=>((if y92=true then((bR y30.1 [2,4,5,6]).bind fun y137=>some (y137))else(some (false))).bind fun b95=>((if b95=true then((bR y37.1 [12,14]).bind fun y134=>some (y134))else(some (false))).bind fun b98=>((if b98=true then((bR y44.1 [4]).bind fun y131=>some (y131))else(some (false))).bind fun b101=>((bR y51.1 [13,14]).bind fun y104=>((if y104=true then((bR y62.1 [5,6]).bind fun y128=>some (y128))else(some (false))).bind fun b107=>((if b107=true then((bR y71.1 [1]).bind fun y125=>some (y125))else(some (false))).bind fun b110=>((if b110=true then((bR y71.2.1 [1,2]).bind fun y122=>some (y122))else(some (false))).bind fun b113=>some ((((((b101&&b113)&&(y20.1==4))&&((y58.1.fNum==1)&&(y58.1.fDen==4)))&&(y62.2.1==17))&&(y69.1==12))&&(y69.2.1==7))))))))))))))))))))))
def fz (p0:TL) (s3:(Bool × Int × Int)):Option ((Bool × Int × Int) ⊕ ((Bool × Int × Int) ⊕ (Bool × Int × Int))) :=
 (if decide (s3.2.2<(p0.fC.length:Int))=true then ac ((0:Int)≤s3.2.2∧s3.2.2<(p0.fC.length:Int)) ((if decide (6<(((rdL p0.fC s3.2.2).fO.length:Nat):Int))=true then some (.inr (.inl (false,s3.2.1,s3.2.2)))else some (.inl (s3.1,min (w64 (s3.2.1*(max 1 (((rdL p0.fC s3.2.2).fO.length:Nat):Int)))) 10000,w64 (s3.2.2+1)))))else some (.inr (.inr (s3.1,s3.2.1,s3.2.2))))
def gr (p0:TL):Option Bool :=
 ((aL (fz p0) (false,1,0)).bind fun u4=>match u4 with|(.inl u9)=>some u9.1|(.inr u10)=>some ((((decide ((p0.fNo.length:Int)≤12))||((decide (60<(p0.fNo.length:Int)))&&(decide ((p0.fNo.length:Int)≤80))))&&((decide ((p0.fC.length:Int)≤12))||((decide (80<(p0.fC.length:Int)))&&(decide ((p0.fC.length:Int)≤100)))))&&((decide (u10.2.1≤64))||(decide (4096<u10.2.1)))))
def gx (p0:TL) (p1:Int) (s3:(Int × Int)):Option ((Int × Int) ⊕ ((Int × Int) ⊕ (Int × Int))) :=
 (if decide (s3.2<(p0.fNo.length:Int))=true then ac ((0:Int)≤s3.2∧s3.2<(p0.fNo.length:Int)) ((if(((rdL p0.fNo s3.2).fID)==p1)=true then some (.inr (.inl (s3.2,s3.2)))else some (.inl (s3.1,w64 (s3.2+1)))))else some (.inr (.inr (s3.1,s3.2))))
def gk (p0:TL) (p1:Int):Option Int :=
 ((aL (gx p0 p1) (0,0)).bind fun u4=>match u4 with|(.inl u9)=>some u9.1|(.inr u10)=>some (-1))
def fV (p0:TL) (s3:(Int × Int)):Option ((Int × Int) ⊕ (Int × Int)) :=
 (if decide (s3.2<(p0.fC.length:Int))=true then ac ((0:Int)≤s3.2∧s3.2<(p0.fC.length:Int)) (some (.inl (min (w64 (s3.1*(((rdL p0.fC s3.2).fO.length:Nat):Int))) 4097,w64 (s3.2+1))))else some (.inr (s3.1,s3.2)))
def kX (p0:TL):Option Int :=
 ((aL (fV p0) (1,0)).bind fun u4=>some u4.1)
def fQ (p0:TL) (p1:Int) (s3:(Int × Int)):Option ((Int × Int) ⊕ ((Int × Int) ⊕ (Int × Int))) :=
 (if decide (s3.2<(p0.fC.length:Int))=true then ac ((0:Int)≤s3.2∧s3.2<(p0.fC.length:Int)) ((if(((rdL p0.fC s3.2).fID)==p1)=true then some (.inr (.inl (s3.2,s3.2)))else some (.inl (s3.1,w64 (s3.2+1)))))else some (.inr (.inr (s3.1,s3.2))))
def fm (p0:TL) (p1:Int):Option Int :=
 ((aL (fQ p0 p1) (0,0)).bind fun u4=>match u4 with|(.inl u9)=>some u9.1|(.inr u10)=>some (-1))
def jD (p0:Int) (p1:Int) (p2:Int):Option Bool :=
 some ((decide (p1≤p0))&&(decide (p0≤p2)))
def dJ (p1:TC) (s10:(Bool × Int)) (s25:(Bool × Int)):Option ((Bool × Int) ⊕ ((Bool × Int) ⊕ (Bool × Int))) :=
 (if decide (s25.2<s10.2)=true then ac ((0:Int)≤s25.2∧s25.2<(p1.fO.length:Int)) (ac ((0:Int)≤s10.2∧s10.2<(p1.fO.length:Int)) ((if(((rdL p1.fO s25.2).fFrom==(rdL p1.fO s10.2).fFrom)&&((rdL p1.fO s25.2).fTo==(rdL p1.fO s10.2).fTo))=true then some (.inr (.inl (false,s25.2)))else some (.inl (s25.1,w64 (s25.2+1))))))else some (.inr (.inr (s25.1,s25.2))))
def fP (p0:TL) (p1:TC) (s10:(Bool × Int)):Option ((Bool × Int) ⊕ ((Bool × Int) ⊕ (Bool × Int))) :=
 (if decide (s10.2<(p1.fO.length:Int))=true then ac ((0:Int)≤s10.2∧s10.2<(p1.fO.length:Int)) (((gk p0 ((rdL p1.fO s10.2).fFrom)).bind fun y14=>ac ((0:Int)≤s10.2∧s10.2<(p1.fO.length:Int)) (((gk p0 ((rdL p1.fO s10.2).fTo)).bind fun y17=>((if((decide (y14<0))||(decide (y17<0)))=true then(some (true))else(ac ((0:Int)≤y14∧y14<(p0.fNo.length:Int)) (ac ((0:Int)≤y17∧y17<(p0.fNo.length:Int)) (some (decide ((rdL p0.fNo y17).fLevel≤(rdL p0.fNo y14).fLevel)))))).bind fun b21=>(if b21=true then some (.inr (.inl (false,s10.2)))else((aL (dJ p1 s10) (s10.1,0)).bind fun u26=>match u26 with|(.inl u32)=>some (.inr (.inl (u32.1,s10.2)))|(.inr u33)=>some (.inl (u33.1,w64 (s10.2+1))))))))))else some (.inr (.inr (s10.1,s10.2))))
def kT (p0:TL) (p1:TC):Option Bool :=
 ((jD p1.fID 1 1099511627776).bind fun y3=>((if(!y3)=true then(some (true))else((jD (p1.fO.length:Int) 1 4).bind fun y39=>some ((!y39)))).bind fun b6=>(if b6=true then some false else((aL (fP p0 p1) (false,0)).bind fun u11=>match u11 with|(.inl u37)=>some u37.1|(.inr u38)=>some true))))
def fT (p0:TL) (s5:(Int × Int)):Option ((Int × Int) ⊕ ((Int × Int) ⊕ (Int × Int))) :=
 (if decide (s5.2<(p0.fNo.length:Int))=true then ac ((0:Int)≤s5.2∧s5.2<(p0.fNo.length:Int)) (((jD ((rdL p0.fNo s5.2).fID) 1 1099511627776).bind fun y10=>((if(!y10)=true then(some (true))else((jD ((rdL p0.fNo s5.2).fLevel) 0 9).bind fun y24=>some ((!y24)))).bind fun b13=>((if b13=true then(some (true))else((jD ((rdL p0.fNo s5.2).fCost) 0 1073741824).bind fun y22=>some ((!y22)))).bind fun b16=>(if b16=true then some (.inr (.inl (1,s5.2)))else((gk p0 ((rdL p0.fNo s5.2).fID)).bind fun y19=>(if decide (y19<s5.2)=true then some (.inr (.inl (6,s5.2)))else some (.inl (s5.1,w64 (s5.2+1))))))))))else some (.inr (.inr (s5.1,s5.2))))
def fJ (p0:TL) (s30:(Int × Int)):Option ((Int × Int) ⊕ ((Int × Int) ⊕ (Int × Int))) :=
 (if decide (s30.2<(p0.fC.length:Int))=true then ac ((0:Int)≤s30.2∧s30.2<(p0.fC.length:Int)) (((kT p0 (TC.mk ((rdL p0.fC s30.2).fID) ((rdL p0.fC s30.2).fO))).bind fun y34=>(if(!y34)=true then some (.inr (.inl (1,s30.2)))else ac ((0:Int)≤s30.2∧s30.2<(p0.fC.length:Int)) (((fm p0 ((rdL p0.fC s30.2).fID)).bind fun y38=>(if decide (y38<s30.2)=true then some (.inr (.inl (6,s30.2)))else some (.inl (s30.1,w64 (s30.2+1)))))))))else some (.inr (.inr (s30.1,s30.2))))
def eI (p0:TL):Option Int :=
 (if((decide (60<(p0.fNo.length:Int)))||(decide (80<(p0.fC.length:Int))))=true then some 2 else((aL (fT p0) (0,0)).bind fun u6=>match u6 with|(.inl u27)=>some u27.1|(.inr u28)=>((aL (fJ p0) (u28.1,0)).bind fun u31=>match u31 with|(.inl u42)=>some u42.1|(.inr u43)=>((kX p0).bind fun y44=>(if decide (4096<y44)=true then some 2 else some 0)))))
def hQ (p0:(List Int)) (p1:Int) (s2:(Bool × Int)):Option ((Bool × Int) ⊕ ((Bool × Int) ⊕ (Bool × Int))) :=
 (if decide (s2.2<(p0.length:Int))=true then ac ((0:Int)≤s2.2∧s2.2<(p0.length:Int)) ((if((rdL p0 s2.2)==p1)=true then some (.inr (.inl (true,s2.2)))else some (.inl (s2.1,w64 (s2.2+1)))))else some (.inr (.inr (s2.1,s2.2))))
def mO (p0:(List Int)) (p1:Int):Option Bool :=
 ((aL (hQ p0 p1) (false,0)).bind fun u3=>match u3 with|(.inl u8)=>some u8.1|(.inr u9)=>some false)
def lj (p0:(List Int)) (p1:Int) (s2:Int):Option (Int ⊕ Int) :=
 ((if decide (0<s2)=true then(ac ((0:Int)≤w64 (s2-1)∧w64 (s2-1)<(p0.length:Int)) (some (decide (p1<(rdL p0 (w64 (s2-1)))))))else(some (false))).bind fun b5=>(if b5=true then some (.inl (w64 (s2-1)))else some (.inr s2)))
def qt (p0:(List Int)) (p1:Int):Option (List Int) :=
 ((aL (lj p0 p1) (p0.length:Int)).bind fun u3=>ac ((0:Int)≤u3∧u3≤(p0.length:Int)) (ac (0+(Int.toNat u3)≤1000000000) (ac ((0+(Int.toNat u3))+1≤1000000000) (ac ((0:Int)≤u3∧u3≤(p0.length:Int)) (ac (((0+(Int.toNat u3))+1)+(p0.length-Int.toNat u3)≤1000000000) (some (((([]:List Int)++(p0.take (Int.toNat u3)))++[p1])++(p0.drop (Int.toNat u3)))))))))
def df (p0:(List Int)) (s2:(Bool × Int)):Option ((Bool × Int) ⊕ ((Bool × Int) ⊕ (Bool × Int))) :=
 (if decide (s2.2<(p0.length:Int))=true then ac ((0:Int)≤s2.2∧s2.2<(p0.length:Int)) (ac ((0:Int)≤w64 (s2.2-1)∧w64 (s2.2-1)<(p0.length:Int)) ((if decide ((rdL p0 s2.2)≤(rdL p0 (w64 (s2.2-1))))=true then some (.inr (.inl (false,s2.2)))else some (.inl (s2.1,w64 (s2.2+1))))))else some (.inr (.inr (s2.1,s2.2))))
def jT (p0:(List Int)):Option Bool :=
 ((aL (df p0) (false,1)).bind fun u3=>match u3 with|(.inl u9)=>some u9.1|(.inr u10)=>some true)
def d9 (p0:TL) (p1:(List Int)) (s6:(Int × (List TC))):Option ((Int × (List TC)) ⊕ (Int × (List TC))) :=
 (if decide (s6.1<(p0.fC.length:Int))=true then ac ((0:Int)≤s6.1∧s6.1<(p0.fC.length:Int)) (((mO p1 ((rdL p0.fC s6.1).fID)).bind fun y10=>(if(!y10)=true then ac ((0:Int)≤s6.1∧s6.1<(p0.fC.length:Int)) (ac (s6.2.length+1≤1000000000) (some (.inl (w64 (s6.1+1),(s6.2++[(TC.mk ((rdL p0.fC s6.1).fID) ((rdL p0.fC s6.1).fO))])))))else some (.inl (w64 (s6.1+1),s6.2)))))else some (.inr (s6.1,s6.2)))
def gt (p0:TL) (p1:(List Int)):Option TL :=
 ((aL (d9 p0 p1) (0,([]:List TC))).bind fun u7=>some (TL.mk p0.fNo u7.2))
def gw (p0:TL) (p1:Int) (p2:(List TH)) (s6:(Int × (List TC))):Option ((Int × (List TC)) ⊕ (Int × (List TC))) :=
 (if decide (s6.1<(p0.fC.length:Int))=true then ac ((0:Int)≤s6.1∧s6.1<(p0.fC.length:Int)) ((if(s6.1==p1)=true then ac (s6.2.length+1≤1000000000) (some (.inl (w64 (s6.1+1),(s6.2++[(TC.mk ((rdL p0.fC s6.1).fID) p2)]))))else ac (s6.2.length+1≤1000000000) (some (.inl (w64 (s6.1+1),(s6.2++[(TC.mk ((rdL p0.fC s6.1).fID) ((rdL p0.fC s6.1).fO))]))))))else some (.inr (s6.1,s6.2)))
def kw (p0:TL) (p1:Int) (p2:(List TH)):Option TL :=
 ((aL (gw p0 p1 p2) (0,([]:List TC))).bind fun u7=>some (TL.mk p0.fNo u7.2))
def eh (p0:Int) (cap0:TL):Option Bool :=
 ((c9 cap0 p0).bind fun y1=>some (decide (0≤y1)))
def gG (p0:TL) (p1:(List Int)):Option Bool :=
 ((bz p1 (fun x2=>eb x2) (fun x3=>eh x3 p0)).bind fun y4=>some y4)
def eX (p0:TL) (p1:(List Int)) (s3:(Bool × Int)):Option ((Bool × Int) ⊕ ((Bool × Int) ⊕ (Bool × Int))) :=
 (if decide (s3.2<(p1.length:Int))=true then ac ((0:Int)≤s3.2∧s3.2<(p1.length:Int)) (((fm p0 (rdL p1 s3.2)).bind fun y7=>(if decide (y7<0)=true then some (.inr (.inl (false,s3.2)))else some (.inl (s3.1,w64 (s3.2+1))))))else some (.inr (.inr (s3.1,s3.2))))
def jW (p0:TL) (p1:(List Int)):Option Bool :=
 ((aL (eX p0 p1) (false,0)).bind fun u4=>match u4 with|(.inl u11)=>some u11.1|(.inr u12)=>((jT p1).bind fun y13=>some y13))
def dE (p0:TL) (p1:Int) (p2:Int):Option (Int × Int) :=
 ((ce p0).bind fun y2=>(if(y2 !=0)=true then some (0,y2)else((c9 p0 p1).bind fun y5=>(if decide (y5<0)=true then some (0,5)else ac ((0:Int)≤y5∧y5<(p0.fC.length:Int)) (((co p2 0 (w64 ((((rdL p0.fC y5).fO.length:Nat):Int)-1))).bind fun y9=>(if(!y9)=true then some (0,1)else some (y5,0))))))))
def kH (p0:TL) (p1:Int) (p2:Int):Option (TL × Int) :=
 ((dE p0 p1 p2).bind fun y3=>(if(y3.2 !=0)=true then some ((TL.mk [] []),y3.2)else ac ((0:Int)≤y3.1∧y3.1<(p0.fC.length:Int)) (ac ((0:Int)≤p2∧p2≤w64 (p2+1)∧w64 (p2+1)≤(((rdL p0.fC y3.1).fO.length:Nat):Int)) (((fi p0 y3.1 ((((rdL p0.fC y3.1).fO).drop (Int.toNat p2)).take (Int.toNat (w64 (p2+1))-Int.toNat p2))).bind fun y8=>some (y8,0))))))
def g9 (p0:TL) (p1:Int) (p2:Int):Option (Int × Int) :=
 ((eI p0).bind fun y2=>(if(y2 !=0)=true then some (0,y2)else((fm p0 p1).bind fun y5=>(if decide (y5<0)=true then some (0,5)else ac ((0:Int)≤y5∧y5<(p0.fC.length:Int)) (((jD p2 0 (w64 ((((rdL p0.fC y5).fO.length:Nat):Int)-1))).bind fun y9=>(if(!y9)=true then some (0,1)else some (y5,0))))))))
def lM (p0:TL) (p1:Int) (p2:Int):Option TMade :=
 ((g9 p0 p1 p2).bind fun y3=>(if(y3.2 !=0)=true then some (TMade.mk (TL.mk ([]:(List TN)) ([]:(List TC))) y3.2)else ac ((0:Int)≤y3.1∧y3.1<(p0.fC.length:Int)) (ac ((0:Int)≤p2∧p2≤w64 (p2+1)∧w64 (p2+1)≤(((rdL p0.fC y3.1).fO.length:Nat):Int)) (((kw p0 y3.1 ((((rdL p0.fC y3.1).fO).drop (Int.toNat p2)).take (Int.toNat (w64 (p2+1))-Int.toNat p2))).bind fun y8=>some (TMade.mk (TL.mk p0.fNo y8.fC) 0))))))
def dg (p0:(List TH)) (p1:Int) (p2:Int):Option (List TH) :=
 ac ((0:Int)≤p1∧p1≤p2∧p2≤(p0.length:Int)∧(p0.length:Int)≤(p0.length:Int)) ((if(p1==p2)=true then some p0 else ac ((0:Int)≤p1∧p1≤(p0.length:Int)) (ac ((0:Int)≤p2∧p2≤(p0.length:Int)) (ac (p1≤p2) (some (p0.take (Int.toNat p1)++p0.drop (Int.toNat p2)))))))
def iN (p0:TL) (p1:Int) (p2:Int):Option (TL × Int) :=
 ((dE p0 p1 p2).bind fun y3=>(if(y3.2 !=0)=true then some ((TL.mk [] []),y3.2)else ac ((0:Int)≤y3.1∧y3.1<(p0.fC.length:Int)) (((bp ((rdL p0.fC y3.1).fO)).bind fun y7=>((dg y7 p2 (w64 (p2+1))).bind fun y13=>(if((y13.length:Int)==0)=true then some ((TL.mk [] []),9)else((fi p0 y3.1 y13).bind fun y18=>some (y18,0))))))))
def fc (p0:TL) (p2:Int) (y3:(Int × Int)) (s8:(Int × (List TH))):Option ((Int × (List TH)) ⊕ (Int × (List TH))) :=
 ac ((0:Int)≤y3.1∧y3.1<(p0.fC.length:Int)) ((if decide (s8.1<(((rdL p0.fC y3.1).fO.length:Nat):Int))=true then(if(s8.1 !=p2)=true then ac ((0:Int)≤y3.1∧y3.1<(p0.fC.length:Int)) (ac ((0:Int)≤s8.1∧s8.1<(((rdL p0.fC y3.1).fO.length:Nat):Int)) (ac (s8.2.length+1≤1000000000) (some (.inl (w64 (s8.1+1),(s8.2++[(TH.mk ((rdL ((rdL p0.fC y3.1).fO) s8.1).fFrom) ((rdL ((rdL p0.fC y3.1).fO) s8.1).fTo))]))))))else some (.inl (w64 (s8.1+1),s8.2)))else some (.inr (s8.1,s8.2))))
def jV (p0:TL) (p1:Int) (p2:Int):Option TMade :=
 ((g9 p0 p1 p2).bind fun y3=>(if(y3.2 !=0)=true then some (TMade.mk (TL.mk ([]:(List TN)) ([]:(List TC))) y3.2)else((aL (fc p0 p2 y3) (0,([]:List TH))).bind fun u9=>(if((u9.2.length:Int)==0)=true then some (TMade.mk (TL.mk ([]:(List TN)) ([]:(List TC))) 9)else((kw p0 y3.1 u9.2).bind fun y21=>some (TMade.mk (TL.mk p0.fNo y21.fC) 0))))))
def bn (p0:(List TC)) (p1:TC→Option Bool) (s6:(Int × Int × (List TC))):Option ((Int × Int × (List TC)) ⊕ (Int × Int × (List TC))) :=
 (if decide (s6.2.1<(p0.length:Int))=true then ac ((0:Int)≤s6.2.1∧s6.2.1<(p0.length:Int)) (((p1 (TC.mk ((rdL s6.2.2 s6.2.1).fID) ((rdL s6.2.2 s6.2.1).fO))).bind fun y11=>(if(!y11)=true then ac ((0:Int)≤s6.1∧s6.1<(p0.length:Int)) (some (.inl (w64 (s6.1+1),w64 (s6.2.1+1),(s6.2.2.set (Int.toNat s6.1) (TC.mk ((rdL s6.2.2 s6.2.1).fID) ((rdL s6.2.2 s6.2.1).fO))))))else some (.inl (s6.1,w64 (s6.2.1+1),s6.2.2)))))else some (.inr (s6.1,s6.2.1,s6.2.2)))
def bJ (p0:(List TC)) (p1:TC→Option Bool):Option (List TC) :=
 ((aR p0 p1).bind fun y1=>(if(y1==(-1))=true then some p0 else((aL (bn p0 p1) (y1,w64 (y1+1),p0)).bind fun u7=>ac ((0:Int)≤u7.1∧u7.1≤(p0.length:Int)) (ac ((0:Int)≤u7.1∧u7.1≤(p0.length:Int)) (some (u7.2.2.take (Int.toNat u7.1)))))))
def fx (p0:TC) (cap0:(List Int)):Option Bool :=
 ((a5 cap0 p0.fID).bind fun y2=>some y2)
def gK (p0:TL) (p1:(List Int)):Option (TL × Int) :=
 ((ce p0).bind fun y4=>(if(y4 !=0)=true then some ((TL.mk [] []),y4)else((gG p0 p1).bind fun y7=>(if(!y7)=true then some ((TL.mk [] []),1)else((cJ p0).bind fun y10=>((bJ y10.fC (fun x29=>fx x29 p1)).bind fun y30=>some ((TL.mk y10.fNo y30),0)))))))
def iu (p0:TL) (p1:(List Int)):Option TMade :=
 ((eI p0).bind fun y3=>((if(y3==0)=true then((jW p0 p1).bind fun y39=>some ((!y39)))else(some (false))).bind fun b6=>(if b6=true then(if(1 !=0)=true then some (TMade.mk (TL.mk ([]:(List TN)) ([]:(List TC))) 1)else((gt p0 p1).bind fun y10=>some (TMade.mk (TL.mk p0.fNo y10.fC) 0)))else(if(y3 !=0)=true then some (TMade.mk (TL.mk ([]:(List TN)) ([]:(List TC))) y3)else((gt p0 p1).bind fun y25=>some (TMade.mk (TL.mk p0.fNo y25.fC) 0))))))
def iv (p0:(List TH)) (p1:(List TH)) (s3:(Bool × Int)):Option ((Bool × Int) ⊕ ((Bool × Int) ⊕ (Bool × Int))) :=
 (if decide (s3.2<(p0.length:Int))=true then ac ((0:Int)≤s3.2∧s3.2<(p0.length:Int)) (ac ((0:Int)≤s3.2∧s3.2<(p1.length:Int)) ((if(!(((rdL p0 s3.2).fFrom==(rdL p1 s3.2).fFrom)&&((rdL p0 s3.2).fTo==(rdL p1 s3.2).fTo)))=true then some (.inr (.inl (false,s3.2)))else some (.inl (s3.1,w64 (s3.2+1))))))else some (.inr (.inr (s3.1,s3.2))))
def eP (p0:(List TH)) (p1:(List TH)):Option Bool :=
 (if((p0.length:Int) !=(p1.length:Int))=true then some false else((aL (iv p0 p1) (false,0)).bind fun u4=>match u4 with|(.inl u10)=>some u10.1|(.inr u11)=>some true))
def kJ (p0:TC) (p1:TC):Option Bool :=
 ((if(p0.fID==p1.fID)=true then((eP p0.fO p1.fO).bind fun y6=>some (y6))else(some (false))).bind fun b4=>some b4)
def fS (p0:TL) (y30:TL) (s53:(Bool × Int × (List TN))):Option ((Bool × Int × (List TN)) ⊕ (Bool × Int × (List TN))) :=
 (if decide (s53.2.1<(y30.fNo.length:Int))=true then ac ((0:Int)≤s53.2.1∧s53.2.1<(y30.fNo.length:Int)) (((bV p0 ((rdL y30.fNo s53.2.1).fID)).bind fun y58=>(if decide (y58<0)=true then ac (s53.2.2.length+1≤1000000000) (some (.inl (s53.1,w64 (s53.2.1+1),(s53.2.2++[(TN.mk ((rdL y30.fNo s53.2.1).fID) ((rdL y30.fNo s53.2.1).fLevel) ((rdL y30.fNo s53.2.1).fCost))]))))else((if s53.1=true then(some (true))else(ac ((0:Int)≤y58∧y58<(p0.fNo.length:Int)) (some ((!(((rdL p0.fNo y58).fID==(rdL y30.fNo s53.2.1).fID)&&(((rdL p0.fNo y58).fLevel==(rdL y30.fNo s53.2.1).fLevel)&&((rdL p0.fNo y58).fCost==(rdL y30.fNo s53.2.1).fCost)))))))).bind fun b66=>some (.inl (b66,w64 (s53.2.1+1),s53.2.2))))))else some (.inr (s53.1,s53.2.1,s53.2.2)))
def fI (p0:TL) (y30:TL) (s72:(Bool × Int × (List TC))):Option ((Bool × Int × (List TC)) ⊕ (Bool × Int × (List TC))) :=
 (if decide (s72.2.1<(y30.fC.length:Int))=true then ac ((0:Int)≤s72.2.1∧s72.2.1<(y30.fC.length:Int)) (((c9 p0 ((rdL y30.fC s72.2.1).fID)).bind fun y77=>(if decide (y77<0)=true then ac (s72.2.2.length+1≤1000000000) (some (.inl (s72.1,w64 (s72.2.1+1),(s72.2.2++[(TC.mk ((rdL y30.fC s72.2.1).fID) ((rdL y30.fC s72.2.1).fO))]))))else((if s72.1=true then(some (true))else(ac ((0:Int)≤y77∧y77<(p0.fC.length:Int)) (((kJ (TC.mk ((rdL p0.fC y77).fID) ((rdL p0.fC y77).fO)) (TC.mk ((rdL y30.fC s72.2.1).fID) ((rdL y30.fC s72.2.1).fO))).bind fun y88=>some ((!y88)))))).bind fun b85=>some (.inl (b85,w64 (s72.2.1+1),s72.2.2))))))else some (.inr (s72.1,s72.2.1,s72.2.2)))
def kD (p0:TL) (p1:TL):Option (TL × Int) :=
 ((ce p0).bind fun y4=>(if(y4 !=0)=true then some ((TL.mk [] []),y4)else((ce p1).bind fun y7=>(if(y7 !=0)=true then some ((TL.mk [] []),y7)else((cJ p0).bind fun y11=>((cJ p1).bind fun y30=>((aL (fS p0 y30) (false,0,y11.fNo)).bind fun u54=>((aL (fI p0 y30) (u54.1,0,y11.fC)).bind fun u73=>(if u73.1=true then some ((TL.mk [] []),9)else((ce (TL.mk u54.2.2 u73.2.2)).bind fun y92=>(if(y92 !=0)=true then some ((TL.mk [] []),y92)else some ((TL.mk u54.2.2 u73.2.2),0))))))))))))
def gq (p0:(List TH)) (p1:(List TH)) (s3:(Bool × Int)):Option ((Bool × Int) ⊕ ((Bool × Int) ⊕ (Bool × Int))) :=
 (if decide (s3.2<(p0.length:Int))=true then ac ((0:Int)≤s3.2∧s3.2<(p0.length:Int)) (ac ((0:Int)≤s3.2∧s3.2<(p1.length:Int)) ((if(!(((rdL p0 s3.2).fFrom==(rdL p1 s3.2).fFrom)&&((rdL p0 s3.2).fTo==(rdL p1 s3.2).fTo)))=true then some (.inr (.inl (false,s3.2)))else some (.inl (s3.1,w64 (s3.2+1))))))else some (.inr (.inr (s3.1,s3.2))))
def dH (p0:(List TH)) (p1:(List TH)):Option Bool :=
 (if((p0.length:Int) !=(p1.length:Int))=true then some false else((aL (gq p0 p1) (false,0)).bind fun u4=>match u4 with|(.inl u10)=>some u10.1|(.inr u11)=>some true))
def fo (p0:TL) (p1:TL) (s22:(Int × (List TN) × Int)):Option ((Int × (List TN) × Int) ⊕ ((Int × (List TN) × Int) ⊕ (Int × (List TN) × Int))) :=
 (if decide (s22.1<(p1.fNo.length:Int))=true then ac ((0:Int)≤s22.1∧s22.1<(p1.fNo.length:Int)) (((gk p0 ((rdL p1.fNo s22.1).fID)).bind fun y26=>(if decide (y26<0)=true then ac ((0:Int)≤s22.1∧s22.1<(p1.fNo.length:Int)) (ac (s22.2.1.length+1≤1000000000) (some (.inl (w64 (s22.1+1),(s22.2.1++[(TN.mk ((rdL p1.fNo s22.1).fID) ((rdL p1.fNo s22.1).fLevel) ((rdL p1.fNo s22.1).fCost))]),s22.2.2))))else ac ((0:Int)≤y26∧y26<(p0.fNo.length:Int)) (ac ((0:Int)≤s22.1∧s22.1<(p1.fNo.length:Int)) ((if(!(((rdL p0.fNo y26).fID==(rdL p1.fNo s22.1).fID)&&(((rdL p0.fNo y26).fLevel==(rdL p1.fNo s22.1).fLevel)&&((rdL p0.fNo y26).fCost==(rdL p1.fNo s22.1).fCost))))=true then some (.inr (.inl (s22.1,s22.2.1,9)))else some (.inl (w64 (s22.1+1),s22.2.1,s22.2.2))))))))else some (.inr (.inr (s22.1,s22.2.1,s22.2.2))))
def fq (p0:TL) (p1:TL) (s43:(Int × (List TC) × Int)):Option ((Int × (List TC) × Int) ⊕ ((Int × (List TC) × Int) ⊕ (Int × (List TC) × Int))) :=
 (if decide (s43.1<(p1.fC.length:Int))=true then ac ((0:Int)≤s43.1∧s43.1<(p1.fC.length:Int)) (((fm p0 ((rdL p1.fC s43.1).fID)).bind fun y47=>(if decide (y47<0)=true then ac ((0:Int)≤s43.1∧s43.1<(p1.fC.length:Int)) (ac (s43.2.1.length+1≤1000000000) (some (.inl (w64 (s43.1+1),(s43.2.1++[(TC.mk ((rdL p1.fC s43.1).fID) ((rdL p1.fC s43.1).fO))]),s43.2.2))))else ac ((0:Int)≤y47∧y47<(p0.fC.length:Int)) (ac ((0:Int)≤s43.1∧s43.1<(p1.fC.length:Int)) (((dH ((rdL p0.fC y47).fO) ((rdL p1.fC s43.1).fO)).bind fun y58=>(if(!y58)=true then some (.inr (.inl (s43.1,s43.2.1,9)))else some (.inl (w64 (s43.1+1),s43.2.1,s43.2.2)))))))))else some (.inr (.inr (s43.1,s43.2.1,s43.2.2))))
def nw (p0:TL) (p1:TL) (s80:(Int × (List TN) × Int)):Option ((Int × (List TN) × Int) ⊕ ((Int × (List TN) × Int) ⊕ (Int × (List TN) × Int))) :=
 (if decide (s80.1<(p1.fNo.length:Int))=true then ac ((0:Int)≤s80.1∧s80.1<(p1.fNo.length:Int)) (((gk p0 ((rdL p1.fNo s80.1).fID)).bind fun y84=>(if decide (y84<0)=true then ac ((0:Int)≤s80.1∧s80.1<(p1.fNo.length:Int)) (ac (s80.2.1.length+1≤1000000000) (some (.inl (w64 (s80.1+1),(s80.2.1++[(TN.mk ((rdL p1.fNo s80.1).fID) ((rdL p1.fNo s80.1).fLevel) ((rdL p1.fNo s80.1).fCost))]),s80.2.2))))else ac ((0:Int)≤y84∧y84<(p0.fNo.length:Int)) (ac ((0:Int)≤s80.1∧s80.1<(p1.fNo.length:Int)) ((if(!(((rdL p0.fNo y84).fID==(rdL p1.fNo s80.1).fID)&&(((rdL p0.fNo y84).fLevel==(rdL p1.fNo s80.1).fLevel)&&((rdL p0.fNo y84).fCost==(rdL p1.fNo s80.1).fCost))))=true then some (.inr (.inl (s80.1,s80.2.1,9)))else some (.inl (w64 (s80.1+1),s80.2.1,s80.2.2))))))))else some (.inr (.inr (s80.1,s80.2.1,s80.2.2))))
def ob (p0:TL) (p1:TL) (s101:(Int × (List TC) × Int)):Option ((Int × (List TC) × Int) ⊕ ((Int × (List TC) × Int) ⊕ (Int × (List TC) × Int))) :=
 (if decide (s101.1<(p1.fC.length:Int))=true then ac ((0:Int)≤s101.1∧s101.1<(p1.fC.length:Int)) (((fm p0 ((rdL p1.fC s101.1).fID)).bind fun y105=>(if decide (y105<0)=true then ac ((0:Int)≤s101.1∧s101.1<(p1.fC.length:Int)) (ac (s101.2.1.length+1≤1000000000) (some (.inl (w64 (s101.1+1),(s101.2.1++[(TC.mk ((rdL p1.fC s101.1).fID) ((rdL p1.fC s101.1).fO))]),s101.2.2))))else ac ((0:Int)≤y105∧y105<(p0.fC.length:Int)) (ac ((0:Int)≤s101.1∧s101.1<(p1.fC.length:Int)) (((dH ((rdL p0.fC y105).fO) ((rdL p1.fC s101.1).fO)).bind fun y116=>(if(!y116)=true then some (.inr (.inl (s101.1,s101.2.1,9)))else some (.inl (w64 (s101.1+1),s101.2.1,s101.2.2)))))))))else some (.inr (.inr (s101.1,s101.2.1,s101.2.2))))
def lR (p0:TL) (p1:TL):Option TMade :=
 ((eI p0).bind fun y4=>(if(y4==0)=true then((eI p1).bind fun y7=>(if(y7 !=0)=true then some (TMade.mk (TL.mk [] []) y7)else ac (0+p0.fNo.length≤1000000000) (ac (0+p0.fC.length≤1000000000) (((aL (fo p0 p1) (0,(([]:List TN)++p0.fNo),0)).bind fun u23=>match u23 with|(.inl u39)=>some (TMade.mk (TL.mk ([]:List TN) ([]:List TC)) u39.2.2)|(.inr u40)=>((aL (fq p0 p1) (0,(([]:List TC)++p0.fC),u40.2.2)).bind fun u44=>match u44 with|(.inl u62)=>some (TMade.mk (TL.mk ([]:List TN) ([]:List TC)) u62.2.2)|(.inr u63)=>((eI (TL.mk u40.2.1 u63.2.1)).bind fun y64=>(if(y64 !=0)=true then some (TMade.mk (TL.mk [] []) y64)else some (TMade.mk (TL.mk u40.2.1 u63.2.1) 0)))))))))else(if(y4 !=0)=true then some (TMade.mk (TL.mk [] []) y4)else ac (0+p0.fNo.length≤1000000000) (ac (0+p0.fC.length≤1000000000) (((aL (nw p0 p1) (0,(([]:List TN)++p0.fNo),0)).bind fun u81=>match u81 with|(.inl u97)=>some (TMade.mk (TL.mk ([]:List TN) ([]:List TC)) u97.2.2)|(.inr u98)=>((aL (ob p0 p1) (0,(([]:List TC)++p0.fC),u98.2.2)).bind fun u102=>match u102 with|(.inl u120)=>some (TMade.mk (TL.mk ([]:List TN) ([]:List TC)) u120.2.2)|(.inr u121)=>((eI (TL.mk u98.2.1 u121.2.1)).bind fun y122=>(if(y122 !=0)=true then some (TMade.mk (TL.mk [] []) y122)else some (TMade.mk (TL.mk u98.2.1 u121.2.1) 0))))))))))
def cP (p0:TL) (p1:TL) (s6:(Bool × Int)):Option ((Bool × Int) ⊕ ((Bool × Int) ⊕ (Bool × Int))) :=
 (if decide (s6.2<(p0.fNo.length:Int))=true then ac ((0:Int)≤s6.2∧s6.2<(p0.fNo.length:Int)) (ac ((0:Int)≤s6.2∧s6.2<(p1.fNo.length:Int)) ((if(!(((rdL p0.fNo s6.2).fID==(rdL p1.fNo s6.2).fID)&&(((rdL p0.fNo s6.2).fLevel==(rdL p1.fNo s6.2).fLevel)&&((rdL p0.fNo s6.2).fCost==(rdL p1.fNo s6.2).fCost))))=true then some (.inr (.inl (false,s6.2)))else some (.inl (s6.1,w64 (s6.2+1))))))else some (.inr (.inr (s6.1,s6.2))))
def cO (p0:TL) (p1:TL) (s16:(Bool × Int)):Option ((Bool × Int) ⊕ ((Bool × Int) ⊕ (Bool × Int))) :=
 (if decide (s16.2<(p0.fC.length:Int))=true then ac ((0:Int)≤s16.2∧s16.2<(p0.fC.length:Int)) (ac ((0:Int)≤s16.2∧s16.2<(p1.fC.length:Int)) (((dH ((rdL p0.fC s16.2).fO) ((rdL p1.fC s16.2).fO)).bind fun y21=>ac ((0:Int)≤s16.2∧s16.2<(p0.fC.length:Int)) (ac ((0:Int)≤s16.2∧s16.2<(p1.fC.length:Int)) ((if((((rdL p0.fC s16.2).fID) !=((rdL p1.fC s16.2).fID))||(!y21))=true then some (.inr (.inl (false,s16.2)))else some (.inl (s16.1,w64 (s16.2+1)))))))))else some (.inr (.inr (s16.1,s16.2))))
def cx (p0:TL) (p1:TL):Option Bool :=
 (if(((p0.fNo.length:Int) !=(p1.fNo.length:Int))||((p0.fC.length:Int) !=(p1.fC.length:Int)))=true then some false else((aL (cP p0 p1) (false,0)).bind fun u7=>match u7 with|(.inl u13)=>some u13.1|(.inr u14)=>((aL (cO p0 p1) (u14.1,0)).bind fun u17=>match u17 with|(.inl u28)=>some u28.1|(.inr u29)=>some true)))
def dU (p0:TL) (p1:TL) (p2:Int) (p3:Int) (p4:(List Int)):Option Bool :=
 ((fR).bind fun y3=>((gr p0).bind fun y5=>((if(!y5)=true then(some (true))else((gr p1).bind fun y198=>some ((!y198)))).bind fun b8=>(if(b8||(decide (100<(p4.length:Int))))=true then some y3 else((kH p0 p2 p3).bind fun y12=>((lM p0 p2 p3).bind fun y31=>((iN p0 p2 p3).bind fun y54=>((jV p0 p2 p3).bind fun y73=>((gK p0 p4).bind fun y96=>((iu p0 p4).bind fun y115=>((kD p0 p1).bind fun y138=>((lR p0 p1).bind fun y157=>((cx y12.1 y31.fL).bind fun y176=>((if y176=true then((cx y54.1 y73.fL).bind fun y196=>some (y196))else(some (false))).bind fun b179=>((if b179=true then((cx y96.1 y115.fL).bind fun y194=>some (y194))else(some (false))).bind fun b182=>((if b182=true then((cx y138.1 y157.fL).bind fun y192=>some (y192))else(some (false))).bind fun b185=>some (((((y3&&b185)&&(y12.2==y31.fE))&&(y54.2==y73.fE))&&(y96.2==y115.fE))&&(y138.2==y157.fE))))))))))))))))))
end
end Go.Proofs.YtbblpokfbmekfaaGreat
