import Derived.Test.YtbblpokfbmekfaaGreatGs
set_option linter.unusedVariables false
namespace Go.Proofs.YtbblpokfbmekfaaGreat
noncomputable section
structure TN where
 fID:Int
 fLevel:Int
 fCost:Int
 deriving DecidableEq
instance:Inhabited TN:=⟨⟨default,default,default⟩⟩
def TNode_rg (x:TN):Prop:=Rg_i64 x.fID∧Rg_i64 x.fLevel∧Rg_i64 x.fCost
structure TH where
 fFrom:Int
 fTo:Int
 deriving DecidableEq
instance:Inhabited TH:=⟨⟨default,default⟩⟩
def THop_rg (x:TH):Prop:=Rg_i64 x.fFrom∧Rg_i64 x.fTo
structure TC where
 fID:Int
 fO:(List TH)
 deriving DecidableEq
instance:Inhabited TC:=⟨⟨default,default⟩⟩
def TClaim_rg (x:TC):Prop:=Rg_i64 x.fID∧(kg THop_rg x.fO)
structure TL where
 fNo:(List TN)
 fC:(List TC)
 deriving DecidableEq
instance:Inhabited TL:=⟨⟨default,default⟩⟩
def TLineage_rg (x:TL):Prop:=(kg TNode_rg x.fNo)∧(kg TClaim_rg x.fC)
structure TRatio where
 fNum:Int
 fDen:Int
 deriving DecidableEq
instance:Inhabited TRatio:=⟨⟨default,default⟩⟩
def TRatio_rg (x:TRatio):Prop:=Rg_i64 x.fNum∧Rg_i64 x.fDen
structure Tasking where
 f_id:Int
 f_left:Int
 deriving DecidableEq
instance:Inhabited Tasking:=⟨⟨default,default⟩⟩
def Tasking_rg (x:Tasking):Prop:=Rg_i64 x.f_id∧Rg_i64 x.f_left
structure TTwo where
 fA:(List Int)
 fB:(List Int)
 fE:Int
 deriving DecidableEq
instance:Inhabited TTwo:=⟨⟨default,default,default⟩⟩
def TTwo_rg (x:TTwo):Prop:=(kg Rg_i64 x.fA)∧(kg Rg_i64 x.fB)∧Rg_i64 x.fE
structure TBill where
 fL:(List Int)
 fN:Int
 fE:Int
 deriving DecidableEq
instance:Inhabited TBill:=⟨⟨default,default,default⟩⟩
def TBill_rg (x:TBill):Prop:=(kg Rg_i64 x.fL)∧Rg_i64 x.fN∧Rg_i64 x.fE
structure TInts where
 fL:(List Int)
 fE:Int
 deriving DecidableEq
instance:Inhabited TInts:=⟨⟨default,default⟩⟩
def TInts_rg (x:TInts):Prop:=(kg Rg_i64 x.fL)∧Rg_i64 x.fE
structure TTrace where
 fCase:(List Int)
 fC:(List Int)
 deriving DecidableEq
instance:Inhabited TTrace:=⟨⟨default,default⟩⟩
def TTrace_rg (x:TTrace):Prop:=(kg Rg_i64 x.fCase)∧(kg Rg_i64 x.fC)
structure TMade where
 fL:TL
 fE:Int
 deriving DecidableEq
instance:Inhabited TMade:=⟨⟨default,default⟩⟩
def TMade_rg (x:TMade):Prop:=(kg TNode_rg x.fL.fNo)∧(kg TClaim_rg x.fL.fC)∧Rg_i64 x.fE
def aQ (p0:(List TN)) (p1:TN→Option Bool) (s2:(Int × Int)):Option ((Int × Int) ⊕ ((Int × Int) ⊕ (Int × Int))) :=
 (if decide (s2.2<(p0.length:Int))=true then ac ((0:Int)≤s2.2∧s2.2<(p0.length:Int)) (((p1 (TN.mk ((rdL p0 s2.2).fID) ((rdL p0 s2.2).fLevel) ((rdL p0 s2.2).fCost))).bind fun y6=>(if y6=true then some (.inr (.inl (s2.2,s2.2)))else some (.inl (s2.1,w64 (s2.2+1))))))else some (.inr (.inr (s2.1,s2.2))))
def bf (p0:(List TN)) (p1:TN→Option Bool):Option Int :=
 ((aH (aQ p0 p1) (0,0)).bind fun u3=>match u3 with|(.inl u10)=>some u10.1|(.inr u11)=>some (-1))
def dS (p0:TN) (cap0:Int):Option Bool :=
 some (p0.fID==cap0)
def cn (p0:TL) (p1:Int):Option Int :=
 ((bf p0.fNo (fun x3=>dS x3 p1)).bind fun y4=>some y4)
def aM (p0:(List TC)) (p1:TC→Option Bool) (s2:(Int × Int)):Option ((Int × Int) ⊕ ((Int × Int) ⊕ (Int × Int))) :=
 (if decide (s2.2<(p0.length:Int))=true then ac ((0:Int)≤s2.2∧s2.2<(p0.length:Int)) (((p1 (TC.mk ((rdL p0 s2.2).fID) ((rdL p0 s2.2).fO))).bind fun y6=>(if y6=true then some (.inr (.inl (s2.2,s2.2)))else some (.inl (s2.1,w64 (s2.2+1))))))else some (.inr (.inr (s2.1,s2.2))))
def aS (p0:(List TC)) (p1:TC→Option Bool):Option Int :=
 ((aH (aM p0 p1) (0,0)).bind fun u3=>match u3 with|(.inl u10)=>some u10.1|(.inr u11)=>some (-1))
def dW (p0:TC) (cap0:Int):Option Bool :=
 some (p0.fID==cap0)
def dH (p0:TL) (p1:Int):Option Int :=
 ((aS p0.fC (fun x3=>dW x3 p1)).bind fun y4=>some y4)
def cp (p0:Int) (p1:Int) (p2:Int):Option Bool :=
 some ((decide (p1≤p0))&&(decide (p0≤p2)))
def bi (p0:(List TH)) (p1:TH) (s3:(Int × Int)):Option ((Int × Int) ⊕ ((Int × Int) ⊕ (Int × Int))) :=
 (if decide (s3.2<(p0.length:Int))=true then ac ((0:Int)≤s3.2∧s3.2<(p0.length:Int)) ((if((p1.fFrom==(rdL p0 s3.2).fFrom)&&(p1.fTo==(rdL p0 s3.2).fTo))=true then some (.inr (.inl (s3.2,s3.2)))else some (.inl (s3.1,w64 (s3.2+1)))))else some (.inr (.inr (s3.1,s3.2))))
def bZ (p0:(List TH)) (p1:TH):Option Int :=
 ((aH (bi p0 p1) (0,0)).bind fun u4=>match u4 with|(.inl u9)=>some u9.1|(.inr u10)=>some (-1))
def bG (p0:(List TH)) (p1:TH):Option Bool :=
 ((bZ p0 p1).bind fun y2=>some (decide (0≤y2)))
def cz (p0:TL) (p1:(List TH)) (s6:(Bool × Int)):Option ((Bool × Int) ⊕ ((Bool × Int) ⊕ (Bool × Int))) :=
 (if decide (s6.2<(p1.length:Int))=true then ac ((0:Int)≤s6.2∧s6.2<(p1.length:Int)) (((cn p0 ((rdL p1 s6.2).fFrom)).bind fun y11=>((cn p0 ((rdL p1 s6.2).fTo)).bind fun y13=>((if((decide (y11<0))||(decide (y13<0)))=true then(some (true))else(ac ((0:Int)≤y11∧y11<(p0.fNo.length:Int)) (ac ((0:Int)≤y13∧y13<(p0.fNo.length:Int)) (some (decide ((rdL p0.fNo y13).fLevel≤(rdL p0.fNo y11).fLevel)))))).bind fun b17=>((if b17=true then(some (true))else(ac ((0:Int)≤s6.2∧s6.2≤(p1.length:Int)) (((bG (p1.take (Int.toNat s6.2)) (TH.mk ((rdL p1 s6.2).fFrom) ((rdL p1 s6.2).fTo))).bind fun y24=>some (y24))))).bind fun b20=>(if b20=true then some (.inr (.inl (false,s6.2)))else some (.inl (s6.1,w64 (s6.2+1)))))))))else some (.inr (.inr (s6.1,s6.2))))
def eQ (p0:TL) (p1:(List TH)):Option Bool :=
 ((cp (p1.length:Int) 1 4).bind fun y2=>(if(!y2)=true then some false else((aH (cz p0 p1) (false,0)).bind fun u7=>match u7 with|(.inl u29)=>some u29.1|(.inr u30)=>some true)))
def dg (p0:TL) (s5:(Int × Int)):Option ((Int × Int) ⊕ ((Int × Int) ⊕ (Int × Int))) :=
 (if decide (s5.2<(p0.fNo.length:Int))=true then ac ((0:Int)≤s5.2∧s5.2<(p0.fNo.length:Int)) (((cp ((rdL p0.fNo s5.2).fID) 1 1099511627776).bind fun y10=>((if(!y10)=true then(some (true))else((cp ((rdL p0.fNo s5.2).fLevel) 0 9).bind fun y24=>some ((!y24)))).bind fun b13=>((if b13=true then(some (true))else((cp ((rdL p0.fNo s5.2).fCost) 0 1073741824).bind fun y22=>some ((!y22)))).bind fun b16=>(if b16=true then some (.inr (.inl (1,s5.2)))else((cn p0 ((rdL p0.fNo s5.2).fID)).bind fun y19=>(if decide (y19<s5.2)=true then some (.inr (.inl (6,s5.2)))else some (.inl (s5.1,w64 (s5.2+1))))))))))else some (.inr (.inr (s5.1,s5.2))))
def dr (p0:TL) (s30:(Int × Int × Int)):Option ((Int × Int × Int) ⊕ ((Int × Int × Int) ⊕ (Int × Int × Int))) :=
 (if decide (s30.2.2<(p0.fC.length:Int))=true then ac ((0:Int)≤s30.2.2∧s30.2.2<(p0.fC.length:Int)) (((cp ((rdL p0.fC s30.2.2).fID) 1 1099511627776).bind fun y35=>((if(!y35)=true then(some (true))else((eQ p0 ((rdL p0.fC s30.2.2).fO)).bind fun y44=>some ((!y44)))).bind fun b38=>(if b38=true then some (.inr (.inl (1,s30.2.1,s30.2.2)))else((dH p0 ((rdL p0.fC s30.2.2).fID)).bind fun y41=>(if decide (y41<s30.2.2)=true then some (.inr (.inl (6,s30.2.1,s30.2.2)))else some (.inl (s30.1,min (w64 (s30.2.1*(((rdL p0.fC s30.2.2).fO.length:Nat):Int))) 4097,w64 (s30.2.2+1)))))))))else some (.inr (.inr (s30.1,s30.2.1,s30.2.2))))
def eJ (p0:TL):Option Int :=
 (if((decide (60<(p0.fNo.length:Int)))||(decide (80<(p0.fC.length:Int))))=true then some 2 else((aH (dg p0) (0,0)).bind fun u6=>match u6 with|(.inl u27)=>some u27.1|(.inr u28)=>((aH (dr p0) (u28.1,1,0)).bind fun u31=>match u31 with|(.inl u47)=>some u47.1|(.inr u48)=>(if decide (4096<u48.2.1)=true then some 2 else some 0))))
def df (p0:Int):Option Bool :=
 some (p0 !=p0)
def jX (p0:Int) (p1:Int):Option Bool :=
 ((df p0).bind fun y1=>((if y1=true then((df p1).bind fun y7=>some ((!y7)))else(some (false))).bind fun b4=>some (b4||(decide (p0<p1)))))
def aW (p0:(List Int)) (p1:Int) (s8:(Int × (List Int))):Option ((Int × (List Int)) ⊕ (Int × (List Int))) :=
 ((if decide (p1<s8.1)=true then(ac ((0:Int)≤s8.1∧s8.1<(p0.length:Int)) (ac ((0:Int)≤w64 (s8.1-1)∧w64 (s8.1-1)<(p0.length:Int)) (((jX (rdL s8.2 s8.1) (rdL s8.2 (w64 (s8.1-1)))).bind fun y21=>some (y21)))))else(some (false))).bind fun b11=>(if b11=true then ac ((0:Int)≤w64 (s8.1-1)∧w64 (s8.1-1)<(p0.length:Int)) (ac ((0:Int)≤s8.1∧s8.1<(p0.length:Int)) (ac ((0:Int)≤s8.1∧s8.1<(p0.length:Int)) (ac ((0:Int)≤w64 (s8.1-1)∧w64 (s8.1-1)<(p0.length:Int)) (some (.inl (w64 (s8.1-1),((s8.2.set (Int.toNat s8.1) (rdL s8.2 (w64 (s8.1-1)))).set (Int.toNat (w64 (s8.1-1))) (rdL s8.2 s8.1))))))))else some (.inr (s8.1,s8.2))))
def aF (p0:(List Int)) (p1:Int) (p2:Int) (s3:(Int × (List Int))):Option ((Int × (List Int)) ⊕ (Int × (List Int))) :=
 (if decide (s3.1<p2)=true then((aH (aW p0 p1) (s3.1,s3.2)).bind fun u9=>some (.inl (w64 (s3.1+1),u9.2)))else some (.inr (s3.1,s3.2)))
def bx (p0:(List Int)) (p1:Int) (p2:Int):Option (List Int) :=
 ((aH (aF p0 p1 p2) (w64 (p1+1),p0)).bind fun u4=>some u4.2)
def lenv (x:Int):Int:=if x<1 then 0 else if x<2 then 1 else if x<4 then 2 else if x<8 then 3 else 4
def iV (p0:Int):Option Int:=ac (0≤p0∧p0<16) (some (w64 (0+lenv p0)))
def kK (p0:Int):Option Int :=
 ((iV p0).bind fun y1=>some y1)
def cA (s3:(Int × Int × Int × Bool × Bool × (List Int))):Option ((Int × Int × Int × Bool × Bool × (List Int)) ⊕ (Int × Int × Int × Bool × Bool × (List Int))) :=
 ac (decide (w64 (s3.2.1-s3.1)≤12)=true) (((bx s3.2.2.2.2.2 s3.1 s3.2.1).bind fun y6=>some (.inr (s3.1,s3.2.1,s3.2.2.1,s3.2.2.2.1,s3.2.2.2.2.1,y6))))
def de (p0:(List Int)) (p1:Int) (p2:Int) (p3:Int):Option (List Int) :=
 ((aH (cA) (p1,p2,p3,true,true,p0)).bind fun u4=>some u4.2.2.2.2.2)
def bS (p0:(List Int)):Option (List Int):=ac (p0.length≤12) (some (srtI p0))
def bt (p0:(List (Int × Bool))):Option (List Int):=ac (p0.length≤1000000∧(iC p0).length≤12∧p0.all (fun p=>cX p.1)=true) (some (iC p0))
def iL (p0:TL) (p1:Int) (s5:(Int × (List (Int × Bool)))):Option ((Int × (List (Int × Bool))) ⊕ (Int × (List (Int × Bool)))) :=
 (if decide (s5.1<(p0.fNo.length:Int))=true then ac ((0:Int)≤s5.1∧s5.1<(p0.fNo.length:Int)) ((if(((rdL p0.fNo s5.1).fLevel)==p1)=true then ac (cX ((rdL p0.fNo s5.1).fID)=true∧List.length s5.2<1000000000) (some (.inl (w64 (s5.1+1),(((rdL p0.fNo s5.1).fID,true)::s5.2))))else some (.inl (w64 (s5.1+1),s5.2))))else some (.inr (s5.1,s5.2)))
def jY (p0:TL) (p1:Int):Option (List (Int × Bool)) :=
 ((aH (iL p0 p1) (0,[])).bind fun u6=>some u6.2)
def gQ (p0:TL):Option (List Int) :=
 ((jY p0 0).bind fun y2=>((bt y2).bind fun y5=>some y5))
def bX (l:TL):Prop:=l.fC.length≤1000∧∀x∈l.fC,0<x.fO.length∧x.fO.length≤1000
instance (l:TL):Decidable (bX l):=by unfold bX;infer_instance
def sKs (l:TL):List Nat:=l.fC.map fun x=>x.fO.length
def sCs (l:TL):List (List Int):=pP (sKs l)
def fu (cap0:TL) (s10:(Int × (List Int))):Option ((Int × (List Int)) ⊕ (Int × (List Int))) :=
 ((if decide (0≤s10.1)=true then(ac ((0:Int)≤s10.1∧s10.1<(cap0.fC.length:Int)) (ac ((0:Int)≤s10.1∧s10.1<(cap0.fC.length:Int)) (some (((w64 ((rdL s10.2 s10.1)+1))==(((rdL cap0.fC s10.1).fO.length:Nat):Int))))))else(some (false))).bind fun b13=>(if b13=true then ac ((0:Int)≤s10.1∧s10.1<(cap0.fC.length:Int)) (some (.inl (w64 (s10.1-1),(s10.2.set (Int.toNat s10.1) 0))))else some (.inr (s10.1,s10.2))))
def cv (p0:TL):Option Unit :=
 some ()
def aI (p0:(List Int)) (p1:Int) (p3:Int→Int→Option Int) (s8:(Int × (List Int))):Option ((Int × (List Int)) ⊕ (Int × (List Int))) :=
 ((if decide (p1<s8.1)=true then(ac ((0:Int)≤s8.1∧s8.1<(p0.length:Int)) (ac ((0:Int)≤w64 (s8.1-1)∧w64 (s8.1-1)<(p0.length:Int)) (((p3 (rdL s8.2 s8.1) (rdL s8.2 (w64 (s8.1-1)))).bind fun y21=>some (decide (y21<0))))))else(some (false))).bind fun b11=>(if b11=true then ac ((0:Int)≤w64 (s8.1-1)∧w64 (s8.1-1)<(p0.length:Int)) (ac ((0:Int)≤s8.1∧s8.1<(p0.length:Int)) (ac ((0:Int)≤s8.1∧s8.1<(p0.length:Int)) (ac ((0:Int)≤w64 (s8.1-1)∧w64 (s8.1-1)<(p0.length:Int)) (some (.inl (w64 (s8.1-1),((s8.2.set (Int.toNat s8.1) (rdL s8.2 (w64 (s8.1-1)))).set (Int.toNat (w64 (s8.1-1))) (rdL s8.2 s8.1))))))))else some (.inr (s8.1,s8.2))))
def aB (p0:(List Int)) (p1:Int) (p2:Int) (p3:Int→Int→Option Int) (s3:(Int × (List Int))):Option ((Int × (List Int)) ⊕ (Int × (List Int))) :=
 (if decide (s3.1<p2)=true then((aH (aI p0 p1 p3) (s3.1,s3.2)).bind fun u9=>some (.inl (w64 (s3.1+1),u9.2)))else some (.inr (s3.1,s3.2)))
def aU (p0:(List Int)) (p1:Int) (p2:Int) (p3:Int→Int→Option Int):Option (List Int) :=
 ((aH (aB p0 p1 p2 p3) (w64 (p1+1),p0)).bind fun u4=>some u4.2)
def bv (p1:Int) (s2:(Int × Int)):Option ((Int × Int) ⊕ (Int × Int)) :=
 ac (decide (s2.2≤p1)=false) (some (.inr (s2.1,s2.2)))
def bz (p1:Int) (s10:(Int × Int × Int)):Option ((Int × Int × Int) ⊕ (Int × Int × Int)) :=
 ac (decide (s10.1<p1)=false) (some (.inr (s10.1,s10.2.1,s10.2.2)))
def bO (p0:(List Int)) (p1:Int) (p2:Int→Int→Option Int):Option (List Int) :=
 ((aH (bv p1) (0,20)).bind fun u3=>((aU p0 u3.1 p1 p2).bind fun y6=>((aH (bz p1) (20,u3.1,u3.2)).bind fun u11=>some y6)))
def bg (p0:(List Int)) (p1:Int→Int→Option Int):Option (List Int) :=
 ((bO p0 (p0.length:Int) p1).bind fun y1=>some y1)
def dR (p0:Int) (p1:Int):Option Int :=
 ((df p0).bind fun y1=>((df p1).bind fun y3=>(if y1=true then(if y3=true then some 0 else some (-1))else(if y3=true then some 1 else(if decide (p0<p1)=true then some (-1)else(if decide (p1<p0)=true then some 1 else some 0))))))
def du (p0:Int) (p1:Int) (cap0:TL):Option Int :=
 ac ((0:Int)≤p0∧p0<(cap0.fNo.length:Int)) (ac ((0:Int)≤p1∧p1<(cap0.fNo.length:Int)) (((dR ((rdL cap0.fNo p0).fLevel) ((rdL cap0.fNo p1).fLevel)).bind fun y3=>some y3)))
def cU (p0:TL) (s6:(Int × (List Int))):Option ((Int × (List Int)) ⊕ (Int × (List Int))) :=
 (if decide (s6.1<((Int.toNat (p0.fNo.length:Int):Nat):Int))=true then ac ((0:Int)≤s6.1∧s6.1<((Int.toNat (p0.fNo.length:Int):Nat):Int)) (some (.inl (w64 (s6.1+1),(s6.2.set (Int.toNat s6.1) s6.1))))else some (.inr (s6.1,s6.2)))
def fx (p0:TL):Option (List Int) :=
 ac ((0:Int)≤(p0.fNo.length:Int)∧(p0.fNo.length:Int)*8≤281474976710656) (((aH (cU p0) (0,(List.replicate (Int.toNat (p0.fNo.length:Int)) 0))).bind fun u7=>((bg u7.2 (fun x11 x12=>du x11 x12 p0)).bind fun y13=>some y13)))
def dl (p0:TL) (p2:Int→Int→Option Bool) (s5:(Int × (List (Int × (List Int))))) (s12:(Int × (List (Int × (List Int))))):Option ((Int × (List (Int × (List Int)))) ⊕ (Int × (List (Int × (List Int))))) :=
 (if decide (s12.1<(((rdL p0.fC s5.1).fO.length:Nat):Int))=true then ac ((0:Int)≤s12.1∧s12.1<(((rdL p0.fC s5.1).fO.length:Nat):Int)) (((p2 s5.1 s12.1).bind fun y17=>(if y17=true then ac (cX ((rdL ((rdL p0.fC s5.1).fO) s12.1).fFrom)=true) (ac ((aw [] s12.2 ((rdL ((rdL p0.fC s5.1).fO) s12.1).fFrom)).length+1≤1000000000) (ac (cX ((rdL ((rdL p0.fC s5.1).fO) s12.1).fFrom)=true∧List.length s12.2<1000000000) (some (.inl (w64 (s12.1+1),(((rdL ((rdL p0.fC s5.1).fO) s12.1).fFrom,((aw [] s12.2 ((rdL ((rdL p0.fC s5.1).fO) s12.1).fFrom))++[(rdL ((rdL p0.fC s5.1).fO) s12.1).fTo]))::s12.2))))))else some (.inl (w64 (s12.1+1),s12.2)))))else some (.inr (s12.1,s12.2)))
def dn (p0:TL) (p2:Int→Int→Option Bool) (s5:(Int × (List (Int × (List Int))))):Option ((Int × (List (Int × (List Int)))) ⊕ (Int × (List (Int × (List Int))))) :=
 (if decide (s5.1<(p0.fC.length:Int))=true then ac ((0:Int)≤s5.1∧s5.1<(p0.fC.length:Int)) (((aH (dl p0 p2 s5) (0,s5.2)).bind fun u13=>some (.inl (w64 (s5.1+1),u13.2))))else some (.inr (s5.1,s5.2)))
def dV (p1:(List Int)) (s32:(Int × (List (Int × Bool)))):Option ((Int × (List (Int × Bool))) ⊕ (Int × (List (Int × Bool)))) :=
 (if decide (s32.1<(p1.length:Int))=true then ac ((0:Int)≤s32.1∧s32.1<(p1.length:Int)) (ac (cX (rdL p1 s32.1)=true∧List.length s32.2<1000000000) (some (.inl (w64 (s32.1+1),(((rdL p1 s32.1),true)::s32.2)))))else some (.inr (s32.1,s32.2)))
def dT (p0:TL) (u6:(Int × (List (Int × (List Int))))) (y38:(List Int)) (s46:(Int × (List (Int × Bool)))) (s56:(Int × (List (Int × Bool)))):Option ((Int × (List (Int × Bool))) ⊕ (Int × (List (Int × Bool)))) :=
 (if decide (s56.1<(((aw [] u6.2 ((rdL p0.fNo (rdL y38 s46.1)).fID)).length:Nat):Int))=true then ac ((0:Int)≤s56.1∧s56.1<(((aw [] u6.2 ((rdL p0.fNo (rdL y38 s46.1)).fID)).length:Nat):Int)) (ac (cX (rdL (aw [] u6.2 ((rdL p0.fNo (rdL y38 s46.1)).fID)) s56.1)=true∧List.length s56.2<1000000000) (some (.inl (w64 (s56.1+1),(((rdL (aw [] u6.2 ((rdL p0.fNo (rdL y38 s46.1)).fID)) s56.1),true)::s56.2)))))else some (.inr (s56.1,s56.2)))
def dm (p0:TL) (u6:(Int × (List (Int × (List Int))))) (y38:(List Int)) (s46:(Int × (List (Int × Bool)))):Option ((Int × (List (Int × Bool))) ⊕ (Int × (List (Int × Bool)))) :=
 (if decide (s46.1<(y38.length:Int))=true then ac ((0:Int)≤s46.1∧s46.1<(y38.length:Int)) (ac ((0:Int)≤(rdL y38 s46.1)∧(rdL y38 s46.1)<(p0.fNo.length:Int)) (ac (cX ((rdL p0.fNo (rdL y38 s46.1)).fID)=true) ((if(!(aw false s46.2 ((rdL p0.fNo (rdL y38 s46.1)).fID)))=true then some (.inl (w64 (s46.1+1),s46.2))else ac (cX ((rdL p0.fNo (rdL y38 s46.1)).fID)=true) (((aH (dT p0 u6 y38 s46) (0,s46.2)).bind fun u57=>some (.inl (w64 (s46.1+1),u57.2))))))))else some (.inr (s46.1,s46.2)))
def rcR (p0:TL) (p1:(List Int)) (p2:Int→Int→Option Bool):Option (List (Int × Bool)) :=
 ((aH (dn p0 p2) (0,([]:(List (Int × (List Int)))))).bind fun u6=>((aH (dV p1) (0,[])).bind fun u33=>((fx p0).bind fun y38=>((aH (dm p0 u6 y38) (0,u33.2)).bind fun u47=>some u47.2))))
def aN (p0:(List Int)) (p1:Int) (p2:Int):Option Bool :=
 ac ((0:Int)≤p1∧p1<(p0.length:Int)) (some ((rdL p0 p1)==p2))
def bM (p0:(List Int)):Option Unit :=
 some ()
def dz (p0:TL) (p1:(List Int)) (s18:(List (Int × Bool))) (x19:(List Int)):Option ((List (Int × Bool)) ⊕ Unit) :=
 ((bM x19).bind fun y21=>((rcR p0 p1 (fun x23 x24=>aN x19 x23 x24)).bind fun y25=>ac (List.length s18+List.length y25≤1000000) (some (.inl (lQ true y25 s18)))))
def bI (p0:TL) (p1:(List Int)):Option (List (Int × Bool)) :=
 ((cv p0).bind fun y5=>(ac (bX p0) ((fz (dz p0 p1) (sCs p0) []).bind fun u20=>match u20 with|.inl u45=>some u45|.inr _=>none)))
def fZ (p0:TL) (p1:(List Int)) (s20:(List (Int × Bool))) (x21:(List Int)):Option ((List (Int × Bool)) ⊕ Unit) :=
 ((bM x21).bind fun y23=>((rcR p0 p1 (fun x25 x26=>aN x21 x25 x26)).bind fun y27=>some (.inl (s20.filter (fun p => !(fun y33=>(!(aw false y27 y33))) p.1)))))
def eM (p0:TL) (p1:(List Int)):Option (List (Int × Bool)) :=
 ((bI p0 p1).bind fun y3=>((cv p0).bind fun y7=>(ac (bX p0) ((fz (fZ p0 p1) (sCs p0) y3).bind fun u22=>match u22 with|.inl u48=>some u48|.inr _=>none))))
def gA (p0:TL) (p1:Int) (y8:(List Int)) (s16:(Int × (List Int) × (List Int))):Option ((Int × (List Int) × (List Int)) ⊕ (Int × (List Int) × (List Int))) :=
 (if decide (s16.1<(y8.length:Int))=true then ac ((0:Int)≤s16.1∧s16.1<(y8.length:Int)) (((eM p0 [(rdL y8 s16.1)]).bind fun y21=>ac (cX p1=true) ((if aw false y21 p1=true then ac (s16.2.1.length+1≤1000000000) (((bI p0 [(rdL y8 s16.1)]).bind fun y31=>ac (cX p1=true) ((if aw false y31 p1=true then ac (s16.2.2.length+1≤1000000000) (some (.inl (w64 (s16.1+1),(s16.2.1++[(rdL y8 s16.1)]),(s16.2.2++[(rdL y8 s16.1)]))))else some (.inl (w64 (s16.1+1),(s16.2.1++[(rdL y8 s16.1)]),s16.2.2))))))else((bI p0 [(rdL y8 s16.1)]).bind fun y41=>ac (cX p1=true) ((if aw false y41 p1=true then ac (s16.2.2.length+1≤1000000000) (some (.inl (w64 (s16.1+1),s16.2.1,(s16.2.2++[(rdL y8 s16.1)]))))else some (.inl (w64 (s16.1+1),s16.2.1,s16.2.2)))))))))else some (.inr (s16.1,s16.2.1,s16.2.2)))
def gX (p0:TL) (p1:Int):Option ((List Int) × (List Int) × Int) :=
 ((eJ p0).bind fun y2=>(if(y2 !=0)=true then some ([],[],y2)else((cn p0 p1).bind fun y5=>(if decide (y5<0)=true then some ([],[],5)else((gQ p0).bind fun y8=>((aH (gA p0 p1 y8) (0,([]:List Int),([]:List Int))).bind fun u17=>some (u17.2.1,u17.2.2,0)))))))
def bd (p0:(List Int)) (p1:Int→Option Int) (p2:Int→Option Bool) (s2:(Bool × Int)):Option ((Bool × Int) ⊕ ((Bool × Int) ⊕ (Bool × Int))) :=
 (if decide (s2.2<(p0.length:Int))=true then ac ((0:Int)≤s2.2∧s2.2<(p0.length:Int)) (((p1 (rdL p0 s2.2)).bind fun y6=>((p2 y6).bind fun y8=>((if(!y8)=true then(some (true))else((if decide (0<s2.2)=true then((p1 (rdL p0 s2.2)).bind fun y17=>ac ((0:Int)≤w64 (s2.2-1)∧w64 (s2.2-1)<(p0.length:Int)) (((p1 (rdL p0 (w64 (s2.2-1)))).bind fun y20=>some (decide (y17≤y20)))))else(some (false))).bind fun b15=>some (b15))).bind fun b11=>(if b11=true then some (.inr (.inl (false,s2.2)))else some (.inl (s2.1,w64 (s2.2+1))))))))else some (.inr (.inr (s2.1,s2.2))))
def bQ (p0:(List Int)) (p1:Int→Option Int) (p2:Int→Option Bool):Option Bool :=
 ((aH (bd p0 p1 p2) (false,0)).bind fun u3=>match u3 with|(.inl u23)=>some u23.1|(.inr u24)=>some true)
def fX (p0:Int):Option Int :=
 some p0
def dk (p0:Int) (cap0:TL):Option Bool :=
 ((cn cap0 p0).bind fun y1=>some (decide (0≤y1)))
def fw (p0:TL) (p1:(List Int)):Option Bool :=
 ((if decide (0<(p1.length:Int))=true then((bQ p1 (fun x5=>fX x5) (fun x6=>dk x6 p0)).bind fun y7=>some (y7))else(some (false))).bind fun b3=>some b3)
def cy (p0:TL) (p1:(List Int)):Option Int :=
 ((eJ p0).bind fun y2=>(if(y2 !=0)=true then some y2 else((fw p0 p1).bind fun y5=>(if(!y5)=true then some 1 else some 0))))
def iD (p0:TL) (p1:(List (Int × Bool))) (s5:(Int × Int × (List (Int × Bool)))):Option ((Int × Int × (List (Int × Bool))) ⊕ (Int × Int × (List (Int × Bool)))) :=
 (if decide (s5.2.1<(p0.fNo.length:Int))=true then ac ((0:Int)≤s5.2.1∧s5.2.1<(p0.fNo.length:Int)) (((if(((rdL p0.fNo s5.2.1).fLevel)==9)=true then(ac (cX ((rdL p0.fNo s5.2.1).fID)=true) (some (aw false p1 ((rdL p0.fNo s5.2.1).fID))))else(some (false))).bind fun b11=>(if b11=true then ac (cX ((rdL p0.fNo s5.2.1).fID)=true∧List.length s5.2.2<1000000000) (some (.inl (w64 (s5.1+((rdL p0.fNo s5.2.1).fCost)),w64 (s5.2.1+1),(((rdL p0.fNo s5.2.1).fID,true)::s5.2.2))))else some (.inl (s5.1,w64 (s5.2.1+1),s5.2.2)))))else some (.inr (s5.1,s5.2.1,s5.2.2)))
def gu (p0:TL) (p1:(List (Int × Bool))):Option ((List Int) × Int) :=
 ((aH (iD p0 p1) (0,0,[])).bind fun u6=>((bt u6.2.2).bind fun y17=>some (y17,u6.1)))
def iS (p0:TL) (p1:(List Int)) (p2:Bool):Option ((List Int) × Int × Int) :=
 ((cy p0 p1).bind fun y2=>(if(y2 !=0)=true then some ([],0,y2)else((bI p0 p1).bind fun y5=>(if p2=true then((eM p0 p1).bind fun y9=>((gu p0 y9).bind fun y12=>some (y12.1,y12.2,0)))else((gu p0 y5).bind fun y18=>some (y18.1,y18.2,0))))))
def gB (p0:(List Int)) (p1:(List Int)) (s3:(Bool × Int)):Option ((Bool × Int) ⊕ ((Bool × Int) ⊕ (Bool × Int))) :=
 (if decide (s3.2<(p0.length:Int))=true then ac ((0:Int)≤s3.2∧s3.2<(p0.length:Int)) (ac ((0:Int)≤s3.2∧s3.2<(p1.length:Int)) ((if((rdL p0 s3.2) !=(rdL p1 s3.2))=true then some (.inr (.inl (false,s3.2)))else some (.inl (s3.1,w64 (s3.2+1))))))else some (.inr (.inr (s3.1,s3.2))))
def bU (p0:(List Int)) (p1:(List Int)):Option Bool :=
 (if((p0.length:Int) !=(p1.length:Int))=true then some false else((aH (gB p0 p1) (false,0)).bind fun u4=>match u4 with|(.inl u10)=>some u10.1|(.inr u11)=>some true))
def aZ (p0:TL) (p1:(List Int)) (p2:Int):Option Int :=
 ((cy p0 p1).bind fun y2=>(if(y2 !=0)=true then some y2 else((cn p0 p2).bind fun y5=>(if decide (y5<0)=true then some 5 else some 0))))
def f5 (p0:Int) (p1:Int) (cap0:(List Int)) (cap1:Int→Int→Option Bool):Option Bool :=
 ac ((0:Int)≤p0∧p0<(cap0.length:Int)) (((if((rdL cap0 p0)==p1)=true then((cap1 p0 p1).bind fun y5=>some (y5))else(some (false))).bind fun b3=>some b3))
def iU (p0:TL) (p1:(List Int)) (p2:Int) (p3:Int→Int→Option Bool) (s24:Bool) (x25:(List Int)):Option (Bool ⊕ Bool) :=
 ((rcR p0 p1 (fun x28 x29=>f5 x28 x29 x25 p3)).bind fun y30=>ac (cX p2=true) ((if aw false y30 p2=true then some (.inr true)else some (.inl s24))))
def eE (p0:TL) (p1:(List Int)) (p2:Int) (p3:Int→Int→Option Bool):Option Bool :=
 ((rcR p0 p1 p3).bind fun y6=>ac (cX p2=true) ((if(!(aw false y6 p2))=true then some false else((cv p0).bind fun y11=>(ac (bX p0) ((fz (iU p0 p1 p2 p3) (sCs p0) false).bind fun u26=>match u26 with|.inl u37=>some false|.inr u38=>some u38))))))
def cO (p0:Int) (p1:Int):Option Bool :=
 some true
def fV (p0:Int) (p1:Int) (cap0:Int):Option Bool :=
 some (p0 !=cap0)
def iF (p0:TL) (p1:(List Int)) (p2:Int) (s12:(Int × (List Int))):Option ((Int × (List Int)) ⊕ (Int × (List Int))) :=
 (if decide (s12.1<(p0.fC.length:Int))=true then ac ((0:Int)≤s12.1∧s12.1<(p0.fC.length:Int)) (((eE p0 p1 p2 (fun x18 x19=>fV x18 x19 s12.1)).bind fun y20=>(if(!y20)=true then ac (s12.2.length+1≤1000000000) (some (.inl (w64 (s12.1+1),(s12.2++[(rdL p0.fC s12.1).fID]))))else some (.inl (w64 (s12.1+1),s12.2)))))else some (.inr (s12.1,s12.2)))
def jM (p0:TL) (p1:(List Int)) (p2:Int):Option ((List Int) × Int) :=
 ((aZ p0 p1 p2).bind fun y2=>(if(y2 !=0)=true then some ([],y2)else((eE p0 p1 p2 (fun x5 x6=>cO x5 x6)).bind fun y7=>(if(!y7)=true then some ([],5)else((aH (iF p0 p1 p2) (0,([]:List Int))).bind fun u13=>((bS u13.2).bind fun y28=>some (y28,0)))))))
def bh (p0:(List Int)) (p1:Int) (s2:(Int × Int)):Option ((Int × Int) ⊕ ((Int × Int) ⊕ (Int × Int))) :=
 (if decide (s2.2<(p0.length:Int))=true then ac ((0:Int)≤s2.2∧s2.2<(p0.length:Int)) ((if(p1==(rdL p0 s2.2))=true then some (.inr (.inl (s2.2,s2.2)))else some (.inl (s2.1,w64 (s2.2+1)))))else some (.inr (.inr (s2.1,s2.2))))
def bY (p0:(List Int)) (p1:Int):Option Int :=
 ((aH (bh p0 p1) (0,0)).bind fun u3=>match u3 with|(.inl u8)=>some u8.1|(.inr u9)=>some (-1))
def aL (p0:(List Int)) (p1:Int):Option Bool :=
 ((bY p0 p1).bind fun y1=>some (decide (0≤y1)))
def fW (p0:Int) (p1:Int) (cap0:TL) (cap1:TN):Option Bool :=
 ac ((0:Int)≤p0∧p0<(cap0.fC.length:Int)) (ac ((0:Int)≤p1∧p1<(((rdL cap0.fC p0).fO.length:Nat):Int)) (some (((rdL ((rdL cap0.fC p0).fO) p1).fTo) !=cap1.fID)))
def iy (p0:TL) (p1:(List Int)) (p2:Int) (s12:(Int × (List Int))):Option ((Int × (List Int)) ⊕ (Int × (List Int))) :=
 (if decide (s12.1<(p0.fNo.length:Int))=true then ac ((0:Int)≤s12.1∧s12.1<(p0.fNo.length:Int)) (((if(((rdL p0.fNo s12.1).fID)==p2)=true then(some (true))else((aL p1 ((rdL p0.fNo s12.1).fID)).bind fun y30=>some (y30))).bind fun b18=>(if b18=true then some (.inl (w64 (s12.1+1),s12.2))else((eE p0 p1 p2 (fun x21 x22=>fW x21 x22 p0 (TN.mk ((rdL p0.fNo s12.1).fID) ((rdL p0.fNo s12.1).fLevel) ((rdL p0.fNo s12.1).fCost)))).bind fun y23=>(if(!y23)=true then ac (s12.2.length+1≤1000000000) (some (.inl (w64 (s12.1+1),(s12.2++[(rdL p0.fNo s12.1).fID]))))else some (.inl (w64 (s12.1+1),s12.2)))))))else some (.inr (s12.1,s12.2)))
def j6 (p0:TL) (p1:(List Int)) (p2:Int):Option ((List Int) × Int) :=
 ((aZ p0 p1 p2).bind fun y2=>(if(y2 !=0)=true then some ([],y2)else((eE p0 p1 p2 (fun x5 x6=>cO x5 x6)).bind fun y7=>(if(!y7)=true then some ([],5)else((aH (iy p0 p1 p2) (0,([]:List Int))).bind fun u13=>((bS u13.2).bind fun y33=>some (y33,0)))))))
def iw (p0:TL) (p1:(List Int)) (p2:Int) (s23:(Int × Int)) (x24:(List Int)):Option ((Int × Int) ⊕ Unit) :=
 ((bM x24).bind fun y27=>((rcR p0 p1 (fun x29 x30=>aN x24 x29 x30)).bind fun y31=>ac (cX p2=true) ((if aw false y31 p2=true then some (.inl (w64 (s23.1+1),w64 (s23.2+1)))else some (.inl (s23.1,w64 (s23.2+1)))))))
def iJ (s40:(Int × Int)):Option ((Int × Int) ⊕ (Int × Int)) :=
 (if decide (0<s40.2)=true then ac (s40.2≠0) (some (.inl (s40.2,Int.tmod s40.1 s40.2)))else some (.inr (s40.1,s40.2)))
def j8 (p0:TL) (p1:(List Int)) (p2:Int):Option (TRatio × Int) :=
 ((aZ p0 p1 p2).bind fun y5=>(if(y5 !=0)=true then some ((TRatio.mk 0 0),y5)else((cv p0).bind fun y10=>(ac (bX p0) ((fz (iw p0 p1 p2) (sCs p0) (0,0)).bind fun u25=>match u25 with|.inl u38=>((aH (iJ) (u38.1,u38.2)).bind fun u41=>ac (u41.1≠0) (ac (u41.1≠0) (some ((TRatio.mk (w64 (Int.tdiv u38.1 u41.1)) (w64 (Int.tdiv u38.2 u41.1))),0))))|.inr _=>none)))))
def jU (p0:TL) (p1:(List Int)):Option Int :=
 ((bI p0 p1).bind fun y2=>((eM p0 p1).bind fun y5=>((gu p0 (tT y5 y2)).bind fun y23=>some y23.2)))
def bL (p0:(List TH)):Option (List TH) :=
 ac (0+p0.length≤1000000000) (some (([]:List TH)++p0))
def cg (p0:(List TN)):Option (List TN) :=
 ac (0+p0.length≤1000000000) (some (([]:List TN)++p0))
def bc (p0:(List TC)):Option (List TC) :=
 ac (0+p0.length≤1000000000) (some (([]:List TC)++p0))
def cP (y10:(List TC)) (s22:(Int × (List TC))):Option ((Int × (List TC)) ⊕ (Int × (List TC))) :=
 (if decide (s22.1<(y10.length:Int))=true then ac ((0:Int)≤s22.1∧s22.1<(y10.length:Int)) (((bL ((rdL s22.2 s22.1).fO)).bind fun y26=>ac ((0:Int)≤s22.1∧s22.1<(y10.length:Int)) (some (.inl (w64 (s22.1+1),(s22.2.set (Int.toNat s22.1) (TC.mk ((rdL s22.2 s22.1).fID) y26)))))))else some (.inr (s22.1,s22.2)))
def eB (p0:TL):Option TL :=
 ((cg p0.fNo).bind fun y4=>((bc p0.fC).bind fun y10=>((aH (cP y10) (0,y10)).bind fun u23=>some (TL.mk y4 u23.2))))
def lD (p0:TL) (p1:Int) (p2:(List TH)):Option TL :=
 ((eB p0).bind fun y3=>((bL p2).bind fun y22=>ac ((0:Int)≤p1∧p1<(y3.fC.length:Int)) (some (TL.mk y3.fNo (y3.fC.set (Int.toNat p1) (TC.mk ((rdL y3.fC p1).fID) y22))))))
def bJ (p0:(List Tasking)) (p1:Tasking→Tasking→Option Bool) (s5:(Int × Int × Int)):Option ((Int × Int × Int) ⊕ (Int × Int × Int)) :=
 (if decide (s5.1<(p0.length:Int))=true then ac ((0:Int)≤s5.1∧s5.1<(p0.length:Int)) (((if(s5.1==0)=true then(some (true))else((p1 (Tasking.mk ((rdL p0 s5.1).f_id) ((rdL p0 s5.1).f_left)) (Tasking.mk s5.2.1 s5.2.2)).bind fun y14=>some (y14))).bind fun b11=>(if b11=true then some (.inl (w64 (s5.1+1),(rdL p0 s5.1).f_id,(rdL p0 s5.1).f_left))else some (.inl (w64 (s5.1+1),s5.2.1,s5.2.2)))))else some (.inr (s5.1,s5.2.1,s5.2.2)))
def bw (p0:(List Tasking)) (p1:Tasking→Tasking→Option Bool):Option (Tasking × Bool) :=
 ((aH (bJ p0 p1) (0,0,0)).bind fun u6=>some ((Tasking.mk u6.2.1 u6.2.2),decide (0<(p0.length:Int))))
def ig (p0:Tasking) (p1:Tasking):Option Bool :=
 some ((decide (p0.f_left<p1.f_left))||((p0.f_left==p1.f_left)&&(decide (p0.f_id<p1.f_id))))
def kL (p0:TL) (p1:(List Int)) (s7:(Int × (List Tasking))) (s16:(Int × Int)):Option ((Int × Int) ⊕ (Int × Int)) :=
 (if decide (s16.1<(((rdL p0.fC s7.1).fO.length:Nat):Int))=true then ac ((0:Int)≤s16.1∧s16.1≤w64 (s16.1+1)∧w64 (s16.1+1)≤w64 (s16.1+1)∧w64 (s16.1+1)≤(((rdL p0.fC s7.1).fO.length:Nat):Int)) (((lD p0 s7.1 ((((rdL p0.fC s7.1).fO).drop (Int.toNat s16.1)).take (Int.toNat (w64 (s16.1+1))-Int.toNat s16.1))).bind fun y20=>((jU y20 p1).bind fun y34=>some (.inl (w64 (s16.1+1),max s16.2 y34)))))else some (.inr (s16.1,s16.2)))
def kG (p0:TL) (p1:(List Int)) (s7:(Int × (List Tasking))):Option ((Int × (List Tasking)) ⊕ (Int × (List Tasking))) :=
 (if decide (s7.1<(p0.fC.length:Int))=true then ac ((0:Int)≤s7.1∧s7.1<(p0.fC.length:Int)) ((if decide ((((rdL p0.fC s7.1).fO.length:Nat):Int)<2)=true then some (.inl (w64 (s7.1+1),s7.2))else((aH (kL p0 p1 s7) (0,0)).bind fun u17=>ac (s7.2.length+1≤1000000000) (some (.inl (w64 (s7.1+1),(s7.2++[(Tasking.mk ((rdL p0.fC s7.1).fID) u17.2)])))))))else some (.inr (s7.1,s7.2)))
def mg (p0:TL) (p1:(List Int)):Option (Int × Int × Int) :=
 ((cy p0 p1).bind fun y2=>(if(y2 !=0)=true then some (0,0,y2)else((aH (kG p0 p1) (0,([]:List Tasking))).bind fun u8=>((bw u8.2 (fun x54 x55=>ig x54 x55)).bind fun y56=>(if(!y56.2)=true then some (0,0,5)else some (y56.1.f_id,y56.1.f_left,0))))))
def fM (p0:Int) (p1:Int) (cap0:(List (Int × Bool))) (cap1:TL):Option Bool :=
 ac ((0:Int)≤p0∧p0<(cap1.fC.length:Int)) (ac (cX ((rdL cap1.fC p0).fID)=true) (some (!(aw false cap0 ((rdL cap1.fC p0).fID)))))
def jT (p0:TL) (p1:(List Int)) (p2:Int) (p3:(List (Int × Bool))):Option Bool :=
 ((eE p0 p1 p2 (fun x3 x4=>fM x3 x4 p3 p0)).bind fun y5=>some (!y5))
def kJ (p0:TL) (s11:(Int × (List (Int × Bool)))):Option ((Int × (List (Int × Bool))) ⊕ (Int × (List (Int × Bool)))) :=
 (if decide (s11.1<(p0.fC.length:Int))=true then ac ((0:Int)≤s11.1∧s11.1<(p0.fC.length:Int)) (ac (cX ((rdL p0.fC s11.1).fID)=true∧List.length s11.2<1000000000) (some (.inl (w64 (s11.1+1),(((rdL p0.fC s11.1).fID,true)::s11.2)))))else some (.inr (s11.1,s11.2)))
def kA (p0:TL) (p1:(List Int)) (p2:Int) (y18:(List Int)) (s26:(Int × (List (Int × Bool)))):Option ((Int × (List (Int × Bool))) ⊕ (Int × (List (Int × Bool)))) :=
 (if decide (s26.1<(y18.length:Int))=true then ac ((0:Int)≤s26.1∧s26.1<(y18.length:Int)) (ac (cX (rdL y18 s26.1)=true∧List.length s26.2<1000000000) (((jT p0 p1 p2 (((rdL y18 s26.1),false)::s26.2)).bind fun y31=>(if(!y31)=true then ac (cX (rdL y18 s26.1)=true∧List.length (((rdL y18 s26.1),false)::s26.2)<1000000000) (some (.inl (w64 (s26.1+1),(((rdL y18 s26.1),true)::(((rdL y18 s26.1),false)::s26.2)))))else some (.inl (w64 (s26.1+1),(((rdL y18 s26.1),false)::s26.2)))))))else some (.inr (s26.1,s26.2)))
def mp (p0:TL) (p1:(List Int)) (p2:Int):Option ((List Int) × Int) :=
 ((aZ p0 p1 p2).bind fun y2=>(if(y2 !=0)=true then some ([],y2)else((aL p1 p2).bind fun y5=>(if y5=true then some ([],5)else((aH (kJ p0) (0,[])).bind fun u12=>((bt u12.2).bind fun y18=>((aH (kA p0 p1 p2 y18) (0,u12.2)).bind fun u27=>((bt u27.2).bind fun y36=>some (y36,0)))))))))
def eC (p0:TL) (p1:(List Int)):Option ((List Int) × Int) :=
 ((cy p0 p1).bind fun y2=>(if(y2 !=0)=true then some ([],y2)else((eM p0 p1).bind fun y5=>((bt y5).bind fun y8=>some (y8,0)))))
def dh (p0:TL) (p1:(List Int)):Option ((List Int) × Int) :=
 ((cy p0 p1).bind fun y2=>(if(y2 !=0)=true then some ([],y2)else((bI p0 p1).bind fun y5=>((bt y5).bind fun y8=>some (y8,0)))))
def fi  : Option TL :=
 some (TL.mk [(TN.mk 1 0 0),(TN.mk 2 0 0),(TN.mk 3 3 0),(TN.mk 4 3 0),(TN.mk 5 9 10),(TN.mk 6 9 7)] [(TC.mk 11 [(TH.mk 1 3)]),(TC.mk 12 [(TH.mk 1 4),(TH.mk 2 4)]),(TC.mk 13 [(TH.mk 3 5)]),(TC.mk 14 [(TH.mk 4 5),(TH.mk 4 6)])])
def iH (s19:Int) (x20:(List Int)):Option (Int ⊕ Unit) :=
 some (.inl (w64 (s19+1)))
def jR (p0:TL):Option (Int × Int) :=
 ((eJ p0).bind fun y2=>(if(y2 !=0)=true then some (0,y2)else((cv p0).bind fun y6=>(ac (bX p0) ((fz (iH) (sCs p0) 0).bind fun u21=>match u21 with|.inl u24=>some (u24,0)|.inr _=>none)))))
def fR  : Option Bool :=
 ((fi).bind fun y1=>((jR y1).bind fun y20=>((eC y1 [1]).bind fun y23=>((dh y1 [2]).bind fun y30=>((jM y1 [1] 6).bind fun y37=>((j6 y1 [1] 6).bind fun y44=>((mp y1 [1] 5).bind fun y51=>((j8 y1 [2] 5).bind fun y58=>((iS y1 [1] false).bind fun y62=>((mg y1 [1]).bind fun y69=>((gX y1 5).bind fun y71=>(if((((((((((y20.2 !=0)||(y23.2 !=0))||(y30.2 !=0))||(y37.2 !=0))||(y44.2 !=0))||(y51.2 !=0))||(y58.2 !=0))||(y62.2.2 !=0))||(y69.2.2 !=0))||(y71.2.2 !=0))=true then some false else((bU y23.1 [1,3,5]).bind fun y92=>((if y92=true then((bU y30.1 [2,4,5,6]).bind fun y137=>some (y137))else(some (false))).bind fun b95=>((if b95=true then((bU y37.1 [12,14]).bind fun y134=>some (y134))else(some (false))).bind fun b98=>((if b98=true then((bU y44.1 [4]).bind fun y131=>some (y131))else(some (false))).bind fun b101=>((bU y51.1 [13,14]).bind fun y104=>((if y104=true then((bU y62.1 [5,6]).bind fun y128=>some (y128))else(some (false))).bind fun b107=>((if b107=true then((bU y71.1 [1]).bind fun y125=>some (y125))else(some (false))).bind fun b110=>((if b110=true then((bU y71.2.1 [1,2]).bind fun y122=>some (y122))else(some (false))).bind fun b113=>some ((((((b101&&b113)&&(y20.1==4))&&((y58.1.fNum==1)&&(y58.1.fDen==4)))&&(y62.2.1==17))&&(y69.1==12))&&(y69.2.1==7))))))))))))))))))))))
def fH (p0:TL) (s3:(Bool × Int × Int)):Option ((Bool × Int × Int) ⊕ ((Bool × Int × Int) ⊕ (Bool × Int × Int))) :=
 (if decide (s3.2.2<(p0.fC.length:Int))=true then ac ((0:Int)≤s3.2.2∧s3.2.2<(p0.fC.length:Int)) ((if decide (6<(((rdL p0.fC s3.2.2).fO.length:Nat):Int))=true then some (.inr (.inl (false,s3.2.1,s3.2.2)))else some (.inl (s3.1,min (w64 (s3.2.1*(max 1 (((rdL p0.fC s3.2.2).fO.length:Nat):Int)))) 10000,w64 (s3.2.2+1)))))else some (.inr (.inr (s3.1,s3.2.1,s3.2.2))))
def iO (p0:TL):Option Bool :=
 ((aH (fH p0) (false,1,0)).bind fun u4=>match u4 with|(.inl u9)=>some u9.1|(.inr u10)=>some ((((decide ((p0.fNo.length:Int)≤12))||((decide (60<(p0.fNo.length:Int)))&&(decide ((p0.fNo.length:Int)≤80))))&&((decide ((p0.fC.length:Int)≤12))||((decide (80<(p0.fC.length:Int)))&&(decide ((p0.fC.length:Int)≤100)))))&&((decide (u10.2.1≤64))||(decide (4096<u10.2.1)))))
def gy (p0:TL) (p1:Int) (s3:(Int × Int)):Option ((Int × Int) ⊕ ((Int × Int) ⊕ (Int × Int))) :=
 (if decide (s3.2<(p0.fNo.length:Int))=true then ac ((0:Int)≤s3.2∧s3.2<(p0.fNo.length:Int)) ((if(((rdL p0.fNo s3.2).fID)==p1)=true then some (.inr (.inl (s3.2,s3.2)))else some (.inl (s3.1,w64 (s3.2+1)))))else some (.inr (.inr (s3.1,s3.2))))
def ef (p0:TL) (p1:Int):Option Int :=
 ((aH (gy p0 p1) (0,0)).bind fun u4=>match u4 with|(.inl u9)=>some u9.1|(.inr u10)=>some (-1))
def fU (p0:TL) (s3:(Int × Int)):Option ((Int × Int) ⊕ (Int × Int)) :=
 (if decide (s3.2<(p0.fC.length:Int))=true then ac ((0:Int)≤s3.2∧s3.2<(p0.fC.length:Int)) (some (.inl (min (w64 (s3.1*(((rdL p0.fC s3.2).fO.length:Nat):Int))) 4097,w64 (s3.2+1))))else some (.inr (s3.1,s3.2)))
def g5 (p0:TL):Option Int :=
 ((aH (fU p0) (1,0)).bind fun u4=>some u4.1)
def fS (p0:TL) (p1:Int) (s3:(Int × Int)):Option ((Int × Int) ⊕ ((Int × Int) ⊕ (Int × Int))) :=
 (if decide (s3.2<(p0.fC.length:Int))=true then ac ((0:Int)≤s3.2∧s3.2<(p0.fC.length:Int)) ((if(((rdL p0.fC s3.2).fID)==p1)=true then some (.inr (.inl (s3.2,s3.2)))else some (.inl (s3.1,w64 (s3.2+1)))))else some (.inr (.inr (s3.1,s3.2))))
def jD (p0:TL) (p1:Int):Option Int :=
 ((aH (fS p0 p1) (0,0)).bind fun u4=>match u4 with|(.inl u9)=>some u9.1|(.inr u10)=>some (-1))
def jJ (p0:Int) (p1:Int) (p2:Int):Option Bool :=
 some ((decide (p1≤p0))&&(decide (p0≤p2)))
def dJ (p1:TC) (s10:(Bool × Int)) (s25:(Bool × Int)):Option ((Bool × Int) ⊕ ((Bool × Int) ⊕ (Bool × Int))) :=
 (if decide (s25.2<s10.2)=true then ac ((0:Int)≤s25.2∧s25.2<(p1.fO.length:Int)) (ac ((0:Int)≤s10.2∧s10.2<(p1.fO.length:Int)) ((if(((rdL p1.fO s25.2).fFrom==(rdL p1.fO s10.2).fFrom)&&((rdL p1.fO s25.2).fTo==(rdL p1.fO s10.2).fTo))=true then some (.inr (.inl (false,s25.2)))else some (.inl (s25.1,w64 (s25.2+1))))))else some (.inr (.inr (s25.1,s25.2))))
def fJ (p0:TL) (p1:TC) (s10:(Bool × Int)):Option ((Bool × Int) ⊕ ((Bool × Int) ⊕ (Bool × Int))) :=
 (if decide (s10.2<(p1.fO.length:Int))=true then ac ((0:Int)≤s10.2∧s10.2<(p1.fO.length:Int)) (((ef p0 ((rdL p1.fO s10.2).fFrom)).bind fun y14=>ac ((0:Int)≤s10.2∧s10.2<(p1.fO.length:Int)) (((ef p0 ((rdL p1.fO s10.2).fTo)).bind fun y17=>((if((decide (y14<0))||(decide (y17<0)))=true then(some (true))else(ac ((0:Int)≤y14∧y14<(p0.fNo.length:Int)) (ac ((0:Int)≤y17∧y17<(p0.fNo.length:Int)) (some (decide ((rdL p0.fNo y17).fLevel≤(rdL p0.fNo y14).fLevel)))))).bind fun b21=>(if b21=true then some (.inr (.inl (false,s10.2)))else((aH (dJ p1 s10) (s10.1,0)).bind fun u26=>match u26 with|(.inl u32)=>some (.inr (.inl (u32.1,s10.2)))|(.inr u33)=>some (.inl (u33.1,w64 (s10.2+1))))))))))else some (.inr (.inr (s10.1,s10.2))))
def k8 (p0:TL) (p1:TC):Option Bool :=
 ((jJ p1.fID 1 1099511627776).bind fun y3=>((if(!y3)=true then(some (true))else((jJ (p1.fO.length:Int) 1 4).bind fun y39=>some ((!y39)))).bind fun b6=>(if b6=true then some false else((aH (fJ p0 p1) (false,0)).bind fun u11=>match u11 with|(.inl u37)=>some u37.1|(.inr u38)=>some true))))
def fY (p0:TL) (s5:(Int × Int)):Option ((Int × Int) ⊕ ((Int × Int) ⊕ (Int × Int))) :=
 (if decide (s5.2<(p0.fNo.length:Int))=true then ac ((0:Int)≤s5.2∧s5.2<(p0.fNo.length:Int)) (((jJ ((rdL p0.fNo s5.2).fID) 1 1099511627776).bind fun y10=>((if(!y10)=true then(some (true))else((jJ ((rdL p0.fNo s5.2).fLevel) 0 9).bind fun y24=>some ((!y24)))).bind fun b13=>((if b13=true then(some (true))else((jJ ((rdL p0.fNo s5.2).fCost) 0 1073741824).bind fun y22=>some ((!y22)))).bind fun b16=>(if b16=true then some (.inr (.inl (1,s5.2)))else((ef p0 ((rdL p0.fNo s5.2).fID)).bind fun y19=>(if decide (y19<s5.2)=true then some (.inr (.inl (6,s5.2)))else some (.inl (s5.1,w64 (s5.2+1))))))))))else some (.inr (.inr (s5.1,s5.2))))
def fK (p0:TL) (s30:(Int × Int)):Option ((Int × Int) ⊕ ((Int × Int) ⊕ (Int × Int))) :=
 (if decide (s30.2<(p0.fC.length:Int))=true then ac ((0:Int)≤s30.2∧s30.2<(p0.fC.length:Int)) (((k8 p0 (TC.mk ((rdL p0.fC s30.2).fID) ((rdL p0.fC s30.2).fO))).bind fun y34=>(if(!y34)=true then some (.inr (.inl (1,s30.2)))else ac ((0:Int)≤s30.2∧s30.2<(p0.fC.length:Int)) (((jD p0 ((rdL p0.fC s30.2).fID)).bind fun y38=>(if decide (y38<s30.2)=true then some (.inr (.inl (6,s30.2)))else some (.inl (s30.1,w64 (s30.2+1)))))))))else some (.inr (.inr (s30.1,s30.2))))
def kT (p0:TL):Option Int :=
 (if((decide (60<(p0.fNo.length:Int)))||(decide (80<(p0.fC.length:Int))))=true then some 2 else((aH (fY p0) (0,0)).bind fun u6=>match u6 with|(.inl u27)=>some u27.1|(.inr u28)=>((aH (fK p0) (u28.1,0)).bind fun u31=>match u31 with|(.inl u42)=>some u42.1|(.inr u43)=>((g5 p0).bind fun y44=>(if decide (4096<y44)=true then some 2 else some 0)))))
def dK (p0:TL) (s4:(Int × Int × (List Int))):Option ((Int × Int × (List Int)) ⊕ (Int × Int × (List Int))) :=
 (if decide (s4.2.1<(p0.fC.length:Int))=true then ac ((0:Int)≤s4.2.1∧s4.2.1<(p0.fC.length:Int)) (ac ((((rdL p0.fC s4.2.1).fO.length:Nat):Int)≠0) (ac (s4.2.2.length+1≤1000000000) (ac ((((rdL p0.fC s4.2.1).fO.length:Nat):Int)≠0) (some (.inl (w64 (Int.tdiv s4.1 (((rdL p0.fC s4.2.1).fO.length:Nat):Int)),w64 (s4.2.1+1),(s4.2.2++[Int.tmod s4.1 (((rdL p0.fC s4.2.1).fO.length:Nat):Int)])))))))else some (.inr (s4.1,s4.2.1,s4.2.2)))
def gS (p0:TL) (p1:Int):Option (List Int) :=
 ((aH (dK p0) (p1,0,([]:List Int))).bind fun u5=>some u5.2.2)
def ij (p0:(List Int)) (p1:Int) (s2:(Bool × Int)):Option ((Bool × Int) ⊕ ((Bool × Int) ⊕ (Bool × Int))) :=
 (if decide (s2.2<(p0.length:Int))=true then ac ((0:Int)≤s2.2∧s2.2<(p0.length:Int)) ((if((rdL p0 s2.2)==p1)=true then some (.inr (.inl (true,s2.2)))else some (.inl (s2.1,w64 (s2.2+1)))))else some (.inr (.inr (s2.1,s2.2))))
def lp (p0:(List Int)) (p1:Int):Option Bool :=
 ((aH (ij p0 p1) (false,0)).bind fun u3=>match u3 with|(.inl u8)=>some u8.1|(.inr u9)=>some false)
def eu (p0:TL) (p1:(List Int)) (s6:(Int × (List Bool))):Option ((Int × (List Bool)) ⊕ (Int × (List Bool))) :=
 (if decide (s6.1<(p0.fNo.length:Int))=true then ac ((0:Int)≤s6.1∧s6.1<(p0.fNo.length:Int)) (((lp p1 ((rdL p0.fNo s6.1).fID)).bind fun y10=>ac ((0:Int)≤s6.1∧s6.1<((Int.toNat (p0.fNo.length:Int):Nat):Int)) (some (.inl (w64 (s6.1+1),(s6.2.set (Int.toNat s6.1) y10))))))else some (.inr (s6.1,s6.2)))
def fD (p0:TL) (p2:(List Int)) (s21:(Bool × Int × (List Bool))):Option ((Bool × Int × (List Bool)) ⊕ (Bool × Int × (List Bool))) :=
 (if decide (s21.2.1<(p0.fC.length:Int))=true then ac ((0:Int)≤s21.2.1∧s21.2.1<(p0.fC.length:Int)) (ac ((0:Int)≤s21.2.1∧s21.2.1<(p2.length:Int)) (ac ((0:Int)≤(rdL p2 s21.2.1)∧(rdL p2 s21.2.1)<(((rdL p0.fC s21.2.1).fO.length:Nat):Int)) (((ef p0 ((rdL ((rdL p0.fC s21.2.1).fO) (rdL p2 s21.2.1)).fFrom)).bind fun y28=>((ef p0 ((rdL ((rdL p0.fC s21.2.1).fO) (rdL p2 s21.2.1)).fTo)).bind fun y30=>ac ((0:Int)≤y28∧y28<((Int.toNat (p0.fNo.length:Int):Nat):Int)) (((if(rdL s21.2.2 y28)=true then(ac ((0:Int)≤y30∧y30<((Int.toNat (p0.fNo.length:Int):Nat):Int)) (some ((!(rdL s21.2.2 y30)))))else(some (false))).bind fun b34=>(if b34=true then ac ((0:Int)≤y30∧y30<((Int.toNat (p0.fNo.length:Int):Nat):Int)) (some (.inl (true,w64 (s21.2.1+1),(s21.2.2.set (Int.toNat y30) true))))else some (.inl (s21.1,w64 (s21.2.1+1),s21.2.2))))))))))else some (.inr (s21.1,s21.2.1,s21.2.2)))
def fI (p0:TL) (p2:(List Int)) (s16:(Bool × (List Bool))):Option ((Bool × (List Bool)) ⊕ (Bool × (List Bool))) :=
 (if s16.1=true then((aH (fD p0 p2) (false,0,s16.2)).bind fun u22=>some (.inl (u22.1,u22.2.2)))else some (.inr (s16.1,s16.2)))
def iQ (p0:TL) (p1:(List Int)) (p2:(List Int)):Option (List Bool) :=
 ac ((0:Int)≤(p0.fNo.length:Int)∧(p0.fNo.length:Int)*1≤281474976710656) (((aH (eu p0 p1) (0,(List.replicate (Int.toNat (p0.fNo.length:Int)) false))).bind fun u7=>((aH (fI p0 p2) (true,u7.2)).bind fun u17=>some u17.2)))
def gH (p0:TL) (s8:(Int × (List Bool))):Option ((Int × (List Bool)) ⊕ (Int × (List Bool))) :=
 (if decide (s8.1<(p0.fNo.length:Int))=true then ac ((0:Int)≤s8.1∧s8.1<((Int.toNat (p0.fNo.length:Int):Nat):Int)) (some (.inl (w64 (s8.1+1),(s8.2.set (Int.toNat s8.1) true))))else some (.inr (s8.1,s8.2)))
def iE (p0:TL) (y26:(List Bool)) (s34:(Int × (List Bool) × (List Bool))):Option ((Int × (List Bool) × (List Bool)) ⊕ (Int × (List Bool) × (List Bool))) :=
 (if decide (s34.1<(y26.length:Int))=true then ac ((0:Int)≤s34.1∧s34.1<((Int.toNat (p0.fNo.length:Int):Nat):Int)) (((if(rdL s34.2.1 s34.1)=true then(ac ((0:Int)≤s34.1∧s34.1<(y26.length:Int)) (some ((rdL y26 s34.1))))else(some (false))).bind fun b39=>ac ((0:Int)≤s34.1∧s34.1<((Int.toNat (p0.fNo.length:Int):Nat):Int)) (ac ((0:Int)≤s34.1∧s34.1<((Int.toNat (p0.fNo.length:Int):Nat):Int)) (((if(rdL s34.2.2 s34.1)=true then(some (true))else(ac ((0:Int)≤s34.1∧s34.1<(y26.length:Int)) (some ((rdL y26 s34.1))))).bind fun b44=>ac ((0:Int)≤s34.1∧s34.1<((Int.toNat (p0.fNo.length:Int):Nat):Int)) (some (.inl (w64 (s34.1+1),(s34.2.1.set (Int.toNat s34.1) b39),(s34.2.2.set (Int.toNat s34.1) b44)))))))))else some (.inr (s34.1,s34.2.1,s34.2.2)))
def iN (p0:TL) (p1:(List Int)) (s15:(Int × (List Bool) × (List Bool))):Option ((Int × (List Bool) × (List Bool)) ⊕ (Int × (List Bool) × (List Bool))) :=
 ((g5 p0).bind fun y17=>(if decide (s15.1<y17)=true then((gS p0 s15.1).bind fun y20=>((iQ p0 p1 y20).bind fun y26=>((aH (iE p0 y26) (0,s15.2.1,s15.2.2)).bind fun u35=>some (.inl (w64 (s15.1+1),u35.2.1,u35.2.2)))))else some (.inr (s15.1,s15.2.1,s15.2.2))))
def ms (p0:TL) (p1:(List Int)):Option ((List Bool) × (List Bool)) :=
 ac ((0:Int)≤(p0.fNo.length:Int)∧(p0.fNo.length:Int)*1≤281474976710656) (ac ((0:Int)≤(p0.fNo.length:Int)∧(p0.fNo.length:Int)*1≤281474976710656) (((aH (gH p0) (0,(List.replicate (Int.toNat (p0.fNo.length:Int)) false))).bind fun u9=>((aH (iN p0 p1) (0,u9.2,(List.replicate (Int.toNat (p0.fNo.length:Int)) false))).bind fun u16=>some (u16.2.1,u16.2.2)))))
def lP (p0:(List Int)) (p1:Int) (s2:Int):Option (Int ⊕ Int) :=
 ((if decide (0<s2)=true then(ac ((0:Int)≤w64 (s2-1)∧w64 (s2-1)<(p0.length:Int)) (some (decide (p1<(rdL p0 (w64 (s2-1)))))))else(some (false))).bind fun b5=>(if b5=true then some (.inl (w64 (s2-1)))else some (.inr s2)))
def rn (p0:(List Int)) (p1:Int):Option (List Int) :=
 ((aH (lP p0 p1) (p0.length:Int)).bind fun u3=>ac ((0:Int)≤u3∧u3≤(p0.length:Int)) (ac (0+(Int.toNat u3)≤1000000000) (ac ((0+(Int.toNat u3))+1≤1000000000) (ac ((0:Int)≤u3∧u3≤(p0.length:Int)) (ac (((0+(Int.toNat u3))+1)+(p0.length-Int.toNat u3)≤1000000000) (some (((([]:List Int)++(p0.take (Int.toNat u3)))++[p1])++(p0.drop (Int.toNat u3)))))))))
def dj (p0:(List Int)) (s2:(Bool × Int)):Option ((Bool × Int) ⊕ ((Bool × Int) ⊕ (Bool × Int))) :=
 (if decide (s2.2<(p0.length:Int))=true then ac ((0:Int)≤s2.2∧s2.2<(p0.length:Int)) (ac ((0:Int)≤w64 (s2.2-1)∧w64 (s2.2-1)<(p0.length:Int)) ((if decide ((rdL p0 s2.2)≤(rdL p0 (w64 (s2.2-1))))=true then some (.inr (.inl (false,s2.2)))else some (.inl (s2.1,w64 (s2.2+1))))))else some (.inr (.inr (s2.1,s2.2))))
def jO (p0:(List Int)):Option Bool :=
 ((aH (dj p0) (false,1)).bind fun u3=>match u3 with|(.inl u9)=>some u9.1|(.inr u10)=>some true)
def fP (p0:TL) (p1:(List Int)) (s3:(Bool × Int)):Option ((Bool × Int) ⊕ ((Bool × Int) ⊕ (Bool × Int))) :=
 (if decide (s3.2<(p1.length:Int))=true then ac ((0:Int)≤s3.2∧s3.2<(p1.length:Int)) (((ef p0 (rdL p1 s3.2)).bind fun y7=>(if decide (y7<0)=true then some (.inr (.inl (false,s3.2)))else some (.inl (s3.1,w64 (s3.2+1))))))else some (.inr (.inr (s3.1,s3.2))))
def ls (p0:TL) (p1:(List Int)):Option Bool :=
 ((aH (fP p0 p1) (false,0)).bind fun u4=>match u4 with|(.inl u11)=>some u11.1|(.inr u12)=>((if decide (0<(p1.length:Int))=true then((jO p1).bind fun y16=>some (y16))else(some (false))).bind fun b14=>some b14))
def ml (p0:TL) (p1:(List Int)):Option Int :=
 ((kT p0).bind fun y2=>((if(y2==0)=true then((ls p0 p1).bind fun y8=>some ((!y8)))else(some (false))).bind fun b5=>(if b5=true then some 1 else some y2)))
def nh (p0:TL) (p1:(List Int)) (p2:Int):Option Int :=
 ((ml p0 p1).bind fun y2=>((if(y2==0)=true then((ef p0 p2).bind fun y8=>some (decide (y8<0)))else(some (false))).bind fun b5=>(if b5=true then some 5 else some y2)))
def gW (p0:TL) (p1:(List Int)) (p2:Int):Option Bool :=
 ((ms p0 p1).bind fun y2=>((ef p0 p2).bind fun y12=>ac ((0:Int)≤y12∧y12<(y2.2.length:Int)) (some (rdL y2.2 y12))))
def er (p0:TL) (p1:(List Int)) (s4:(Bool × Int)):Option ((Bool × Int) ⊕ ((Bool × Int) ⊕ (Bool × Int))) :=
 (if decide (s4.2<(p1.length:Int))=true then ac ((0:Int)≤s4.2∧s4.2<(p1.length:Int)) (ac ((0:Int)≤s4.2∧s4.2<(p0.fC.length:Int)) (((cp (rdL p1 s4.2) 0 (w64 ((((rdL p0.fC s4.2).fO.length:Nat):Int)-1))).bind fun y9=>(if(!y9)=true then some (.inr (.inl (false,s4.2)))else some (.inl (s4.1,w64 (s4.2+1)))))))else some (.inr (.inr (s4.1,s4.2))))
def gw (p0:TL) (p1:(List Int)):Option Bool :=
 (if((p1.length:Int) !=(p0.fC.length:Int))=true then some false else((aH (er p0 p1) (false,0)).bind fun u5=>match u5 with|(.inl u13)=>some u13.1|(.inr u14)=>some true))
def f6 (p0:TL) (p1:(List Int)) (s4:(Bool × Int)):Option ((Bool × Int) ⊕ ((Bool × Int) ⊕ (Bool × Int))) :=
 (if decide (s4.2<(p1.length:Int))=true then ac ((0:Int)≤s4.2∧s4.2<(p1.length:Int)) (ac ((0:Int)≤s4.2∧s4.2<(p0.fC.length:Int)) (((jJ (rdL p1 s4.2) 0 (w64 ((((rdL p0.fC s4.2).fO.length:Nat):Int)-1))).bind fun y9=>(if(!y9)=true then some (.inr (.inl (false,s4.2)))else some (.inl (s4.1,w64 (s4.2+1)))))))else some (.inr (.inr (s4.1,s4.2))))
def lA (p0:TL) (p1:(List Int)):Option Bool :=
 (if((p1.length:Int) !=(p0.fC.length:Int))=true then some false else((aH (f6 p0 p1) (false,0)).bind fun u5=>match u5 with|(.inl u13)=>some u13.1|(.inr u14)=>some true))
def ff (p0:(List Int)):Option (List Int) :=
 ac (0+p0.length≤1000000000) (some (([]:List Int)++p0))
def jG (p0:TL) (p1:(List Int)) (p2:Int) (p3:Bool) (s20:(Bool × (List Int))) (x21:(List Int)):Option ((Bool × (List Int)) ⊕ (Bool × (List Int))) :=
 ((bM x21).bind fun y24=>((rcR p0 p1 (fun x26 x27=>aN x21 x26 x27)).bind fun y28=>ac (cX p2=true) ((if((aw false y28 p2)==p3)=true then((ff x21).bind fun y33=>some (.inr (true,y33)))else some (.inl (s20.1,s20.2))))))
def g9 (p0:TL) (p1:(List Int)) (p2:Int) (p3:Bool):Option ((List Int) × Bool) :=
 ((cv p0).bind fun y7=>(ac (bX p0) ((fz (jG p0 p1 p2 p3) (sCs p0) (false,([]:List Int))).bind fun u22=>match u22 with|.inl u41=>some (u41.2,u41.1)|.inr u42=>some (u42.2,u42.1))))
def pD (p0:TL) (p1:(List Int)) (p2:Int):Option ((List Int) × Int) :=
 ((aZ p0 p1 p2).bind fun y2=>(if(y2 !=0)=true then some ([],y2)else((g9 p0 p1 p2 false).bind fun y5=>(if(!y5.2)=true then some ([],5)else some (y5.1,0)))))
def mo (p0:TL) (p1:(List Int)) (p2:Int) (p3:(List Int)):Option Int :=
 ((aZ p0 p1 p2).bind fun y2=>(if(y2 !=0)=true then some y2 else((gw p0 p3).bind fun y5=>(if(!y5)=true then some 1 else((bM p3).bind fun y9=>((rcR p0 p1 (fun x11 x12=>aN p3 x11 x12)).bind fun y13=>ac (cX p2=true) ((if aw false y13 p2=true then some 8 else some 0))))))))
def gx (p0:TC) (cap0:(List Int)) (cap1:TL) (cap2:Int) (cap3:(List (Int × Bool))):Option Bool :=
 ((dH cap1 p0.fID).bind fun y2=>ac ((0:Int)≤y2∧y2<(cap0.length:Int)) (ac ((0:Int)≤(rdL cap0 y2)∧(rdL cap0 y2)<(p0.fO.length:Int)) (((if(((rdL p0.fO (rdL cap0 y2)).fTo)==cap2)=true then(ac (cX ((rdL p0.fO (rdL cap0 y2)).fFrom)=true) (some (aw false cap3 ((rdL p0.fO (rdL cap0 y2)).fFrom))))else(some (false))).bind fun b8=>some b8))))
def ci (p0:(List Int)) (s3:(Int × Int × (List Int))):Option ((Int × Int × (List Int)) ⊕ (Int × Int × (List Int))) :=
 (if decide (s3.1<s3.2.1)=true then ac ((0:Int)≤s3.2.1∧s3.2.1<(p0.length:Int)) (ac ((0:Int)≤s3.1∧s3.1<(p0.length:Int)) (ac ((0:Int)≤s3.1∧s3.1<(p0.length:Int)) (ac ((0:Int)≤s3.2.1∧s3.2.1<(p0.length:Int)) (some (.inl (w64 (s3.1+1),w64 (s3.2.1-1),((s3.2.2.set (Int.toNat s3.1) (rdL s3.2.2 s3.2.1)).set (Int.toNat s3.2.1) (rdL s3.2.2 s3.1))))))))else some (.inr (s3.1,s3.2.1,s3.2.2)))
def cV (p0:(List Int)):Option (List Int) :=
 ((aH (ci p0) (0,w64 ((p0.length:Int)-1),p0)).bind fun u4=>some u4.2.2)
def gV (p0:TL) (p1:(List Int)) (p3:(List Int)) (y8:(List (Int × Bool))) (s15:(Int × (List Int))):Option ((Int × (List Int)) ⊕ (Int × (List Int))) :=
 ((aL p1 s15.1).bind fun y17=>(if(!y17)=true then((aS p0.fC (fun x20=>gx x20 p3 p0 s15.1 y8)).bind fun y21=>ac ((0:Int)≤y21∧y21<(p0.fC.length:Int)) (ac (s15.2.length+1≤1000000000) (ac ((0:Int)≤y21∧y21<(p0.fC.length:Int)) (ac ((0:Int)≤y21∧y21<(p3.length:Int)) (ac ((0:Int)≤(rdL p3 y21)∧(rdL p3 y21)<(((rdL p0.fC y21).fO.length:Nat):Int)) (some (.inl ((rdL ((rdL p0.fC y21).fO) (rdL p3 y21)).fFrom,(s15.2++[(rdL p0.fC y21).fID])))))))))else some (.inr (s15.1,s15.2))))
def k7 (p0:TL) (p1:(List Int)) (p2:Int) (p3:(List Int)):Option (List Int) :=
 ((bM p3).bind fun y4=>((rcR p0 p1 (fun x6 x7=>aN p3 x6 x7)).bind fun y8=>((aH (gV p0 p1 p3 y8) (p2,([]:List Int))).bind fun u16=>((cV u16.2).bind fun y33=>some y33))))
def ik (p0:TL) (p1:(List Int)) (p2:Int):Option (TTrace × Int) :=
 ((aZ p0 p1 p2).bind fun y3=>(if(y3 !=0)=true then some ((TTrace.mk [] []),y3)else((g9 p0 p1 p2 true).bind fun y6=>(if(!y6.2)=true then some ((TTrace.mk [] []),5)else((k7 p0 p1 p2 y6.1).bind fun y13=>some ((TTrace.mk y6.1 y13),0))))))
def fv (p3:TTrace) (s10:(Int × Int × Int)) (s27:(Int × Int)):Option ((Int × Int) ⊕ ((Int × Int) ⊕ (Int × Int))) :=
 (if decide (s27.2<s10.2.2)=true then ac ((0:Int)≤s27.2∧s27.2<(p3.fC.length:Int)) (ac ((0:Int)≤s10.2.2∧s10.2.2<(p3.fC.length:Int)) ((if((rdL p3.fC s27.2)==(rdL p3.fC s10.2.2))=true then some (.inr (.inl (8,s27.2)))else some (.inl (s27.1,w64 (s27.2+1))))))else some (.inr (.inr (s27.1,s27.2))))
def cq (p0:TL) (p1:(List Int)) (p3:TTrace) (s10:(Int × Int × Int)):Option ((Int × Int × Int) ⊕ ((Int × Int × Int) ⊕ (Int × Int × Int))) :=
 (if decide (s10.2.2<(p3.fC.length:Int))=true then ac ((0:Int)≤s10.2.2∧s10.2.2<(p3.fC.length:Int)) (((jD p0 (rdL p3.fC s10.2.2)).bind fun y14=>(if decide (y14<0)=true then some (.inr (.inl (8,s10.2.1,s10.2.2)))else ac ((0:Int)≤y14∧y14<(p0.fC.length:Int)) (ac ((0:Int)≤y14∧y14<(p3.fCase.length:Int)) (ac ((0:Int)≤(rdL p3.fCase y14)∧(rdL p3.fCase y14)<(((rdL p0.fC y14).fO.length:Nat):Int)) (((if(s10.2.2==0)=true then((lp p1 ((rdL ((rdL p0.fC y14).fO) (rdL p3.fCase y14)).fFrom)).bind fun y37=>some ((!y37)))else(some (false))).bind fun b22=>(if(b22||((decide (0<s10.2.2))&&(((rdL ((rdL p0.fC y14).fO) (rdL p3.fCase y14)).fFrom) !=s10.2.1)))=true then some (.inr (.inl (8,s10.2.1,s10.2.2)))else((aH (fv p3 s10) (s10.1,0)).bind fun u28=>match u28 with|(.inl u34)=>some (.inr (.inl (u34.1,s10.2.1,s10.2.2)))|(.inr u35)=>some (.inl (u35.1,(rdL ((rdL p0.fC y14).fO) (rdL p3.fCase y14)).fTo,w64 (s10.2.2+1))))))))))))else some (.inr (.inr (s10.1,s10.2.1,s10.2.2))))
def bK (p0:TL) (p1:(List Int)) (p2:Int) (p3:TTrace):Option Int :=
 ((nh p0 p1 p2).bind fun y3=>(if(y3 !=0)=true then some y3 else((lA p0 p3.fCase).bind fun y6=>(if(!y6)=true then some 8 else((aH (cq p0 p1 p3) (0,0,0)).bind fun u11=>match u11 with|(.inl u40)=>some u40.1|(.inr u41)=>((if((p3.fC.length:Int)==0)=true then((lp p1 p2).bind fun y48=>some ((!y48)))else(some (false))).bind fun b43=>(if(b43||((decide (0<(p3.fC.length:Int)))&&(u41.2.1 !=p2)))=true then some 8 else some 0)))))))
def eP (p0:TTrace) (p1:Int) (p2:Int) (p3:Int):Option TTrace :=
 ac (0+p0.fCase.length≤1000000000) (ac (0+p0.fC.length≤1000000000) ((if(((Int.tmod p2 4)==1)&&(decide (0<(((0+p0.fCase.length):Nat):Int))))=true then ac ((((0+p0.fCase.length):Nat):Int)≠0) (ac ((0:Int)≤Int.tmod (w64 p1) (((0+p0.fCase.length):Nat):Int)∧Int.tmod (w64 p1) (((0+p0.fCase.length):Nat):Int)<(((0+p0.fCase.length):Nat):Int)) (ac ((0:Int)≤Int.tmod (w64 p1) (((0+p0.fCase.length):Nat):Int)∧Int.tmod (w64 p1) (((0+p0.fCase.length):Nat):Int)<(((0+p0.fCase.length):Nat):Int)) (some (TTrace.mk ((([]:List Int)++p0.fCase).set (Int.toNat (Int.tmod (w64 p1) (((0+p0.fCase.length):Nat):Int))) (w64 ((rdL (([]:List Int)++p0.fCase) (Int.tmod (w64 p1) (((0+p0.fCase.length):Nat):Int)))+p3))) (([]:List Int)++p0.fC)))))else(if(((Int.tmod p2 4)==2)&&(decide (0<(((0+p0.fC.length):Nat):Int))))=true then ac ((0:Int)≤1∧1≤(((0+p0.fC.length):Nat):Int)) (some (TTrace.mk (([]:List Int)++p0.fCase) ((([]:List Int)++p0.fC).drop (Int.toNat 1))))else(if((Int.tmod p2 4)==3)=true then ac ((0+p0.fC.length)+1≤1000000000) (some (TTrace.mk (([]:List Int)++p0.fCase) ((([]:List Int)++p0.fC)++[p3])))else some (TTrace.mk (([]:List Int)++p0.fCase) (([]:List Int)++p0.fC)))))))
def fg (p0:TL) (p1:(List Int)) (p3:TTrace) (s10:(Bool × Int × Int)):Option ((Bool × Int × Int) ⊕ ((Bool × Int × Int) ⊕ (Bool × Int × Int))) :=
 (if decide (s10.2.2<(p3.fC.length:Int))=true then ac ((0:Int)≤s10.2.2∧s10.2.2<(p3.fC.length:Int)) (((dH p0 (rdL p3.fC s10.2.2)).bind fun y14=>((if decide (y14<0)=true then(some (true))else(ac ((0:Int)≤s10.2.2∧s10.2.2≤(p3.fC.length:Int)) (((aL (p3.fC.take (Int.toNat s10.2.2)) (rdL p3.fC s10.2.2)).bind fun y33=>some (y33))))).bind fun b17=>(if b17=true then some (.inr (.inl (false,s10.2.1,s10.2.2)))else ac ((0:Int)≤y14∧y14<(p0.fC.length:Int)) (ac ((0:Int)≤y14∧y14<(p3.fCase.length:Int)) (ac ((0:Int)≤(rdL p3.fCase y14)∧(rdL p3.fCase y14)<(((rdL p0.fC y14).fO.length:Nat):Int)) (((if(s10.2.2==0)=true then((aL p1 ((rdL ((rdL p0.fC y14).fO) (rdL p3.fCase y14)).fFrom)).bind fun y30=>some ((!y30)))else(some (false))).bind fun b25=>(if(b25||((decide (0<s10.2.2))&&(((rdL ((rdL p0.fC y14).fO) (rdL p3.fCase y14)).fFrom) !=s10.2.1)))=true then some (.inr (.inl (false,s10.2.1,s10.2.2)))else some (.inl (s10.1,(rdL ((rdL p0.fC y14).fO) (rdL p3.fCase y14)).fTo,w64 (s10.2.2+1))))))))))))else some (.inr (.inr (s10.1,s10.2.1,s10.2.2))))
def jP (p0:TL) (p1:(List Int)) (p2:Int) (p3:TTrace):Option Bool :=
 ((gw p0 p3.fCase).bind fun y3=>(if(!y3)=true then some false else(if((p3.fC.length:Int)==0)=true then((aL p1 p2).bind fun y7=>some y7)else((aH (fg p0 p1 p3) (false,0,0)).bind fun u11=>match u11 with|(.inl u36)=>some u36.1|(.inr u37)=>some (u37.2.1==p2)))))
def bu (p0:TL) (p1:(List Int)) (p2:Int) (p3:TTrace):Option Int :=
 ((aZ p0 p1 p2).bind fun y3=>(if(y3 !=0)=true then some y3 else((jP p0 p1 p2 p3).bind fun y6=>(if(!y6)=true then some 8 else some 0))))
def fe (p0:TL) (p1:(List Int)) (p2:Int) (p3:TTrace) (p4:Int) (p5:Int) (p6:Int):Option Bool :=
 ((fR).bind fun y3=>((iO p0).bind fun y5=>(if((((!y5)||(decide (30<(p1.length:Int))))||(decide (100<(p3.fCase.length:Int))))||(decide (100<(p3.fC.length:Int))))=true then some y3 else((ik p0 p1 p2).bind fun y11=>((nh p0 p1 p2).bind fun y22=>((if(y22==0)=true then((gW p0 p1 p2).bind fun y116=>some ((!y116)))else(some (false))).bind fun b25=>(if b25=true then((if(y11.2 !=5)=true then(some (true))else((if(y11.2==0)=true then((bK p0 p1 p2 y11.1).bind fun y70=>some ((y70 !=0)))else(some (false))).bind fun b68=>some (b68))).bind fun b29=>(if(b29||((y11.2 !=0)&&(decide (0<w64 ((y11.1.fCase.length:Int)+(y11.1.fC.length:Int))))))=true then some false else((eP y11.1 p4 p5 p6).bind fun y33=>((if y3=true then((bu p0 p1 p2 p3).bind fun y62=>((bK p0 p1 p2 p3).bind fun y64=>some ((y62==y64))))else(some (false))).bind fun b53=>((if b53=true then((bu p0 p1 p2 y33).bind fun y58=>((bK p0 p1 p2 y33).bind fun y60=>some ((y58==y60))))else(some (false))).bind fun b56=>some b56)))))else((if(y11.2 !=y22)=true then(some (true))else((if(y11.2==0)=true then((bK p0 p1 p2 y11.1).bind fun y114=>some ((y114 !=0)))else(some (false))).bind fun b112=>some (b112))).bind fun b73=>(if(b73||((y11.2 !=0)&&(decide (0<w64 ((y11.1.fCase.length:Int)+(y11.1.fC.length:Int))))))=true then some false else((eP y11.1 p4 p5 p6).bind fun y77=>((if y3=true then((bu p0 p1 p2 p3).bind fun y106=>((bK p0 p1 p2 p3).bind fun y108=>some ((y106==y108))))else(some (false))).bind fun b97=>((if b97=true then((bu p0 p1 p2 y77).bind fun y102=>((bK p0 p1 p2 y77).bind fun y104=>some ((y102==y104))))else(some (false))).bind fun b100=>some b100))))))))))))
end
end Go.Proofs.YtbblpokfbmekfaaGreat
