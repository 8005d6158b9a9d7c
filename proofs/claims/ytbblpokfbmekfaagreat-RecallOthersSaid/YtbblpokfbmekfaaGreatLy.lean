import Derived.Test.YtbblpokfbmekfaaGreatE
import Derived.KernelRfl
set_option linter.unusedVariables false
namespace Go.Proofs.YtbblpokfbmekfaaGreat
theorem loop_for {S T:Type} {body:S→Option (S ⊕ T)} (st:Nat→S):∀(n:Nat),(∀k,k<n→body (st k)=some (.inl (st (k+1))))→aL body (st 0)=aL body (st n)
 | 0,_=>rfl
 | n+1,h=>by rw[loop_for st n (fun k hk=>h k (by omega)),g7 (h n (by omega))]
theorem f6 {S T:Type} {body:S→Option (S ⊕ T)} (st:Nat→S) (n:Nat) {t:T} (h:∀k,k<n→body (st k)=some (.inl (st (k+1)))) (hs:body (st n)=some (.inr t)):aL body (st 0)=some t:=by
 rw[loop_for st n h,ci hs]
theorem bE {S T:Type} {body:S→Option (S ⊕ T)} (st:Nat→S) (n:Nat) (R:Nat→Option T) {t0:T} (h:∀k,k<n→body (st k)=some (match R k with|none=>.inl (st (k+1))|some t=>.inr t)) (hs:body (st n)=some (.inr t0)) :
  aL body (st 0)=some (((List.range n).findSome? R).getD t0):=by
 have key:∀c k,k+c=n→aL body (st k)=some (((List.range' k c).findSome? R).getD t0):=by
  intro c
  induction c with
  | zero =>
   intro k hk
   have:k=n:=by omega
   subst this
   rw[ci hs]
   rfl
  | succ c ih =>
   intro k hk
   have hb:=h k (by omega)
   rw[List.range'_succ]
   cases hR:R k with
   | none =>
    rw[hR]at hb
    rw[g7 hb,ih (k+1) (by omega)]
    simp[hR]
   | some t =>
    rw[hR]at hb
    rw[ci hb]
    simp[hR]
 have:=key n 0 (by omega)
 rw[this,List.range_eq_range']
theorem d6 {α:Type} {p:Prop} [Decidable p] {x y:α} (h:p):(if decide p=true then x else y)=x:=by rw[if_pos (decide_eq_true h)]
theorem dt {α:Type} {p:Prop} [Decidable p] {x y:α} (h:¬p):(if decide p=true then x else y)=y:=by rw[if_neg (by rw[decide_eq_false h];exact Bool.false_ne_true)]
theorem aX {α:Type} [Inhabited α] {xs:List α} {k:Nat} (h:k<xs.length):rdL xs (k:Int)=xs[k]:=by
 unfold rdL
 rw[Int.toNat_natCast,List.getD_eq_getElem?_getD,List.getElem?_eq_getElem h]
 rfl
theorem a4 {k:Nat} (h:k<9223372036854775807):w64 ((k:Int)+1)=((k+1:Nat):Int):=by
 rw[iZ (by omega) (by omega)];rfl
theorem bM {T:Type} {R:Nat→Option T} {n:Nat} (t0:T):((∀k,k<n→R k=none)∧((List.range n).findSome? R).getD t0=t0)∨∃k t,k<n∧R k=some t∧(∀j,j<k→R j=none)∧((List.range n).findSome? R).getD t0=t:=by
 induction n with
 | zero=>exact .inl ⟨fun k hk=>by omega,O⟩
 | succ n ih =>
  rw[List.range_succ,List.findSome?_append]
  rcases ih with⟨h1,h2⟩|⟨k,t,hk,hR,hj,h2⟩
  ·have h3:(List.range n).findSome? R=none:=List.findSome?_eq_none_iff.2 (fun x hx=>h1 x (List.mem_range.1 hx))
   rw[h3]
   cases hR:R n with
   | none=>exact .inl ⟨fun k hk=>by
    rcases Nat.lt_or_ge k n with h|h
    ·exact h1 k h
    ·rw[show k=n by omega];exact hR,by simp[hR]⟩
   | some t=>exact .inr ⟨n,t,by omega,hR,h1,by simp[hR]⟩
  ·refine .inr ⟨k,t,by omega,hR,hj,?_⟩
   have h3:((List.range n).findSome? R)=some t:=by
    cases hf:(List.range n).findSome? R with
    | none=>have:=List.findSome?_eq_none_iff.1 hf k (List.mem_range.2 hk);rw[hR]at this;cases this
    | some u=>rw[hf]at h2;exact congrArg some h2
   rw[h3]
   rfl
theorem search_none {T:Type} {R:Nat→Option T} {n:Nat} {t0:T} (h:∀k,k<n→R k=none):((List.range n).findSome? R).getD t0=t0:=by
 rw[List.findSome?_eq_none_iff.2 (fun x hx=>h x (List.mem_range.1 hx))];rfl
theorem qr {T:Type} {R:Nat→Option T} {n:Nat} {t0 t:T} (k:Nat) (hk:k<n) (hR:R k=some t) (hj:∀j,j<k→R j=none):((List.range n).findSome? R).getD t0=t:=by
 rcases bM (R:=R) (n:=n) t0 with⟨h,_⟩|⟨k',t',hk',hR',hj',h⟩
 ·rw[h k hk]at hR;cases hR
 ·rcases Nat.lt_trichotomy k k' with h' | h' | h'
  ·rw[hj' k h']at hR;cases hR
  ·subst h';rw[hR]at hR';cases hR';exact h
  ·rw[hj k' h']at hR';cases hR'
def rt {α:Type} [Inhabited α] (l:List α) (q:α→Bool):Int:=((List.range l.length).findSome? fun k=>if q (l.getD k default)=true then some (k:Int)else none).getD (-1)
theorem bj {α:Type} [Inhabited α] {l:List α} {k:Nat} (h:k<l.length):l.getD k default=l[k]:=by
 rw[List.getD_eq_getElem?_getD,List.getElem?_eq_getElem h];rfl
theorem hZ {α:Type} [Inhabited α] (l:List α) (q:α→Bool):((∀x∈l,q x=false)∧rt l q = -1)∨∃k,∃h:k<l.length,q l[k]=true∧(∀j,(hj:j<k)→q (l[j]'(by omega))=false)∧rt l q=(k:Int):=by
 unfold rt
 rcases bM (R:=fun k=>if q (l.getD k default)=true then some (k:Int)else none) (n:=l.length) (-1)with⟨h,h2⟩|⟨k,t,hk,hR,hj,h2⟩
 ·refine .inl ⟨fun x hx=>?_,h2⟩
  obtain⟨k,hk,rfl⟩:=List.mem_iff_getElem.1 hx
  have:=h k hk
  rw[bj hk]at this
  cases hq:q l[k]
  ·rfl
  ·rw[hq]at this;simp at this
 ·rw[bj hk]at hR
  cases hq:q l[k]with
  | false=>rw[hq]at hR;simp at hR
  | true =>
   rw[hq]at hR
   simp only[if_true]at hR
   refine .inr ⟨k,hk,hq,fun j hj'=>?_,h2.trans (Option.some.inj hR).symm⟩
   have:=hj j hj'
   rw[bj (by omega)]at this
   cases hq':q (l[j]'(by omega))
   ·rfl
   ·rw[hq']at this;simp at this
theorem mU {α:Type} [Inhabited α] (l:List α) (q:α→Bool):(match ((List.range l.length).findSome? (fun k=>if q (l.getD k default)=true then some (Sum.inl ((k:Int),(k:Int)):(Int × Int) ⊕ (Int × Int))else none)).getD (.inr (0,(l.length:Int)))with|.inl u=>some u.1|.inr _=>some (-1))=some (rt l q):=by
 unfold rt
 rcases bM (R:=fun k=>if q (l.getD k default)=true then some (Sum.inl ((k:Int),(k:Int)):(Int × Int) ⊕ (Int × Int))else none) (n:=l.length) (.inr (0,(l.length:Int)))with⟨hn,h2⟩|⟨k,t,hk,hR,hj,h2⟩
 ·rw[h2,search_none (fun k hk=>by have:=hn k hk;split at this <;> simp_all)]
 ·rw[h2]
  have hq:q (l.getD k default)=true:=by
   by_cases hq:q (l.getD k default)=true
   ·exact hq
   ·rw[if_neg hq]at hR;cases hR
  rw[if_pos hq]at hR
  cases hR
  rw[qr k hk (by rw[if_pos hq]) (fun j hj'=>by have:=hj j hj';split at this <;> simp_all)]
theorem TNode_eta (x:TN):TN.mk x.fID x.fLevel x.fCost=x:=rfl
theorem jl (x:TC):TC.mk x.fID x.fO=x:=rfl
theorem THop_eta (x:TH):TH.mk x.fFrom x.fTo=x:=rfl
theorem sq {l:List TN} {f:TN→Option Bool} {q:TN→Bool} (hl:l.length<1000000000) (h:∀x∈l,f x=some (q x)):be l f=some (rt l q):=by
 unfold be
 have:=bE (body:=aQ l f) (fun k=>((0:Int),(k:Int))) l.length (fun k=>if q (l.getD k default)=true then some (Sum.inl ((k:Int),(k:Int)))else none) (t0:=.inr (0,(l.length:Int))) (fun k hk=>by
  have c1:decide ((k:Int)<((l.length:Nat):Int))=true:=decide_eq_true (by omega)
  have c2:(0:Int)≤(k:Int)∧(k:Int)<((l.length:Nat):Int):=by omega
  unfold aQ;dsimp only
  simp only[c1,if_true,gPo c2,aX hk,TNode_eta,h _ (List.getElem_mem hk),oB,bj hk,a4 (show k<9223372036854775807 by omega)]
  cases q l[k] <;> rfl) (by
  unfold aQ;dsimp only
  rw[dt (by omega)])
 have h0:aL (aQ l f) (0,0)=_:=this
 rw[h0,oB]
 exact mU l q
theorem nJ {l:List TC} {f:TC→Option Bool} {q:TC→Bool} (hl:l.length<1000000000) (h:∀x∈l,f x=some (q x)):aR l f=some (rt l q):=by
 unfold aR
 have:=bE (body:=aN l f) (fun k=>((0:Int),(k:Int))) l.length (fun k=>if q (l.getD k default)=true then some (Sum.inl ((k:Int),(k:Int)))else none) (t0:=.inr (0,(l.length:Int))) (fun k hk=>by
  have c1:decide ((k:Int)<((l.length:Nat):Int))=true:=decide_eq_true (by omega)
  have c2:(0:Int)≤(k:Int)∧(k:Int)<((l.length:Nat):Int):=by omega
  unfold aN;dsimp only
  simp only[c1,if_true,gPo c2,aX hk,jl,h _ (List.getElem_mem hk),oB,bj hk,a4 (show k<9223372036854775807 by omega)]
  cases q l[k] <;> rfl) (by
  unfold aN;dsimp only
  rw[dt (by omega)])
 have h0:aL (aN l f) (0,0)=_:=this
 rw[h0,oB]
 exact mU l q
theorem mi {α:Type} [Inhabited α] {l:List α} {q:α→Bool}:0≤rt l q↔∃x∈l,q x=true:=by
 rcases hZ l q with⟨h,h2⟩|⟨k,hk,hq,_,h2⟩
 ·rw[h2]
  exact⟨fun h=>by omega,fun⟨x,hx,hq⟩=>by rw[h x hx]at hq;cases hq⟩
 ·rw[h2]
  exact⟨fun _=>⟨l[k],List.getElem_mem hk,hq⟩,fun _=>by omega⟩
theorem fk {α:Type} [Inhabited α] (l:List α) (q:α→Bool):rt l q<(l.length:Int):=by
 rcases hZ l q with⟨h,h2⟩|⟨k,hk,hq,_,h2⟩ <;> omega
theorem idxI_get {α:Type} [Inhabited α] {l:List α} {q:α→Bool} (h:0≤rt l q):q (rdL l (rt l q))=true:=by
 rcases hZ l q with⟨_,h2⟩|⟨k,hk,hq,_,h2⟩
 ·omega
 ·rw[h2,aX hk];exact hq
theorem idxI_mem {α:Type} [Inhabited α] {l:List α} {q:α→Bool} (h:0≤rt l q):rdL l (rt l q)∈l:=by
 rcases hZ l q with⟨_,h2⟩|⟨k,hk,hq,_,h2⟩
 ·omega
 ·rw[h2,aX hk];exact List.getElem_mem hk
theorem tb {α:Type} [Inhabited α] {l:List α} {f:α→Int} (hd:(l.map f).Nodup) {k:Nat} (hk:k<l.length):rt l (fun x=>f x==f l[k])=(k:Int):=by
 rcases hZ l (fun x=>f x==f l[k])with⟨h,_⟩|⟨j,hj,hq,_,h2⟩
 ·have:=h l[k] (List.getElem_mem hk);simp at this
 ·rw[h2]
  have he:f l[j]=f l[k]:=by simpa using hq
  have hpw:=List.pairwise_iff_getElem.1 hd
  rcases Nat.lt_trichotomy j k with h3|h3|h3
  ·have:=hpw j k (by simpa using hj) (by simpa using hk) h3
   simp only[List.getElem_map]at this
   exact absurd he this
  ·rw[h3]
  ·have:=hpw k j (by simpa using hk) (by simpa using hj) h3
   simp only[List.getElem_map]at this
   exact absurd he.symm this
theorem idxI_lt {α:Type} [Inhabited α] {l:List α} {f:α→Int} {k:Nat} (hk:k<l.length):rt l (fun x=>f x==f l[k])<(k:Int)↔∃j,∃h:j<k,f (l[j]'(by omega))=f l[k]:=by
 rcases hZ l (fun x=>f x==f l[k])with⟨h,_⟩|⟨j,hj,hq,hm,h2⟩
 ·have:=h l[k] (List.getElem_mem hk);simp at this
 ·rw[h2]
  have he:f l[j]=f l[k]:=by simpa using hq
  refine⟨fun h=>⟨j,by omega,he⟩,fun⟨i,hi,hie⟩=>?_⟩
  rcases Nat.lt_or_ge j k with h3|h3
  ·omega
  ·exfalso
   have:=hm i (by omega)
   rw[hie]at this
   simp at this
theorem iw {α:Type} [Inhabited α] {l:List α} {f:α→Int}:(∀k,(hk:k<l.length)→¬rt l (fun x=>f x==f l[k])<(k:Int))↔(l.map f).Nodup:=by
 refine⟨fun h=>?_,fun h k hk=>by rw[tb h hk];omega⟩
 rw[List.Nodup,List.pairwise_iff_getElem]
 intro i j hi hj hij
 simp only[List.length_map]at hi hj
 simp only[List.getElem_map]
 intro e
 exact h j hj ((idxI_lt hj).2 ⟨i,hij,e⟩)
def du (l:TL) (id:Int):Int:=rt l.fNo fun n=>n.fID==id
def gP (l:TL) (id:Int):Int:=rt l.fC fun n=>n.fID==id
theorem nr {l:TL} (hl:l.fNo.length<1000000000) (id:Int):bV l id=some (du l id):=by
 unfold bV
 rw[sq (f:=fun x3=>dR x3 id) (q:=fun x=>x.fID==id) hl (fun x _=>O)]
 rfl
theorem mN {l:TL} (hl:l.fC.length<1000000000) (id:Int):c9 l id=some (gP l id):=by
 unfold c9
 rw[nJ (f:=fun x3=>dT x3 id) (q:=fun x=>x.fID==id) hl (fun x _=>O)]
 rfl
theorem mM (n lo hi:Int):co n lo hi=some (decide (lo≤n∧n≤hi)):=by unfold co;rw[Bool.decide_and]
theorem jN {l:TL} {id:Int}:0≤du l id↔id∈l.fNo.map (·.fID):=by
 unfold du
 rw[mi,List.mem_map]
 simp
theorem lp {l:TL} {id:Int}:0≤gP l id↔id∈l.fC.map (·.fID):=by
 unfold gP
 rw[mi,List.mem_map]
 simp
def qu (n:TN):Prop:=(1≤n.fID∧n.fID≤1099511627776)∧(0≤n.fLevel∧n.fLevel≤9)∧(0≤n.fCost∧n.fCost≤1073741824)
instance (n:TN):Decidable (qu n):=by unfold qu;infer_instance
def lvI (l:TL) (id:Int):Int:=(rdL l.fNo (du l id)).fLevel
def nl (l:TL) (o:List TH) (k:Nat):Prop:=(0≤du l (o.getD k default).fFrom∧0≤du l (o.getD k default).fTo∧lvI l (o.getD k default).fFrom<lvI l (o.getD k default).fTo)∧o.getD k default∉o.take k
instance (l:TL) (o:List TH) (k:Nat):Decidable (nl l o k):=by unfold nl;infer_instance
def oF (l:TL) (o:List TH):Prop:=(1≤o.length∧o.length≤4)∧∀k,k<o.length→nl l o k
instance (l:TL) (o:List TH):Decidable (oF l o):=by unfold oF;infer_instance
theorem IndexHop_eq {s:List TH} {v:TH} (hl:s.length<1000000000):bY s v=some (rt s fun x=>decide (v=x)):=by
 unfold bY
 have:=bE (body:=bi s v) (fun k=>((0:Int),(k:Int))) s.length (fun k=>if decide (v=s.getD k default)=true then some (Sum.inl ((k:Int),(k:Int)))else none) (t0:=.inr (0,(s.length:Int))) (fun k hk=>by
  have c1:decide ((k:Int)<((s.length:Nat):Int))=true:=decide_eq_true (by omega)
  have c2:(0:Int)≤(k:Int)∧(k:Int)<((s.length:Nat):Int):=by omega
  have c3:((v.fFrom==(s[k]).fFrom)&&(v.fTo==(s[k]).fTo))=decide (v=s[k]):=by
   rw[Bool.eq_iff_iff]
   simp only[Bool.and_eq_true,beq_iff_eq,decide_eq_true_eq]
   cases v
   cases hs:s[k]
   simp
  unfold bi;dsimp only
  simp only[c1,if_true,gPo c2,aX hk,c3,bj hk,a4 (show k<9223372036854775807 by omega)]
  cases decide (v=s[k]) <;> rfl) (by
  unfold bi;dsimp only
  rw[dt (by omega)])
 have h0:aL (bi s v) (0,0)=_:=this
 rw[h0,oB]
 exact mU s fun x=>decide (v=x)
theorem qW {s:List TH} {v:TH} (hl:s.length<1000000000):bD s v=some (decide (v∈s)):=by
 unfold bD
 rw[IndexHop_eq hl,oB]
 refine congrArg some ?_
 rw[Bool.eq_iff_iff]
 simp only[decide_eq_true_eq]
 rw[mi]
 simp
theorem options_eq {l:TL} (hl:l.fNo.length<1000000000) (o:List TH):eO l o=some (decide (oF l o)):=by
 unfold eO
 rw[mM,oB]
 by_cases h1:(1:Int)≤((o.length:Nat):Int)∧((o.length:Nat):Int)≤4
 ·rw[if_neg (by rw[decide_eq_true h1];simp)]
  have hrun:=bE (body:=cw l o) (fun k=>(false,(k:Int))) o.length (fun k=>if nl l o k then none else some (Sum.inl (false,(k:Int)))) (t0:=.inr (false,(o.length:Int))) (fun k hk=>by
   have c1:decide ((k:Int)<((o.length:Nat):Int))=true:=decide_eq_true (by omega)
   have c2:(0:Int)≤(k:Int)∧(k:Int)<((o.length:Nat):Int):=by omega
   have c3:(0:Int)≤(k:Int)∧(k:Int)≤((o.length:Nat):Int):=by omega
   unfold cw;dsimp only
   simp only[c1,if_true,gPo c2,gPo c3,aX hk,nr hl,oB,THop_eta,Int.toNat_natCast,a4 (show k<9223372036854775807 by omega)]
   rw[qW (by rw[List.length_take];omega)]
   have hO:nl l o k↔(0≤du l o[k].fFrom∧0≤du l o[k].fTo∧lvI l o[k].fFrom<lvI l o[k].fTo)∧o[k]∉o.take k:=by
    unfold nl
    rw[bj hk]
   have ba:=fk l.fNo (fun n=>n.fID==o[k].fFrom)
   have bb:=fk l.fNo (fun n=>n.fID==o[k].fTo)
   by_cases ha:du l o[k].fFrom<0
   ·have:¬nl l o k:=fun h=>by have:=(hO.1 h).1.1;omega
    rw[if_neg this]
    simp[ha]
   ·by_cases hb:du l o[k].fTo<0
    ·have:¬nl l o k:=fun h=>by have:=(hO.1 h).1.2.1;omega
     rw[if_neg this]
     simp[hb]
    ·have ha':0≤du l o[k].fFrom:=by omega
     have hb':0≤du l o[k].fTo:=by omega
     have e1:(decide (du l o[k].fFrom<0)||decide (du l o[k].fTo<0))=false:=by simp[ha,hb]
     rw[e1]
     rw[gPo ⟨ha',ba⟩,gPo ⟨hb',bb⟩]
     simp only[Bool.false_eq_true,if_false,oB]
     by_cases hlv:lvI l o[k].fFrom<lvI l o[k].fTo
     ·have:¬((rdL l.fNo (du l o[k].fTo)).fLevel≤(rdL l.fNo (du l o[k].fFrom)).fLevel):=by unfold lvI at hlv;omega
      simp only[decide_eq_false this,Bool.false_eq_true,if_false,oB]
      by_cases hm:o[k]∈o.take k
      ·rw[if_neg (fun h=>(hO.1 h).2 hm)]
       simp[hm]
      ·rw[if_pos (hO.2 ⟨⟨ha',hb',hlv⟩,hm⟩)]
       simp[hm]
     ·have:(rdL l.fNo (du l o[k].fTo)).fLevel≤(rdL l.fNo (du l o[k].fFrom)).fLevel:=by unfold lvI at hlv;omega
      simp only[decide_eq_true this,if_true,oB]
      rw[if_neg (fun h=>hlv (hO.1 h).1.2.2)]) (by
   unfold cw;dsimp only
   rw[dt (by omega)])
  have h0:aL (cw l o) (false,0)=_:=hrun
  rw[h0,oB]
  have h1':1≤o.length∧o.length≤4:=by omega
  rcases bM (R:=fun k=>if nl l o k then none else some (Sum.inl (false,(k:Int)):(Bool × Int) ⊕ (Bool × Int))) (n:=o.length) (.inr (false,(o.length:Int)))with⟨hn,h2⟩|⟨k,t,hk,hR,hj,h2⟩
  ·rw[h2]
   have:oF l o:=⟨h1',fun k hk=>by
    have:=hn k hk
    split at this
    ·assumption
    ·cases this⟩
   simp[this]
  ·rw[h2]
   have hno:¬nl l o k:=fun h=>by rw[if_pos h]at hR;cases hR
   rw[if_neg hno]at hR
   cases hR
   have:¬oF l o:=fun h=>hno (h.2 k hk)
   simp[this]
 ·rw[if_pos (by rw[decide_eq_false h1];rfl)]
  have:¬oF l o:=fun h=>h1 (by have:=h.1;omega)
  rw[decide_eq_false this]
def errN (l:TL) (k:Nat):Option Int:=if qu (l.fNo.getD k default)then(if du l (l.fNo.getD k default).fID<(k:Int)then some 6 else none)else some 1
def jb (l:TL) (c:TC):Prop:=(1≤c.fID∧c.fID≤1099511627776)∧oF l c.fO
instance (l:TL) (c:TC):Decidable (jb l c):=by unfold jb;infer_instance
def sZ (l:TL) (k:Nat):Option Int:=if jb l (l.fC.getD k default)then(if gP l (l.fC.getD k default).fID<(k:Int)then some 6 else none)else some 1
def nb (l:TL):Nat→Int
 | 0=>1
 | k+1=>min (nb l k*((l.fC.getD k default).fO.length:Int)) 4097
def dW (l:TL):Int :=
 if 60<l.fNo.length∨80<l.fC.length then 2 else match (List.range l.fNo.length).findSome? (errN l)with
  | some e=>e
  | none=>match (List.range l.fC.length).findSome? (sZ l)with
   | some e=>e
   | none=>if 4096<nb l l.fC.length then 2 else 0
theorem cntI_rg (l:TL):∀k,0≤nb l k∧nb l k≤4097
 | 0=>by unfold nb;omega
 | k+1=>by
  have:=cntI_rg l k
  unfold nb
  have h2:0≤nb l k*((l.fC.getD k default).fO.length:Int):=Int.mul_nonneg this.1 (by omega)
  omega
theorem cntI_w {l:TL} {k:Nat} (h:(l.fC.getD k default).fO.length≤4):w64 (nb l k*((l.fC.getD k default).fO.length:Int))=nb l k*((l.fC.getD k default).fO.length:Int):=by
 have h1:=cntI_rg l k
 have h2:0≤nb l k*((l.fC.getD k default).fO.length:Int):=Int.mul_nonneg h1.1 (by omega)
 have h3:nb l k*((l.fC.getD k default).fO.length:Int)≤4097*4:=Int.mul_le_mul h1.2 (by omega) (by omega) (by omega)
 exact iZ (by omega) (by omega)
theorem kn {T U:Type} (R:Nat→Option T) (g:Nat→T→U) (t0:U) (n:Nat):((List.range n).findSome? fun k=>(R k).map (g k)).getD t0=match (List.range n).findSome? fun k=>(R k).map fun t=>(k,t)with|some (k,t)=>g k t|none=>t0:=by
 rcases bM (R:=fun k=>(R k).map (g k)) (n:=n) t0 with⟨hn,h2⟩|⟨k,t,hk,hR,hj,h2⟩
 ·rw[h2]
  have:(List.range n).findSome? (fun k=>(R k).map fun t=>(k,t))=none:=List.findSome?_eq_none_iff.2 (fun k hk=>by
   have:=hn k (List.mem_range.1 hk)
   cases hr:R k with
   | none=>rfl
   | some t=>rw[hr]at this;cases this)
  rw[this]
 ·rw[h2]
  cases hr:R k with
  | none=>rw[hr]at hR;cases hR
  | some t1 =>
   rw[hr]at hR
   cases hR
   have:(List.range n).findSome? (fun k=>(R k).map fun t=>(k,t))=some (k,t1):=by
    have h3:=qr (R:=fun k=>(R k).map fun t=>(k,t)) (n:=n) (t0:=(k,t1)) k hk (t:=(k,t1)) (by rw[hr];rfl) (fun j hj'=>by
     have:=hj j hj'
     cases hr':R j with
     | none=>rfl
     | some t=>rw[hr']at this;cases this)
    cases hf:(List.range n).findSome? (fun k=>(R k).map fun t=>(k,t))with
    | none =>
     have:=List.findSome?_eq_none_iff.1 hf k (List.mem_range.2 hk)
     rw[hr]at this
     cases this
    | some u=>rw[hf]at h3;exact congrArg some h3
   rw[this]
theorem lq {T:Type} (R:Nat→Option T) (n:Nat):(List.range n).findSome? R=((List.range n).findSome? fun k=>(R k).map fun t=>(k,t)).map Prod.snd:=by
 induction n with
 | zero=>rfl
 | succ n ih =>
  rw[List.range_succ,List.findSome?_append,List.findSome?_append,ih]
  cases (List.range n).findSome? fun k=>(R k).map fun t=>(k,t)with
  | some x=>rfl
  | none=>cases h:R n <;> simp[h]
theorem mj (l:TL):ce l=some (dW l):=by
 unfold ce dW
 by_cases h0:60<l.fNo.length∨80<l.fC.length
 ·have h0':(decide (60<((l.fNo.length:Nat):Int))||decide (80<((l.fC.length:Nat):Int)))=true:=by
   rw[Bool.or_eq_true,decide_eq_true_eq,decide_eq_true_eq]
   omega
  rw[if_pos h0,if_pos h0']
 ·rw[if_neg h0,if_neg (by simp;omega)]
  have hn:l.fNo.length<1000000000:=by omega
  have hc:l.fC.length<1000000000:=by omega
  have hrun:=bE (body:=dh l) (fun k=>((0:Int),(k:Int))) l.fNo.length (fun k=>(errN l k).map fun e=>Sum.inl (e,(k:Int))) (t0:=.inr (0,(l.fNo.length:Int))) (fun k hk=>by
   have c1:decide ((k:Int)<((l.fNo.length:Nat):Int))=true:=decide_eq_true (by omega)
   have c2:(0:Int)≤(k:Int)∧(k:Int)<((l.fNo.length:Nat):Int):=by omega
   unfold dh;dsimp only
   simp only[c1,if_true,gPo c2,aX hk,mM,nr hn,oB,a4 (show k<9223372036854775807 by omega)]
   unfold errN qu
   rw[bj hk]
   by_cases h1:1≤l.fNo[k].fID∧l.fNo[k].fID≤1099511627776
   ·by_cases h2:0≤l.fNo[k].fLevel∧l.fNo[k].fLevel≤9
    ·by_cases h3:0≤l.fNo[k].fCost∧l.fNo[k].fCost≤1073741824
     ·by_cases h4:du l l.fNo[k].fID<(k:Int)
      ·simp[h1,h2,h3,h4]
      ·simp[h1,h2,h3,h4]
     ·simp[h1,h2,h3]
    ·simp[h1,h2]
   ·simp[h1]) (by
   unfold dh;dsimp only
   rw[dt (by omega)])
  have e0:aL (dh l) (0,0)=_:=hrun
  rw[e0,oB,kn (errN l) (fun k e=>Sum.inl (e,(k:Int))),lq (errN l)]
  cases hN:(List.range l.fNo.length).findSome? fun k=>(errN l k).map fun t=>(k,t)with
  | some p=>rfl
  | none =>
   dsimp only[Option.map_none]
   have hrun2:=bE (body:=di l) (fun k=>((0:Int),nb l k,(k:Int))) l.fC.length (fun k=>(sZ l k).map fun e=>Sum.inl (e,nb l k,(k:Int))) (t0:=.inr (0,nb l l.fC.length,(l.fC.length:Int))) (fun k hk=>by
    have c1:decide ((k:Int)<((l.fC.length:Nat):Int))=true:=decide_eq_true (by omega)
    have c2:(0:Int)≤(k:Int)∧(k:Int)<((l.fC.length:Nat):Int):=by omega
    unfold di;dsimp only
    simp only[c1,if_true,gPo c2,aX hk,mM,mN hc,options_eq hn,oB,a4 (show k<9223372036854775807 by omega)]
    unfold sZ jb
    rw[bj hk]
    by_cases h1:1≤l.fC[k].fID∧l.fC[k].fID≤1099511627776
    ·by_cases h2:oF l l.fC[k].fO
     ·by_cases h4:gP l l.fC[k].fID<(k:Int)
      ·simp[h1,h2,h4]
      ·have hw:=cntI_w (l:=l) (k:=k) (by rw[bj hk];exact h2.1.2)
       rw[bj hk]at hw
       simp only[h1,h2,h4,and_self,decide_true,Bool.not_true,Bool.false_eq_true,if_false,oB,decide_false,hw,if_true,Option.map_none]
       show some (Sum.inl (0,min (nb l k*(l.fC[k].fO.length:Int)) 4097,((k+1:Nat):Int)))=some (Sum.inl (0,nb l (k+1),((k+1:Nat):Int)))
       have:nb l (k+1)=min (nb l k*((l.fC.getD k default).fO.length:Int)) 4097:=rfl
       rw[this,bj hk]
     ·simp[h1,h2]
    ·simp[h1]) (by
    unfold di;dsimp only
    rw[dt (by omega)])
   have e1:aL (di l) (0,1,0)=_:=hrun2
   rw[e1,oB,kn (sZ l) (fun k e=>Sum.inl (e,nb l k,(k:Int))),lq (sZ l)]
   cases hC:(List.range l.fC.length).findSome? fun k=>(sZ l k).map fun t=>(k,t)with
   | some p=>rfl
   | none =>
    dsimp only[Option.map_none]
    by_cases h5:4096<nb l l.fC.length
    ·rw[if_pos (decide_eq_true h5),if_pos h5]
    ·rw[if_neg (by rw[decide_eq_false h5];simp),if_neg h5]
structure OkL (l:TL):Prop where
 nn:l.fNo.length≤60
 nc:l.fC.length≤80
 nodes:∀n∈l.fNo,qu n
 nd:(l.fNo.map (·.fID)).Nodup
 claims:∀c∈l.fC,jb l c
 cd:(l.fC.map (·.fID)).Nodup
 cnt:nb l l.fC.length≤4096
theorem lm {l:TL}:dW l=0↔OkL l:=by
 unfold dW
 by_cases h0:60<l.fNo.length∨80<l.fC.length
 ·rw[if_pos h0]
  exact⟨fun h=>(by cases h),fun h=>by have:=h.nn;have:=h.nc;omega⟩
 ·rw[if_neg h0]
  cases hN:(List.range l.fNo.length).findSome? (errN l)with
  | some e =>
   obtain⟨k,hk,he⟩:=List.exists_of_findSome?_eq_some hN
   have hk':=List.mem_range.1 hk
   unfold errN at he
   rw[bj hk']at he
   refine⟨fun h=>?_,fun h=>?_⟩
   ·dsimp only at h
    subst h
    split at he
    ·split at he <;> cases he
    ·cases he
   ·exfalso
    rw[if_pos (h.nodes _ (List.getElem_mem hk')),if_neg (show ¬du l l.fNo[k].fID<(k:Int)from iw.2 h.nd k hk')]at he
    cases he
  | none =>
   have hN':=List.findSome?_eq_none_iff.1 hN
   have hno:∀k,(hk:k<l.fNo.length)→qu l.fNo[k]∧¬du l l.fNo[k].fID<(k:Int):=fun k hk=>by
    have:=hN' k (List.mem_range.2 hk)
    unfold errN at this
    rw[bj hk]at this
    split at this
    ·rename_i h1
     split at this
     ·cases this
     ·rename_i h2;exact⟨h1,h2⟩
    ·cases this
   dsimp only
   cases hC:(List.range l.fC.length).findSome? (sZ l)with
   | some e =>
    obtain⟨k,hk,he⟩:=List.exists_of_findSome?_eq_some hC
    have hk':=List.mem_range.1 hk
    unfold sZ at he
    rw[bj hk']at he
    refine⟨fun h=>?_,fun h=>?_⟩
    ·dsimp only at h
     subst h
     split at he
     ·split at he <;> cases he
     ·cases he
    ·exfalso
     rw[if_pos (h.claims _ (List.getElem_mem hk')),if_neg (show ¬gP l l.fC[k].fID<(k:Int)from iw.2 h.cd k hk')]at he
     cases he
   | none =>
    have hC':=List.findSome?_eq_none_iff.1 hC
    have hco:∀k,(hk:k<l.fC.length)→jb l l.fC[k]∧¬gP l l.fC[k].fID<(k:Int):=fun k hk=>by
     have:=hC' k (List.mem_range.2 hk)
     unfold sZ at this
     rw[bj hk]at this
     split at this
     ·rename_i h1
      split at this
      ·cases this
      ·rename_i h2;exact⟨h1,h2⟩
     ·cases this
    dsimp only
    refine⟨fun h=>?_,fun h=>?_⟩
    ·split at h
     ·cases h
     ·rename_i h5
      refine⟨by omega,by omega,fun n hn=>?_,iw.1 (fun k hk=>(hno k hk).2),fun n hn=>?_,iw.1 (fun k hk=>(hco k hk).2),by omega⟩
      ·obtain⟨k,hk,rfl⟩:=List.mem_iff_getElem.1 hn
       exact(hno k hk).1
      ·obtain⟨k,hk,rfl⟩:=List.mem_iff_getElem.1 hn
       exact(hco k hk).1
    ·rw[if_neg (by have:=h.cnt;omega)]
theorem insF_l2 {n:Nat} {data0:List Int} (h0:data0.length=n) (hn:n<1000000) {cmp:Int→Int→Option Int} (c:Int→Int→Int) (f:Int→Int) (S:Int→Prop) (hc:∀x y,S x→S y→cmp x y=some (c x y)∧(c x y<0↔f x<f y)) (x:Int) (hx:S x) :
  ∀(k:Nat) (A1 T:List Int),A1.length=k→A1.length+1+T.length=n→(∀y∈A1,S y)→∃B1 B2:List Int,A1=B1++B2∧aL (aJ data0 0 cmp) ((A1.length:Int),A1++x::T)=some ((B1.length:Int),B1++x::(B2++T))∧(∀y∈B2,f x<f y)∧(∀y,B1.getLast? = some y→¬f x<f y):=by
 intro k
 induction k with
 | zero =>
  intro A1 T hk hl hS
  have:A1=[]:=List.eq_nil_of_length_eq_zero hk
  subst this
  refine⟨[],[],O,?_,by simp,by simp⟩
  refine ci ?_
  unfold aJ;dsimp only
  rfl
 | succ k ih =>
  intro A1 T hk hl hS
  obtain⟨A,y,rfl⟩:∃A y,A1=A++[y]:=⟨A1.dropLast,A1.getLast (by intro h;rw[h]at hk;cases hk),(List.dropLast_concat_getLast _).symm⟩
  have hA:A.length=k:=by simpa using hk
  simp only[List.length_append,List.length_cons,List.length_nil]at hl
  have hy:S y:=hS y (by simp)
  have e1:A++[y]++x::T=A++y::x::T:=by simp
  have hi:(((A++[y]).length:Nat):Int)=(A.length:Int)+1:=by simp
  have hj1:w64 ((((A++[y]).length:Nat):Int)-1)=(A.length:Int):=by rw[iZ (by simp only[List.length_append,List.length_cons,List.length_nil];omega) (by simp only[List.length_append,List.length_cons,List.length_nil];omega)];simp
  have r1:rdL (A++[y]++x::T) (((A++[y]).length:Nat):Int)=x:=pU _ _ _ _ O
  have r2:rdL (A++[y]++x::T) (A.length:Int)=y:=by rw[e1];exact pU _ _ _ _ O
  obtain⟨hc1,hc2⟩:=hc x y hx hy
  have g1:(0:Int)≤(((A++[y]).length:Nat):Int)∧(((A++[y]).length:Nat):Int)<((data0.length:Nat):Int):=by rw[h0];simp only[List.length_append,List.length_cons,List.length_nil];omega
  have g2:(0:Int)≤(A.length:Int)∧(A.length:Int)<((data0.length:Nat):Int):=by rw[h0];omega
  have hd:decide ((0:Int)<(((A++[y]).length:Nat):Int))=true:=decide_eq_true (by rw[hi];omega)
  have step:aJ data0 0 cmp ((((A++[y]).length:Nat):Int),A++[y]++x::T)=if f x<f y then some (.inl ((A.length:Int),A++x::([y]++T)))else some (.inr ((((A++[y]).length:Nat):Int),A++[y]++x::T)):=by
   unfold aJ;dsimp only
   simp only[hj1,r1,r2,hd,if_true,gPo g1,gPo g2,hc1,oB,decide_eq_true_eq]
   by_cases hlt:f x<f y
   ·rw[if_pos (hc2.2 hlt),if_pos hlt]
    refine congrArg some (congrArg Sum.inl (Prod.ext O ?_))
    show((A++[y]++x::T).set (Int.toNat (((A++[y]).length:Nat):Int)) y).set (Int.toNat (A.length:Int)) x=_
    rw[Int.toNat_natCast,Int.toNat_natCast,nW (A++[y]) x y T _ O]
    have e3:A++[y]++y::T=A++y::(y::T):=by simp
    rw[e3,nW A y x (y::T) _ O]
    simp
   ·rw[if_neg (fun h=>hlt (hc2.1 h)),if_neg hlt]
  by_cases hlt:f x<f y
  ·rw[if_pos hlt]at step
   obtain⟨B1,B2,hB,hr,h2,h3⟩:=ih A ([y]++T) hA (by simp;omega) (fun z hz=>hS z (by simp[hz]))
   refine⟨B1,B2++[y],by rw[hB,List.append_assoc],?_,?_,h3⟩
   ·rw[g7 step,hr]
    simp
   ·intro z hz
    rcases List.mem_append.1 hz with hz|hz
    ·exact h2 z hz
    ·rw[List.mem_singleton.1 hz];exact hlt
  ·rw[if_neg hlt]at step
   refine⟨A++[y],[],by simp,?_,by simp,?_⟩
   ·rw[ci step];simp
   ·intro z hz
    simp at hz
    rw[←hz]
    exact hlt
theorem insF_all {l:List Int} (hl:l.length<1000000) {cmp:Int→Int→Option Int} (c:Int→Int→Int) (f:Int→Int) (hc:∀x y,x∈l→y∈l→cmp x y=some (c x y)∧(c x y<0↔f x<f y)) :
  ∃s,aT l 0 (l.length:Int) cmp=some s∧s.Perm l∧s.Pairwise (fun a b=>f a≤f b):=by
 unfold aT
 have e1:w64 (0+1)=1:=rfl
 rw[e1]
 have main:∀(R A:List Int),(A++R).Perm l→A.Pairwise (fun a b=>f a≤f b)→∃s,aL (az l 0 (l.length:Int) cmp) ((A.length:Int),A++R)=some ((l.length:Int),s)∧s.Perm l∧s.Pairwise (fun a b=>f a≤f b):=by
  intro R
  induction R with
  | nil =>
   intro A hp hs
   have hlen:A.length=l.length:=by have:=hp.length_eq;simpa using this
   refine⟨A,?_,by simpa using hp,hs⟩
   rw[List.append_nil,hlen]
   refine ci ?_
   unfold az;dsimp only
   rw[show decide ((l.length:Int)<(l.length:Int))=false from decide_eq_false (by omega)]
   rfl
  | cons x T ih =>
   intro A hp hs
   have hlen:A.length+(T.length+1)=l.length:=by have:=hp.length_eq;simpa using this
   obtain⟨B1,B2,hB,hr,h2,h3⟩:=insF_l2 (data0:=l) O hl c f (fun z=>z∈l) hc x (hp.mem_iff.1 (by simp)) A.length A T O (by omega) (fun y hy=>hp.mem_iff.1 (by simp[hy]))
   have hstep:az l 0 (l.length:Int) cmp ((A.length:Int),A++x::T)=some (.inl (((B1++x::B2).length:Int),(B1++x::B2)++T)):=by
    unfold az;dsimp only
    rw[show decide ((A.length:Int)<(l.length:Int))=true from decide_eq_true (by omega)]
    rw[if_pos O,hr,oB]
    have hw:w64 ((A.length:Int)+1)=(A.length:Int)+1:=iZ (by omega) (by omega)
    simp only[hw]
    refine congrArg some (congrArg Sum.inl (Prod.ext ?_ ?_))
    ·simp[hB];omega
    ·simp
   have hs':(B1++x::B2).Pairwise (fun a b=>f a≤f b):=by
    rw[hB,List.pairwise_append]at hs
    obtain⟨s1,s2,s3⟩:=hs
    have hle:∀y∈B1,f y≤f x:=by
     intro y hy
     rcases List.eq_nil_or_concat B1 with rfl|⟨B,z,rfl⟩
     ·cases hy
     ·have hz:=h3 z (by simp)
      rw[List.concat_eq_append]at hy s1
      rcases List.mem_append.1 hy with hy|hy
      ·rw[List.pairwise_append]at s1
       have:=s1.2.2 y hy z (by simp);omega
      ·rw[List.mem_singleton.1 hy];omega
    rw[List.pairwise_append]
    refine⟨s1,List.pairwise_cons.2 ⟨fun y hy=>by have:=h2 y hy;omega,s2⟩,fun a ha b hb=>?_⟩
    rcases List.mem_cons.1 hb with rfl|hb
    ·exact hle a ha
    ·exact s3 a ha b hb
   have hp':((B1++x::B2)++T).Perm l:=by
    refine List.Perm.trans ?_ hp
    rw[hB]
    simp only[List.append_assoc,List.cons_append]
    exact List.Perm.append_left B1 (List.perm_middle).symm
   obtain⟨s,h4,h5,h6⟩:=ih (B1++x::B2) hp' hs'
   exact⟨s,by rw[g7 hstep];exact h4,h5,h6⟩
 rcases l with _|⟨x,T⟩
 ·have:aL (az [] 0 (([]:List Int).length:Int) cmp) (1,[])=some (1,[]):=by
   refine ci ?_
   unfold az
   rfl
  exact⟨[],by rw[this];rfl,List.Perm.refl _,List.Pairwise.nil⟩
 ·obtain⟨s,h1,h2,h3⟩:=main T [x] (by simp) (by simp)
  have h1':aL (az (x::T) 0 ((x::T).length:Int) cmp) (1,x::T)=some (((x::T).length:Int),s):=h1
  exact⟨s,by rw[h1'];rfl,h2,h3⟩
theorem compare_eq (a b:Int):dO a b=some (if a<b then -1 else if b<a then 1 else 0):=by
 unfold dO c5
 simp only[bne_self_eq_false,oB,Bool.false_eq_true,if_false]
 by_cases h1:a<b
 ·simp[h1]
 ·by_cases h2:b<a <;> simp[h1,h2]
def sL (n:Nat):List Int:=(List.range n).map fun k:Nat=>(k:Int)
theorem levels_eq {l:TL} (hl:l.fNo.length<20):∃o,fg l=some o∧o.Perm (sL l.fNo.length)∧o.Pairwise (fun a b=>(rdL l.fNo a).fLevel≤(rdL l.fNo b).fLevel):=by
 unfold fg
 rw[gPo (by omega)]
 have hrun:=f6 (body:=cV l) (fun k=>((k:Int),(sL k)++List.replicate (l.fNo.length-k) 0)) l.fNo.length (t:=((l.fNo.length:Int),sL l.fNo.length)) (fun k hk=>by
  unfold cV;dsimp only
  rw[Int.toNat_natCast,d6 (by omega),gPo (by omega),a4 (by omega),Int.toNat_natCast]
  refine congrArg some (congrArg Sum.inl (Prod.ext O ?_))
  show(sL k++List.replicate (l.fNo.length-k) 0).set k (k:Int)=_
  rw[show l.fNo.length-k=(l.fNo.length-(k+1))+1 by omega,List.replicate_succ,nW _ _ _ _ _ (by simp[sL])]
  unfold sL
  rw[List.range_succ,List.map_append,List.append_assoc]
  rfl) (by
  unfold cV;dsimp only
  rw[Int.toNat_natCast,dt (by omega),Nat.sub_self]
  simp)
 have e0:aL (cV l) (0,List.replicate (Int.toNat ((l.fNo.length:Nat):Int)) 0)=some ((l.fNo.length:Int),sL l.fNo.length):=by
  rw[Int.toNat_natCast]
  simpa [sL]using hrun
 rw[e0,oB]
 have hmem:∀x∈sL l.fNo.length,0≤x∧x<((l.fNo.length:Nat):Int):=fun x hx=>by
  obtain⟨k,hk,rfl⟩:=List.mem_map.1 hx
  have:=List.mem_range.1 hk
  omega
 have hlen:(sL l.fNo.length).length=l.fNo.length:=by simp[sL]
 obtain⟨s,h1,h2,h3⟩:=insF_all (l:=sL l.fNo.length) (by omega) (cmp:=fun x11 x12=>dn x11 x12 l) (fun x y=>if(rdL l.fNo x).fLevel<(rdL l.fNo y).fLevel then -1 else if(rdL l.fNo y).fLevel<(rdL l.fNo x).fLevel then 1 else 0) (fun x=>(rdL l.fNo x).fLevel) (fun x y hx hy=>by
  refine⟨?_,?_⟩
  ·unfold dn
   rw[gPo (hmem x hx),gPo (hmem y hy),compare_eq]
   rfl
  ·by_cases a1:(rdL l.fNo x).fLevel<(rdL l.fNo y).fLevel
   ·simp[a1]
   ·by_cases a2:(rdL l.fNo y).fLevel<(rdL l.fNo x).fLevel
    ·simp[a1,a2]
    ·simp[a1,a2])
 refine⟨s,?_,h2,h3⟩
 unfold bh bO
 have s1:bw (((sL l.fNo.length).length:Nat):Int) (0,20)=some (.inr (0,20)):=by
  unfold bw;dsimp only
  rw[gPo (decide_eq_false (by omega))]
 have s2:bq (((sL l.fNo.length).length:Nat):Int) (20,0,20)=some (.inr (20,0,20)):=by
  unfold bq;dsimp only
  rw[gPo (decide_eq_false (by omega))]
 rw[ci s1,oB]
 dsimp only
 rw[h1,oB,ci s2]
 rfl
inductive Comes (E:List TH) (F:List Int):Int→Prop
 | base {x:Int}:x∈F→Comes E F x
 | step {h:TH}:Comes E F h.fFrom→h∈E→Comes E F h.fTo
theorem Comes.mono {E E':List TH} {F F':List Int} (hE:∀h∈E,h∈E') (hF:∀x∈F,x∈F') {q:Int} (h:Comes E F q):Comes E' F' q:=by
 induction h with
 | base hx=>exact .base (hF _ hx)
 | step _ hh ih=>exact .step ih (hE _ hh)
def IDs (l:TL):List Int:=l.fNo.map (·.fID)
def oO (l:TL) (i:Nat):List TH:=(l.fC.getD i default).fO
def jS (o:List TH) (s:Nat→Bool) (n:Nat):List TH:=((List.range n).filter s).map fun k=>o.getD k default
def lu (l:TL) (s:Nat→Nat→Bool) (n:Nat):List TH:=(List.range n).flatMap fun i=>jS (oO l i) (s i) (oO l i).length
def Ed (l:TL) (s:Nat→Nat→Bool):List TH:=lu l s l.fC.length
theorem qN (o:List TH) (s:Nat→Bool) (n:Nat):jS o s (n+1)=jS o s n++if s n=true then[o.getD n default]else[]:=by
 unfold jS
 rw[List.range_succ,List.filter_append,List.map_append]
 cases h:s n <;> simp[h]
theorem oZ (l:TL) (s:Nat→Nat→Bool) (n:Nat):lu l s (n+1)=lu l s n++jS (oO l n) (s n) (oO l n).length:=by
 unfold lu
 rw[List.range_succ,List.flatMap_append]
 simp
theorem pt (o:List TH) (s:Nat→Bool):∀n,(jS o s n).length≤n
 | 0=>by simp[jS]
 | n+1=>by
  have:=pt o s n
  rw[qN,List.length_append]
  split <;> simp <;> omega
theorem p7 {l:TL} {s:Nat→Nat→Bool} {n:Nat} {h:TH}:h∈lu l s n↔∃i k,i<n∧k<(oO l i).length∧s i k=true∧(oO l i).getD k default=h:=by
 unfold lu jS
 simp only[List.mem_flatMap,List.mem_range,List.mem_map,List.mem_filter]
 exact⟨fun⟨i,hi,k,⟨hk,hs⟩,e⟩=>⟨i,k,hi,hk,hs,e⟩,fun⟨i,k,hi,hk,hs,e⟩=>⟨i,hi,k,⟨hk,hs⟩,e⟩⟩
structure Small (l:TL):Prop where
 ok:OkL l
 n12:l.fNo.length≤12
 c12:l.fC.length≤12
theorem kA {l:TL} (h:OkL l) {i:Nat} (hi:i<l.fC.length):oF l (oO l i):=by
 unfold oO
 rw[bj hi]
 exact(h.claims _ (List.getElem_mem hi)).2
theorem opt_ok {l:TL} (h:OkL l) {i k:Nat} (hi:i<l.fC.length) (hk:k<(oO l i).length):((oO l i).getD k default).fFrom∈IDs l∧((oO l i).getD k default).fTo∈IDs l∧lvI l ((oO l i).getD k default).fFrom<lvI l ((oO l i).getD k default).fTo:=by
 obtain⟨⟨a,b,c⟩,_⟩:=(kA h hi).2 k hk
 exact⟨jN.1 a,jN.1 b,c⟩
theorem edge_ok {l:TL} (h:OkL l) {s:Nat→Nat→Bool} {n:Nat} (hn:n≤l.fC.length) {x:TH} (hx:x∈lu l s n):x.fFrom∈IDs l∧x.fTo∈IDs l∧lvI l x.fFrom<lvI l x.fTo:=by
 obtain⟨i,k,hi,hk,_,rfl⟩:=p7.1 hx
 exact opt_ok h (by omega) hk
theorem qS {l:TL} (h:OkL l) {s:Nat→Nat→Bool}:∀{n:Nat},n≤l.fC.length→(lu l s n).length≤4*n
 | 0,_=>by simp[lu]
 | n+1,hn=>by
  have:=qS h (s:=s) (n:=n) (by omega)
  have h2:=(kA h (i:=n) (by omega)).1.2
  have h3:=pt (oO l n) (s n) (oO l n).length
  rw[oZ,List.length_append]
  omega
theorem id_rg {l:TL} (h:OkL l) {x:Int} (hx:x∈IDs l):1≤x∧x≤1099511627776:=by
 obtain⟨n,hn,rfl⟩:=List.mem_map.1 hx
 exact(h.nodes n hn).1
theorem rngB_i {x:Int} (h1 : -9223372036854775808≤x) (h2:x≤9223372036854775807):dx x=true:=by
 unfold dx
 rw[decide_eq_true h1,decide_eq_true h2];rfl
theorem qs {l:TL} (h:OkL l) {x:Int} (hx:x∈IDs l):dx x=true:=by
 have:=id_rg h hx
 exact rngB_i (by omega) (by omega)
def stepN (m:List (Int × List Int)) (h:TH):List (Int × List Int):=(h.fFrom,ax [] m h.fFrom++[h.fTo])::m
def ma (E:List TH):List (Int × List Int):=E.foldl stepN []
def tgt (E:List TH) (a:Int):List Int:=(E.filter fun h=>decide (h.fFrom=a)).map (·.fTo)
theorem pc (E:List TH) (h:TH):ma (E++[h])=stepN (ma E) h:=by simp[ma]
theorem nI {α:Type} {P:List α→Prop} (h0:P []) (h1:∀l x,P l→P (l++[x])) (l:List α):P l:=by
 have:∀n (l:List α),l.length=n→P l:=by
  intro n
  induction n with
  | zero=>intro l hl;rw[List.eq_nil_of_length_eq_zero hl];exact h0
  | succ n ih =>
   intro l hl
   rcases List.eq_nil_or_concat l with rfl|⟨l',x,rfl⟩
   ·exact h0
   ·rw[List.concat_eq_append];exact h1 _ _ (ih _ (by simpa using hl))
 exact this _ l O
theorem sO (E:List TH):∀a,ax [] (ma E) a=tgt E a:=by
 refine nI (P:=fun E=>∀a,ax [] (ma E) a=tgt E a) (fun a=>O) (fun E h ih a=>?_) E
 rw[pc]
 unfold stepN
 rw[iF,ih,ih]
 unfold tgt
 rw[List.filter_append,List.map_append]
 by_cases e:h.fFrom=a
 ·subst e;simp
 ·simp[e]
theorem nextM_len (E:List TH):(ma E).length=E.length:=by
 refine nI (P:=fun E=>(ma E).length=E.length) O (fun E h ih=>?_) E
 rw[pc]
 simp[stepN,ih]
theorem tgt_len (E:List TH) (a:Int):(tgt E a).length≤E.length:=by
 unfold tgt
 rw[List.length_map]
 exact List.length_filter_le _ _
theorem te {E:List TH} {a b:Int}:b∈tgt E a↔∃h∈E,h.fFrom=a∧h.fTo=b:=by
 unfold tgt
 simp only[List.mem_map,List.mem_filter,decide_eq_true_eq]
 exact⟨fun⟨h,⟨a,b⟩,c⟩=>⟨h,a,b,c⟩,fun⟨h,a,b,c⟩=>⟨h,⟨a,b⟩,c⟩⟩
theorem reach_l1_eq {l:TL} (h:Small l) {p2:Int→Int→Option Bool} {s:Nat→Nat→Bool} (hso:∀i k:Nat,i<l.fC.length→k<(oO l i).length→p2 (i:Int) (k:Int)=some (s i k)):aL (dk l p2) (0,[])=some ((l.fC.length:Int),ma (Ed l s)):=by
 have hc:=h.c12
 refine f6 (body:=dk l p2) (fun i=>((i:Int),ma (lu l s i))) l.fC.length (fun i hi=>?_) ?_
 ·unfold dk;dsimp only
  have ho:(rdL l.fC (i:Int)).fO=oO l i:=by rw[aX hi];unfold oO;rw[bj hi]
  rw[d6 (by omega),gPo (by omega)]
  have hlen:=(kA h.ok hi).1.2
  have hel:=qS h.ok (s:=s) (n:=i) (by omega)
  have hrun:=f6 (body:=dr l p2 ((i:Int),ma (lu l s i))) (fun k=>((k:Int),ma (lu l s i++jS (oO l i) (s i) k))) (oO l i).length (t:=(((oO l i).length:Int),ma (lu l s i++jS (oO l i) (s i) (oO l i).length))) (fun k hk=>by
   unfold dr;dsimp only
   rw[ho,d6 (by omega),gPo (by omega),hso i k hi hk,oB,qN]
   have hrd:rdL (oO l i) (k:Int)=(oO l i).getD k default:=by rw[aX hk,bj hk]
   cases hs:s i k with
   | false=>simp[a4 (show k<9223372036854775807 by omega)]
   | true =>
    have hr:=qs h.ok (opt_ok h.ok hi hk).1
    have hlk:=pt (oO l i) (s i) k
    have hL:(lu l s i++jS (oO l i) (s i) k).length≤100:=by rw[List.length_append];omega
    have ht:=tgt_len (lu l s i++jS (oO l i) (s i) k) ((oO l i).getD k default).fFrom
    simp only[if_true]
    rw[hrd,gPo hr,gPo (by rw[sO];omega),gPo ⟨hr,by rw[nextM_len];omega⟩,←List.append_assoc,pc,a4 (by omega)]
    rfl) (by
   unfold dr;dsimp only
   rw[ho,dt (by omega)])
  have e0:aL (dr l p2 ((i:Int),ma (lu l s i))) (0,ma (lu l s i))=some (((oO l i).length:Int),ma (lu l s i++jS (oO l i) (s i) (oO l i).length)):=by
   have:lu l s i++jS (oO l i) (s i) 0=lu l s i:=by simp[jS]
   simp only[this]at hrun
   exact hrun
  rw[e0,oB,oZ,a4 (by omega)]
 ·unfold dk;dsimp only
  rw[dt (by omega)]
  rfl
def cz (m:List (Int × Bool)) (xs:List Int):List (Int × Bool):=xs.foldl (fun m x=>(x,true)::m) m
theorem l0 (m:List (Int × Bool)) (xs:List Int) (x:Int):cz m (xs++[x])=(x,true)::cz m xs:=by simp[cz]
theorem lP (m:List (Int × Bool)) (xs:List Int):(cz m xs).length=m.length+xs.length:=by
 refine nI (P:=fun xs=>(cz m xs).length=m.length+xs.length) (by simp[cz]) (fun xs x ih=>?_) xs
 rw[l0]
 simp[ih]
 omega
theorem o4 (m:List (Int × Bool)) (xs:List Int) (q:Int):ax false (cz m xs) q=true↔q∈xs∨ax false m q=true:=by
 refine nI (P:=fun xs=>ax false (cz m xs) q=true↔q∈xs∨ax false m q=true) (by simp[cz]) (fun xs x ih=>?_) xs
 rw[l0,iF]
 by_cases e:x=q
 ·subst e;simp
 ·rw[if_neg e,ih]
  simp only[List.mem_append,List.mem_singleton]
  have:¬q=x:=fun h=>e h.symm
  simp[this]
theorem rv {m:List (Int × Bool)} {xs:List Int} {p:Int × Bool} (h:p∈cz m xs):(p.1∈xs∧p.2=true)∨p∈m:=by
 revert h
 refine nI (P:=fun xs=>p∈cz m xs→(p.1∈xs∧p.2=true)∨p∈m) (fun h=>.inr h) (fun xs x ih h=>?_) xs
 rw[l0]at h
 rcases List.mem_cons.1 h with rfl|h
 ·simp
 ·rcases ih h with h|h
  ·exact .inl ⟨by simp[h.1],h.2⟩
  ·exact .inr h
theorem addLoop {body:(Int × List (Int × Bool))→Option ((Int × List (Int × Bool)) ⊕ (Int × List (Int × Bool)))} {xs:List Int} {m:List (Int × Bool)} (h:∀k,(hk:k<xs.length)→body ((k:Int),cz m (xs.take k))=some (.inl (((k+1:Nat):Int),(xs[k],true)::cz m (xs.take k)))) (hs:body ((xs.length:Int),cz m xs)=some (.inr ((xs.length:Int),cz m xs))) :
  aL body (0,m)=some ((xs.length:Int),cz m xs):=by
 have:=f6 (body:=body) (fun k=>((k:Int),cz m (xs.take k))) xs.length (t:=((xs.length:Int),cz m xs)) (fun k hk=>by
  rw[h k hk,List.take_succ_eq_append_getElem hk,l0]) (by rw[List.take_length];exact hs)
 simpa [cz]using this
structure SetP (l:TL) (m:List (Int × Bool)) (Q:Int→Prop):Prop where
 get:∀q,ax false m q=true↔Q q
 key:∀p∈m,p.1∈IDs l∧p.2=true
def nid (l:TL) (i:Int):Int:=(rdL l.fNo i).fID
def ng (l:TL) (E:List TH) (m:List (Int × Bool)) (i:Int):List (Int × Bool):=if ax false m (nid l i)=true then cz m (tgt E (nid l i))else m
def lJ (l:TL) (E:List TH) (m:List (Int × Bool)) (o:List Int):List (Int × Bool):=o.foldl (ng l E) m
theorem mL {l:TL} {E:List TH} {m:List (Int × Bool)} {i q:Int}:ax false (ng l E m i) q=true↔ax false m q=true∨(ax false m (nid l i)=true∧∃h∈E,h.fFrom=nid l i∧h.fTo=q):=by
 unfold ng
 by_cases h:ax false m (nid l i)=true
 ·rw[if_pos h,o4,te]
  exact⟨fun h'=>h'.elim (fun a=>.inr ⟨h,a⟩) .inl,fun h'=>h'.elim .inr (fun a=>.inl a.2)⟩
 ·rw[if_neg h]
  exact⟨.inl,fun h'=>h'.elim id (fun a=>absurd a.1 h)⟩
theorem rm {l:TL} {E:List TH} {q:Int}:∀{o:List Int} {m:List (Int × Bool)},ax false m q=true→ax false (lJ l E m o) q=true
 | [],_,h=>h
 | i::o,m,h=>rm (o:=o) (m:=ng l E m i) (mL.2 (.inl h))
theorem qx {l:TL} {E:List TH} {F:List Int} {q:Int}:∀{o:List Int} {m:List (Int × Bool)},(∀q,ax false m q=true→Comes E F q)→ax false (lJ l E m o) q=true→Comes E F q
 | [],_,hm,h=>hm _ h
 | i::o,m,hm,h=>qx (o:=o) (m:=ng l E m i) (fun q hq=>by
   rcases mL.1 hq with hq|⟨h1,x,hx,e1,e2⟩
   ·exact hm _ hq
   ·rw[←e2]
    exact .step (e1▸hm _ h1) hx) h
theorem pw {l:TL} {E:List TH} (lv:Int→Int) (hE:∀h∈E,lv h.fFrom<lv h.fTo):∀{o:List Int} {m:List (Int × Bool)} (D:Int→Prop),o.Pairwise (fun a b=>lv (nid l a)≤lv (nid l b))→(∀a,D a→∀i∈o,lv a≤lv (nid l i)) →
  (∀a,D a→ax false m a=true→∀h∈E,h.fFrom=a→ax false m h.fTo=true) →
  ∀a,(D a∨∃i∈o,nid l i=a)→ax false (lJ l E m o) a=true→∀h∈E,h.fFrom=a→ax false (lJ l E m o) h.fTo=true
 | [],m,D,_,_,hD,a,ha,hm,h,hh,e=>by
  rcases ha with ha|⟨i,hi,_⟩
  ·exact hD a ha hm h hh e
  ·cases hi
 | i::o,m,D,hs,hl,hD,a,ha,hm,h,hh,e=>by
  rw[List.pairwise_cons]at hs
  refine pw lv hE (o:=o) (m:=ng l E m i) (fun x=>D x∨x=nid l i) hs.2 (fun x hx j hj=>?_) (fun x hx hmx y hy ey=>?_) a ?_ hm h hh e
  ·rcases hx with hx|rfl
   ·exact hl x hx j (List.mem_cons_of_mem _ hj)
   ·exact hs.1 j hj
  ·have hlx:lv x≤lv (nid l i):=by
    rcases hx with hx|rfl
    ·exact hl x hx i (List.mem_cons_self)
    ·omega
   have hmx':ax false m x=true:=by
    rcases mL.1 hmx with h1|⟨_,z,hz,e1,e2⟩
    ·exact h1
    ·have:=hE z hz
     rw[e1,e2]at this
     omega
   rcases hx with hx|rfl
   ·exact mL.2 (.inl (hD x hx hmx' y hy ey))
   ·exact mL.2 (.inr ⟨hmx',y,hy,ey,O⟩)
  ·rcases ha with ha|⟨j,hj,rfl⟩
   ·exact .inl (.inl ha)
   ·rcases List.mem_cons.1 hj with rfl|hj
    ·exact .inl (.inr O)
    ·exact .inr ⟨j,hj,O⟩
theorem qa {l:TL} {E:List TH}:∀(o:List Int) (m:List (Int × Bool)),(lJ l E m o).length≤m.length+o.length*E.length
 | [],m=>by simp[lJ]
 | i::o,m=>by
  have h1:=qa (l:=l) (E:=E) o (ng l E m i)
  have h2:(ng l E m i).length≤m.length+E.length:=by
   unfold ng
   split
   ·rw[lP]
    have:=tgt_len E (nid l i)
    omega
   ·omega
  have h3:(i::o).length*E.length=o.length*E.length+E.length:=by rw[List.length_cons,Nat.succ_mul]
  rw[h3]
  show(lJ l E (ng l E m i) o).length≤_
  omega
theorem sU {l:TL} {E:List TH} {p:Int × Bool}:∀(o:List Int) (m:List (Int × Bool)),p∈lJ l E m o→p∈m∨(p.2=true∧∃h∈E,h.fTo=p.1)
 | [],m,h=>.inl h
 | i::o,m,h=>by
  rcases sU o (ng l E m i) h with h|h
  ·unfold ng at h
   split at h
   ·rcases rv h with⟨h1,h2⟩|h
    ·obtain⟨x,hx,_,e⟩:=te.1 h1
     exact .inr ⟨h2,x,hx,e⟩
    ·exact .inl h
   ·exact .inl h
  ·exact .inr h
theorem nodes_lv {l:TL} (h:OkL l) {i:Int} (h0:0≤i) (h1:i<l.fNo.length):lvI l (nid l i)=(rdL l.fNo i).fLevel:=by
 obtain⟨k,rfl⟩:=Int.eq_ofNat_of_zero_le h0
 have hk:k<l.fNo.length:=by omega
 unfold lvI nid du
 rw[aX hk,tb h.nd hk,aX hk]
theorem reach_eq {l:TL} (h:Small l) {F:List Int} (hF:∀x∈F,x∈IDs l) (hFl:F.length≤1000) {p2:Int→Int→Option Bool} {s:Nat→Nat→Bool} (hso:∀i k:Nat,i<l.fC.length→k<(oO l i).length→p2 (i:Int) (k:Int)=some (s i k)) :
  ∃m,rcR l F p2=some m∧SetP l m (Comes (Ed l s) F)∧m.length≤F.length+12*(Ed l s).length:=by
 obtain⟨o,ho,hp,hs⟩:=levels_eq (l:=l) (by have:=h.n12;omega)
 have hon:∀i∈o,0≤i∧i<(l.fNo.length:Int):=fun i hi=>by
  have:=hp.mem_iff.1 hi
  simp only[sL,List.mem_map,List.mem_range]at this
  obtain⟨k,hk,rfl⟩:=this
  omega
 have hol:o.length=l.fNo.length:=by rw[hp.length_eq];simp[sL]
 have hidn:∀i∈o,nid l i∈IDs l:=fun i hi=>by
  obtain⟨h0,h1⟩:=hon i hi
  obtain⟨k,rfl⟩:=Int.eq_ofNat_of_zero_le h0
  have hk:k<l.fNo.length:=by omega
  unfold nid IDs
  rw[aX hk]
  exact List.mem_map.2 ⟨_,List.getElem_mem hk,O⟩
 have hEl:=qS h.ok (s:=s) (Nat.le_refl l.fC.length)
 have hE:=fun x hx=>edge_ok h.ok (s:=s) (Nat.le_refl l.fC.length) (x:=x) hx
 have h12:=h.n12
 have hc12:=h.c12
 change (Ed l s).length≤_ at hEl
 refine⟨lJ l (Ed l s) (cz [] F) o,?_,⟨fun q=>⟨fun hq=>?_,fun hq=>?_⟩,fun p hp=>?_⟩,?_⟩
 ·unfold rcR
  rw[reach_l1_eq h hso,oB]
  have e3:aL (dM F) (0,[])=some ((F.length:Int),cz [] F):=addLoop (fun k hk=>by
   unfold dM;dsimp only
   rw[d6 (by omega),gPo (by omega),aX hk,gPo ⟨qs h.ok (hF _ (List.getElem_mem hk)),by rw[lP];simp;omega⟩,a4 (by omega)]) (by
   unfold dM;dsimp only
   rw[dt (by omega)])
  rw[e3,oB,ho,oB]
  have e4:=f6 (body:=dl l ((l.fC.length:Int),ma (Ed l s)) o) (fun k=>((k:Int),lJ l (Ed l s) (cz [] F) (o.take k))) o.length (t:=((o.length:Int),lJ l (Ed l s) (cz [] F) o)) (fun k hk=>by
   have hi:=hon _ (List.getElem_mem hk)
   have hr:dx (rdL l.fNo o[k]).fID=true:=qs h.ok (hidn _ (List.getElem_mem hk))
   have hlen:(lJ l (Ed l s) (cz [] F) (o.take k)).length≤F.length+12*48:=by
    have a1:=qa (l:=l) (E:=Ed l s) (o.take k) (cz [] F)
    have a2:(o.take k).length≤12:=by rw[List.length_take];omega
    have a3:(o.take k).length*(Ed l s).length≤12*48:=Nat.mul_le_mul a2 (by omega)
    rw[lP]at a1
    simp only[List.length_nil]at a1
    omega
   unfold dl;dsimp only
   rw[d6 (by omega),gPo (by omega),aX hk,gPo hi,gPo hr,List.take_succ_eq_append_getElem hk,a4 (by omega)]
   show _=some (Sum.inl (((k+1:Nat):Int),(o.take k++[o[k]]).foldl (ng l (Ed l s)) (cz [] F)))
   rw[List.foldl_append]
   show _=some (Sum.inl (((k+1:Nat):Int),ng l (Ed l s) (lJ l (Ed l s) (cz [] F) (o.take k)) o[k]))
   unfold ng
   change (if(!(ax false (lJ l (Ed l s) (cz [] F) (o.take k)) (nid l o[k])))=true then _ else _)=_
   by_cases hg:ax false (lJ l (Ed l s) (cz [] F) (o.take k)) (nid l o[k])=true
   ·rw[if_neg (by rw[hg];simp),if_pos hg,gPo hr]
    have e5:aL (dS l ((l.fC.length:Int),ma (Ed l s)) o ((k:Int),lJ l (Ed l s) (cz [] F) (o.take k))) (0,lJ l (Ed l s) (cz [] F) (o.take k))=some (((tgt (Ed l s) (nid l o[k])).length:Int),cz (lJ l (Ed l s) (cz [] F) (o.take k)) (tgt (Ed l s) (nid l o[k]))):=by
     have et:ax [] (ma (Ed l s)) (rdL l.fNo (rdL o (k:Int))).fID=tgt (Ed l s) (nid l o[k]):=by rw[sO,aX hk];rfl
     have htl:=tgt_len (Ed l s) (nid l o[k])
     refine addLoop (fun j hj=>?_) ?_
     ·unfold dS;dsimp only
      rw[et,d6 (by omega),gPo (by omega),aX hj]
      have hm:=List.getElem_mem hj
      obtain⟨x,hx,_,ex⟩:=te.1 hm
      rw[gPo ⟨by rw[←ex];exact qs h.ok (hE x hx).2.1,by rw[lP,List.length_take];omega⟩,a4 (by omega)]
     ·unfold dS;dsimp only
      rw[et,dt (by omega)]
    rw[e5]
    rfl
   ·have hg':ax false (lJ l (Ed l s) (cz [] F) (o.take k)) (nid l o[k])=false:=by
     cases hh:ax false (lJ l (Ed l s) (cz [] F) (o.take k)) (nid l o[k])
     ·rfl
     ·exact absurd hh hg
    rw[if_pos (by rw[hg'];rfl),if_neg hg]) (by
   unfold dl;dsimp only
   rw[dt (by omega),List.take_length])
  have e4':aL (dl l ((l.fC.length:Int),ma (Ed l s)) o) (0,cz [] F)=some ((o.length:Int),lJ l (Ed l s) (cz [] F) o):=e4
  rw[e4']
  rfl
 ·exact qx (fun q hq=>by
   rcases (o4 _ _ _).1 hq with hq|hq
   ·exact .base hq
   ·cases hq) hq
 ·have hcl:=pw (l:=l) (E:=Ed l s) (lvI l) (fun x hx=>(hE x hx).2.2) (o:=o) (m:=cz [] F) (fun _=>False) (by
   rw[List.pairwise_iff_getElem]at hs ⊢
   intro i j hi hj hij
   rw[nodes_lv h.ok (hon _ (List.getElem_mem hi)).1 (hon _ (List.getElem_mem hi)).2,nodes_lv h.ok (hon _ (List.getElem_mem hj)).1 (hon _ (List.getElem_mem hj)).2]
   exact hs i j hi hj hij) (fun a ha=>ha.elim) (fun a ha=>ha.elim)
  induction hq with
  | base hx=>exact rm ((o4 _ _ _).2 (.inl hx))
  | @step x _ hx ih =>
   refine hcl x.fFrom (.inr ?_) ih x hx O
   have hm:=(hE x hx).1
   obtain⟨n,hn,e⟩:=List.mem_map.1 hm
   obtain⟨k,hk,rfl⟩:=List.mem_iff_getElem.1 hn
   refine⟨(k:Int),hp.mem_iff.2 (by simp only[sL,List.mem_map,List.mem_range];exact⟨k,hk,O⟩),?_⟩
   unfold nid
   rw[aX hk]
   exact e
 ·rcases sU o (cz [] F) hp with hp|⟨h1,x,hx,e⟩
  ·rcases rv hp with hp|hp
   ·exact⟨hF _ hp.1,hp.2⟩
   ·cases hp
  ·exact⟨e▸(hE x hx).2.1,h1⟩
 ·have a1:=qa (l:=l) (E:=Ed l s) o (cz [] F)
  have a3:o.length*(Ed l s).length≤12*(Ed l s).length:=Nat.mul_le_mul_right _ (by omega)
  rw[lP]at a1
  simp only[List.length_nil]at a1
  omega
theorem sE {S T α:Type} {f:S→α→Option (S ⊕ T)} {xs:List α} {s:S} (I:List α→S→Prop) (h0:I [] s) (h1:∀pre x suf s,xs=pre++x::suf→I pre s→∃s',f s x=some (.inl s')∧I (pre++[x]) s'):∃s',gA f xs s=some (.inl s')∧I xs s':=by
 have key:∀(ys pre:List α) (s:S),xs=pre++ys→I pre s→∃s',gA f ys s=some (.inl s')∧I xs s':=by
  intro ys
  induction ys with
  | nil=>intro pre s hx hi;rw[List.append_nil]at hx;subst hx;exact⟨s,O,hi⟩
  | cons y ys ih =>
   intro pre s hx hi
   obtain⟨s1,e1,i1⟩:=h1 pre y ys s hx hi
   obtain⟨s2,e2,i2⟩:=ih (pre++[y]) s1 (by rw[hx];simp) i1
   refine⟨s2,?_,i2⟩
   unfold gA
   rw[e1]
   exact e2
 exact key xs [] s O h0
theorem allC_iff:∀(ks:List Nat) (c:List Int),c∈rJ ks↔c.length=ks.length∧∀i:Nat,i<ks.length→0≤c.getD i 0∧c.getD i 0<((ks.getD i 0:Nat):Int)
 | ks,c=>by
  refine⟨nQ ks c,fun h=>?_⟩
  induction ks generalizing c with
  | nil =>
   have:c=[]:=List.eq_nil_of_length_eq_zero h.1
   subst this
   simp[rJ]
  | cons k ks ih =>
   obtain⟨h1,h2⟩:=h
   cases c with
   | nil=>simp at h1
   | cons x c =>
    have hx:=h2 0 (by simp)
    simp at hx
    have:=ih c ⟨by simpa using h1,fun i hi=>by have:=h2 (i+1) (by simpa using hi);simpa using this⟩
    simp only[rJ,List.mem_flatMap,List.mem_map,List.mem_range]
    exact⟨x.toNat,by omega,c,this,by rw[Int.toNat_of_nonneg hx.1]⟩
def oP:List Nat→Nat
 | []=>1
 | k::ks=>k*oP ks
theorem sM:∀a b:List Nat,oP (a++b)=oP a*oP b
 | [],b=>by simp[oP]
 | k::a,b=>by show k*oP (a++b)=k*oP a*oP b;rw[sM a b,Nat.mul_assoc]
theorem flat_len {α β:Type} (f:α→List β) (n:Nat):∀xs:List α,(∀x,(f x).length=n)→(xs.flatMap f).length=xs.length*n
 | [],_=>by simp
 | x::xs,h=>by rw[List.flatMap_cons,List.length_append,flat_len f n xs h,h,List.length_cons,Nat.succ_mul,Nat.add_comm]
theorem allC_len:∀ks:List Nat,(rJ ks).length=oP ks
 | []=>rfl
 | k::ks=>by
  unfold rJ oP
  rw[flat_len _ (oP ks) _ (fun x=>by rw[List.length_map,allC_len ks]),List.length_range]
theorem ks_get (l:TL) {i:Nat} (hi:i<l.fC.length):(sKs l).getD i 0=(oO l i).length:=by
 unfold sKs oO
 rw[List.getD_eq_getElem?_getD,List.getElem?_map,List.getElem?_eq_getElem hi,bj hi]
 rfl
theorem ks_len (l:TL):(sKs l).length=l.fC.length:=by simp[sKs]
theorem mem_Cs {l:TL} {c:List Int}:c∈sCs l↔c.length=l.fC.length∧∀i:Nat,i<l.fC.length→0≤c.getD i 0∧c.getD i 0<((oO l i).length:Int):=by
 unfold sCs
 rw[allC_iff,ks_len]
 exact⟨fun h=>⟨h.1,fun i hi=>by have:=h.2 i hi;rwa [ks_get l hi]at this⟩,fun h=>⟨h.1,fun i hi=>by have:=h.2 i hi;rwa [←ks_get l hi]at this⟩⟩
theorem sx {l:TL} (h:∀i,i<l.fC.length→1≤(oO l i).length):∀n,n≤l.fC.length→nb l n≤4096→nb l n=(oP ((sKs l).take n):Int)
 | 0,_,_=>rfl
 | n+1,hn,hc=>by
  have h1:=cntI_rg l n
  have hk:=h n (by omega)
  have ho:(l.fC.getD n default).fO.length=(oO l n).length:=rfl
  have hlt:n<(sKs l).length:=by rw[ks_len];omega
  unfold nb at hc ⊢
  rw[ho]at hc ⊢
  have hge:nb l n*1≤nb l n*((oO l n).length:Int):=Int.mul_le_mul_of_nonneg_left (by omega) h1.1
  have ih:=sx h n (by omega) (by omega)
  rw[List.take_succ_eq_append_getElem hlt,sM]
  have e:(sKs l)[n]=(oO l n).length:=by
   rw[←ks_get l (by omega),List.getD_eq_getElem?_getD,List.getElem?_eq_getElem hlt];rfl
  rw[e,Int.min_eq_left (by omega),ih]
  simp[oP]
theorem opts_pos {l:TL} (h:OkL l):∀i,i<l.fC.length→1≤(oO l i).length:=fun i hi=>(kA h hi).1.1
theorem Cs_cnt {l:TL} (h:OkL l):nb l l.fC.length=((sCs l).length:Int):=by
 rw[sx (opts_pos h) _ (Nat.le_refl _) h.cnt]
 unfold sCs
 rw[allC_len,←ks_len l,List.take_length]
theorem Cs_len {l:TL} (h:OkL l):(sCs l).length≤4096:=by
 have:=Cs_cnt h
 have:=h.cnt
 omega
theorem rV {l:TL} (h:OkL l):List.replicate l.fC.length 0∈sCs l:=by
 refine mem_Cs.2 ⟨by simp,fun i hi=>?_⟩
 have:=opts_pos h i hi
 rw[List.getD_eq_getElem?_getD,List.getElem?_replicate,if_pos hi]
 simp
 omega
theorem Cs_ok {l:TL} (h:OkL l):cq l:=by
 refine⟨by have:=h.nc;omega,fun x hx=>?_⟩
 have:=(h.claims x hx).2.1
 omega
def sC (c:List Int):Nat→Nat→Bool:=fun i k=>rdL c (i:Int)==(k:Int)
def EC (l:TL) (c:List Int):List TH:=Ed l (sC c)
theorem filter_one (x:Int) (n:Nat):((List.range n).filter fun k:Nat=>x==(k:Int)).length≤1:=by
 have:=lS (l1:=(List.range n).filter fun k:Nat=>x==(k:Int)) (l2:=[x.toNat]) (List.Nodup.sublist (List.filter_sublist) List.nodup_range) (fun k hk=>by
  have:=(List.mem_filter.1 hk).2
  simp at this
  simp[this])
 simpa using this
theorem EC_len (l:TL) (c:List Int):(EC l c).length≤l.fC.length:=by
 unfold EC Ed
 generalize l.fC.length=n
 induction n with
 | zero=>simp[lu]
 | succ n ih =>
  rw[oZ,List.length_append]
  have:(jS (oO l n) (sC c n) (oO l n).length).length≤1:=by
   unfold jS
   rw[List.length_map]
   exact filter_one _ _
  omega
theorem sm {l:TL} (h:Small l) {F:List Int} (hF:∀x∈F,x∈IDs l) (hFl:F.length≤12) {c:List Int} (hc:c∈sCs l) :
  ∃m,rcR l F (fun x y=>bf c x y)=some m∧SetP l m (Comes (EC l c) F)∧m.length≤156:=by
 obtain⟨m,h1,h2,h3⟩:=reach_eq h hF (by omega) (p2:=fun x y=>bf c x y) (s:=sC c) (fun i k hi hk=>by
  unfold bf sC
  rw[gPo (by rw[(mem_Cs.1 hc).1];omega)])
 refine⟨m,h1,h2,?_⟩
 have:=EC_len l c
 have:=h.c12
 unfold EC at *
 omega
def PossP (l:TL) (F:List Int) (q:Int):Prop:=∃c∈sCs l,Comes (EC l c) F q
def SureP (l:TL) (F:List Int) (q:Int):Prop:=∀c∈sCs l,Comes (EC l c) F q
theorem SetP.has {l:TL} {m:List (Int × Bool)} {Q:Int→Prop} (h:SetP l m Q) (q:Int):bH m q=true↔Q q:=by
 rw[←h.get q,oI]
 have hk:∀p∈m,p.2=true:=fun p hp=>(h.key p hp).2
 clear h
 induction m with
 | nil=>simp[ax]
 | cons p m ih =>
  obtain⟨k,v⟩:=p
  have hv:v=true:=hk (k,v) (by simp)
  subst hv
  rw[iF]
  by_cases e:k=q
  ·simp[e]
  ·have ih':=ih (fun p hp=>hk p (List.mem_cons_of_mem _ hp))
   rw[if_neg e]
   refine Iff.trans ?_ ih'
   simp only[List.map_cons,List.mem_cons]
   exact⟨fun h=>h.resolve_left (fun e'=>e e'.symm),.inr⟩
theorem unionV_len {β γ:Type} (v:γ) (M:List (Int × β)) (m:List (Int × γ)):(lk v M m).length=M.length+m.length:=by simp[lk]
theorem qe {l:TL} (h:Small l) {F:List Int} (hF:∀x∈F,x∈IDs l) (hFl:F.length≤12):∃m,bI l F=some m∧SetP l m (PossP l F)∧m.length≤1000000:=by
 have hlen:=Cs_len h.ok
 obtain⟨m,h1,h2,h3⟩:=sE (f:=dv l F) (xs:=sCs l) (s:=[]) (fun pre m=>SetP l m (fun q=>∃c∈pre,Comes (EC l c) F q)∧m.length≤156*pre.length) ⟨⟨fun q=>by simp[ax],fun p hp=>by cases hp⟩,by simp⟩ (fun pre c suf m hx ⟨i1,i2⟩=>by
  have hc:c∈sCs l:=by rw[hx];simp
  obtain⟨r,e1,e2,e3⟩:=sm h hF hFl hc
  have hpl:pre.length<4096:=by
   have:=congrArg List.length hx
   simp at this
   omega
  refine⟨lk true r m,?_,⟨fun q=>?_,fun p hp=>?_⟩,?_⟩
  ·unfold dv dF
   rw[oB,e1,oB,gPo (by omega)]
  ·rw[ri]
   by_cases hq:bH r q=true
   ·rw[if_pos hq]
    exact⟨fun _=>⟨c,by simp,(e2.has q).1 hq⟩,fun _=>O⟩
   ·rw[if_neg hq,i1.get]
    refine⟨fun⟨d,hd,hq'⟩=>⟨d,by simp[hd],hq'⟩,fun⟨d,hd,hq'⟩=>?_⟩
    rcases List.mem_append.1 hd with hd|hd
    ·exact⟨d,hd,hq'⟩
    ·rw[List.mem_singleton.1 hd]at hq'
     exact absurd ((e2.has q).2 hq') hq
  ·unfold lk at hp
   rcases List.mem_append.1 hp with hp|hp
   ·obtain⟨p',hp',rfl⟩:=List.mem_map.1 hp
    exact⟨(e2.key p' hp').1,O⟩
   ·exact i1.key p hp
  ·rw[unionV_len,List.length_append]
   simp
   omega)
 refine⟨m,?_,h2,by omega⟩
 unfold bI dj
 rw[oB,gPo (Cs_ok h.ok),h1]
 rfl
theorem sure_eq {l:TL} (h:Small l) {F:List Int} (hF:∀x∈F,x∈IDs l) (hFl:F.length≤12):∃m,eD l F=some m∧SetP l m (SureP l F)∧m.length≤1000000:=by
 obtain⟨m0,g1,g2,g3⟩:=qe h hF hFl
 obtain⟨m,h1,h2,h3⟩:=sE (f:=fG l F) (xs:=sCs l) (s:=m0) (fun pre m=>SetP l m (fun q=>PossP l F q∧∀c∈pre,Comes (EC l c) F q)∧m.length≤1000000) ⟨⟨fun q=>by rw[g2.get];simp,g2.key⟩,g3⟩ (fun pre c suf m hx ⟨i1,i2⟩=>by
  have hc:c∈sCs l:=by rw[hx];simp
  obtain⟨r,e1,e2,e3⟩:=sm h hF hFl hc
  refine⟨m.filter (fun p => !(fun y33=>(!(ax false r y33))) p.1),?_,⟨fun q=>?_,fun p hp=>i1.key p (List.mem_filter.1 hp).1⟩,by have:=List.length_filter_le (fun p:Int × Bool => !(fun y33=>(!(ax false r y33))) p.1) m;omega⟩
  ·unfold fG dF
   rw[oB,e1]
   rfl
  ·rw[l6 false (fun x => !!(ax false r x))]
   by_cases hq:ax false r q=true
   ·rw[if_pos (by rw[hq];rfl),i1.get]
    refine⟨fun⟨a,b⟩=>⟨a,fun d hd=>?_⟩,fun⟨a,b⟩=>⟨a,fun d hd=>b d (by simp[hd])⟩⟩
    rcases List.mem_append.1 hd with hd|hd
    ·exact b d hd
    ·rw[List.mem_singleton.1 hd];exact(e2.get q).1 hq
   ·rw[if_neg (by simpa using hq)]
    refine⟨fun a=>(by cases a),fun⟨a,b⟩=>absurd ((e2.get q).2 (b c (by simp))) hq⟩)
 refine⟨m,?_,⟨fun q=>?_,h2.key⟩,h3⟩
 ·unfold eD dj
  rw[g1,oB,oB,gPo (Cs_ok h.ok),h1]
  rfl
 ·rw[h2.get]
  refine⟨fun a=>a.2,fun a=>⟨⟨_,rV h.ok,a _ (rV h.ok)⟩,a⟩⟩
theorem sn {l:TL} (h:Small l) {m:List (Int × Bool)} (hm:∀p∈m,p.1∈IDs l) (hl:m.length≤1000000):bo m=some (ir m):=by
 unfold bo
 have hmem:∀q∈ir m,q∈IDs l:=fun q hq=>by
  have hq':=((er m).2 q).1 hq
  have hh:bH m q=true:=by
   cases e:bH m q
   ·rw[nM e]at hq';cases hq'
   ·rfl
  obtain⟨p,hp,rfl⟩:=List.mem_map.1 (oI.1 hh)
  exact hm p hp
 have hn:=lS (er m).1.nodup hmem
 have h12:=h.n12
 unfold IDs at hn
 rw[List.length_map]at hn
 rw[gPo ⟨hl,by omega,List.all_eq_true.2 (fun p hp=>qs h.ok (hm p hp))⟩]
def IsFrom (l:TL) (F:List Int):Prop:=0<F.length∧StrictI F∧∀x∈F,x∈IDs l
theorem ro {F:List Int} (h:∀k,(hk:k+1<F.length)→F[k]<F[k+1]):StrictI F:=by
 unfold StrictI
 rw[List.pairwise_iff_getElem]
 intro i j hi hj hij
 have:∀d,(hd:i+1+d<F.length)→F[i]<F[i+1+d]:=by
  intro d
  induction d with
  | zero=>intro hd;exact h i hd
  | succ d ih=>intro hd;have a:=ih (by omega);have b:=h (i+1+d) (by omega);exact Int.lt_trans a b
 have h2:=this (j-(i+1)) (by omega)
 have e:i+1+(j-(i+1))=j:=by omega
 simp only[e]at h2
 exact h2
theorem nV {F:List Int} (hl:F.length<1000000000) {so:Int→Option Bool} (P:Int→Prop) [∀x,Decidable (P x)] (hso:∀x∈F,so x=some (decide (P x))):∃b,bz F (fun x=>eb x) so=some b∧(b=true↔(∀x∈F,P x)∧StrictI F):=by
 unfold bz
 have hrun:=bE (body:=a8 F (fun x=>eb x) so) (fun k=>(false,(k:Int))) F.length (fun k=>if P (F.getD k 0)∧(0<k→F.getD (k-1) 0<F.getD k 0)then none else some (Sum.inl (false,(k:Int)))) (t0:=.inr (false,(F.length:Int))) (fun k hk=>by
  unfold a8;dsimp only
  have eg:F.getD k 0=F[k]:=by rw[List.getD_eq_getElem?_getD,List.getElem?_eq_getElem hk];rfl
  rw[d6 (by omega),gPo (by omega),aX hk,eg]
  simp only[eb,oB]
  rw[hso _ (List.getElem_mem hk),oB,a4 (by omega)]
  by_cases hP:P F[k]
  ·rw[if_neg (by simp[hP])]
   by_cases h0:0<k
   ·have eg1:F.getD (k-1) 0=F[k-1]'(by omega):=by rw[List.getD_eq_getElem?_getD,List.getElem?_eq_getElem (by omega)];rfl
    have ew:w64 ((k:Int)-1)=((k-1:Nat):Int):=by rw[iZ (by omega) (by omega)];omega
    rw[d6 (by omega),ew,gPo (by omega),aX (show k-1<F.length by omega),oB,oB,eg1]
    by_cases hlt:F[k-1]'(by omega)<F[k]
    ·rw[dt (by omega),if_pos ⟨hP,fun _=>hlt⟩]
    ·rw[d6 (by omega),if_neg (fun h=>hlt (h.2 h0))]
   ·rw[dt (by omega),oB,oB,if_neg (by simp),if_pos ⟨hP,fun h=>absurd h h0⟩]
  ·rw[if_pos (by simp[hP]),oB,if_pos O,if_neg (fun h=>hP h.1)]) (by
  unfold a8;dsimp only
  rw[dt (by omega)])
 have h0:aL (a8 F (fun x=>eb x) so) (false,0)=_:=hrun
 rw[h0,oB]
 rcases bM (R:=fun k=>if P (F.getD k 0)∧(0<k→F.getD (k-1) 0<F.getD k 0)then none else some (Sum.inl (false,(k:Int)):(Bool × Int) ⊕ (Bool × Int))) (n:=F.length) (.inr (false,(F.length:Int)))with⟨hn,h2⟩|⟨k,t,hk,hR,hj,h2⟩
 ·rw[h2]
  have hall:∀k,(hk:k<F.length)→P (F.getD k 0)∧(0<k→F.getD (k-1) 0<F.getD k 0):=fun k hk=>by
   have:=hn k hk
   split at this
   ·assumption
   ·cases this
  have eg:∀k,(hk:k<F.length)→F.getD k 0=F[k]:=fun k hk=>by rw[List.getD_eq_getElem?_getD,List.getElem?_eq_getElem hk];rfl
  refine⟨true,O,fun _=>⟨fun x hx=>?_,ro (fun k hk=>?_)⟩,fun _=>O⟩
  ·obtain⟨k,hk,rfl⟩:=List.mem_iff_getElem.1 hx
   rw[←eg k hk]
   exact(hall k hk).1
  ·have:=(hall (k+1) hk).2 (by omega)
   rw[eg _ hk,Nat.add_sub_cancel,eg k (by omega)]at this
   exact this
 ·rw[h2]
  have eg:∀k,(hk:k<F.length)→F.getD k 0=F[k]:=fun k hk=>by rw[List.getD_eq_getElem?_getD,List.getElem?_eq_getElem hk];rfl
  have hno:¬(P (F.getD k 0)∧(0<k→F.getD (k-1) 0<F.getD k 0)):=fun h=>by rw[if_pos h]at hR;cases hR
  rw[if_neg hno]at hR
  cases hR
  refine⟨false,O,fun h=>(by cases h),fun⟨a,b⟩=>(hno ⟨?_,fun h0=>?_⟩).elim⟩
  ·rw[eg k hk];exact a _ (List.getElem_mem hk)
  ·rw[eg k hk,eg (k-1) (by omega)]
   exact List.pairwise_iff_getElem.1 b (k-1) k (by omega) hk (by omega)
theorem isFrom_eq {l:TL} {F:List Int} (hn:l.fNo.length<1000000000) (hl:F.length<1000000000):∃b,fp l F=some b∧(b=true↔IsFrom l F):=by
 obtain⟨b,h1,h2⟩:=nV hl (so:=fun x6=>dp x6 l) (fun x=>0≤du l x) (fun x hx=>by
  unfold dp
  rw[nr hn]
  rfl)
 unfold fp
 by_cases h0:0<F.length
 ·rw[d6 (by omega),h1]
  refine⟨b,O,h2.trans ?_⟩
  exact⟨fun⟨a,c⟩=>⟨h0,c,fun x hx=>jN.1 (a x hx)⟩,fun⟨_,c,a⟩=>⟨fun x hx=>jN.2 (a x hx),c⟩⟩
 ·rw[dt (by omega)]
  exact⟨false,O,fun h=>(by cases h),fun h=>absurd h.1 h0⟩
theorem IsFrom.len {l:TL} (h:Small l) {F:List Int} (hf:IsFrom l F):F.length≤12:=by
 have:=lS hf.2.1.nodup hf.2.2
 have:=h.n12
 unfold IDs at *
 rw[List.length_map]at *
 omega
theorem asked_eq {l:TL} {F:List Int} (hl:F.length<1000000000):∃e,ct l F=some e∧(dW l≠0→e=dW l)∧(dW l=0→¬IsFrom l F→e=1)∧(dW l=0→IsFrom l F→e=0):=by
 unfold ct
 rw[mj,oB]
 by_cases h0:dW l=0
 ·have hn:l.fNo.length<1000000000:=by have:=(lm.1 h0).nn;omega
  obtain⟨b,h1,h2⟩:=isFrom_eq (l:=l) (F:=F) hn hl
  rw[if_neg (by simp[h0]),h1,oB]
  cases b with
  | true=>exact⟨0,O,fun h=>absurd h0 h,fun _ h=>absurd (h2.1 O) h,fun _ _=>rfl⟩
  | false=>exact⟨1,O,fun h=>absurd h0 h,fun _ _=>rfl,fun _ h=>by have:=h2.2 h;cases this⟩
 ·rw[if_pos (by simp[h0])]
  exact⟨_,O,fun _=>O,fun h=>absurd h h0,fun h=>absurd h h0⟩
noncomputable def askS (l:TL) (F:List Int):Int:=@ite _ (dW l=0) (inferInstance) (@ite _ (IsFrom l F) (Classical.propDecidable _) 0 1) (dW l)
theorem asked_S {l:TL} {F:List Int} (hl:F.length<1000000000):ct l F=some (askS l F):=by
 obtain⟨e,h1,h2,h3,h4⟩:=asked_eq (l:=l) hl
 rw[h1]
 unfold askS
 by_cases h0:dW l=0
 ·rw[if_pos h0]
  by_cases hf:IsFrom l F
  ·rw[if_pos hf,h4 h0 hf]
  ·rw[if_neg hf,h3 h0 hf]
 ·rw[if_neg h0,h2 h0]
theorem askS_0 {l:TL} {F:List Int}:askS l F=0↔OkL l∧IsFrom l F:=by
 unfold askS
 rw[←lm]
 by_cases h0:dW l=0
 ·rw[if_pos h0]
  by_cases hf:IsFrom l F
  ·rw[if_pos hf];simp[h0,hf]
  ·rw[if_neg hf];simp[hf]
 ·rw[if_neg h0];simp[h0]
theorem ask0 {l:TL} (h:Small l) {F:List Int} (hf:IsFrom l F):ct l F=some 0:=by
 have:=hf.len h
 rw[asked_S (by omega),askS_0.2 ⟨h.ok,hf⟩]
theorem Surely_ok {l:TL} (h:Small l) {F:List Int} (hf:IsFrom l F):∃L,eo l F=some (L,0)∧StrictI L∧∀q,q∈L↔SureP l F q:=by
 obtain⟨m,h1,h2,h3⟩:=sure_eq h hf.2.2 (hf.len h)
 refine⟨ir m,?_,(er m).1,fun q=>by rw[(er m).2,h2.get]⟩
 unfold eo
 rw[ask0 h hf,oB,if_neg (by simp),h1,oB,sn h (fun p hp=>(h2.key p hp).1) h3]
 rfl
theorem ta {l:TL} (h:Small l) {F:List Int} (hf:IsFrom l F):∃L,de l F=some (L,0)∧StrictI L∧∀q,q∈L↔PossP l F q:=by
 obtain⟨m,h1,h2,h3⟩:=qe h hf.2.2 (hf.len h)
 refine⟨ir m,?_,(er m).1,fun q=>by rw[(er m).2,h2.get]⟩
 unfold de
 rw[ask0 h hf,oB,if_neg (by simp),h1,oB,sn h (fun p hp=>(h2.key p hp).1) h3]
 rfl
theorem few_eq {l:TL} (hl:l.fC.length≤9223372036854775807):∃b,gr l=some b∧(b=true→OkL l→Small l):=by
 unfold gr
 have key:∃t,aL (fz l) (false,1,0)=some t∧((∃x,t=.inl (false,x))∨∃x,t=.inr x):=by
  refine mE (body:=fz l) (fun s=>s.1=false∧0≤s.2.1∧s.2.1≤10000∧0≤s.2.2∧s.2.2≤(l.fC.length:Int)) (fun s t=>(∃x,t=.inl (false,x))∨∃x,t=.inr x) (fun s=>((l.fC.length:Int)-s.2.2).toNat) (fun s hs=>?_) _ ⟨O,by decide,by decide,by decide,by dsimp only;omega⟩
  obtain⟨b,n,i⟩:=s
  obtain⟨h1,h2,h3,h4,h5⟩:=hs
  dsimp only at h1 h2 h3 h4 h5 ⊢
  subst h1
  unfold fz;dsimp only
  by_cases hi:i<(l.fC.length:Int)
  ·rw[d6 hi,gPo ⟨h4,hi⟩]
   by_cases h6:6<(((rdL l.fC i).fO.length:Nat):Int)
   ·rw[d6 h6]
    exact .inr ⟨_,O,.inl ⟨_,O⟩⟩
   ·rw[dt h6]
    have hm0:0≤n*(max 1 (((rdL l.fC i).fO.length:Nat):Int)):=Int.mul_nonneg h2 (by omega)
    have hm1:n*(max 1 (((rdL l.fC i).fO.length:Nat):Int))≤10000*6:=Int.mul_le_mul h3 (by omega) (by omega) (by omega)
    rw[iZ (x:=n*(max 1 (((rdL l.fC i).fO.length:Nat):Int))) (by omega) (by omega),iZ (x:=i+1) (by omega) (by omega)]
    refine .inl ⟨_,O,⟨O,?_,?_,?_,?_⟩,?_,fun t ht=>ht⟩ <;> dsimp only <;> omega
  ·rw[dt hi]
   exact .inr ⟨_,O,.inr ⟨_,O⟩⟩
 obtain⟨t,h1,h2⟩:=key
 rw[h1,oB]
 rcases h2 with⟨x,rfl⟩|⟨x,rfl⟩
 ·exact⟨false,O,fun h=>(by cases h)⟩
 ·refine⟨_,O,fun h hok=>?_⟩
  have hn:=hok.nn
  have hc:=hok.nc
  simp only[Bool.and_eq_true,Bool.or_eq_true,decide_eq_true_eq]at h
  exact⟨hok,by omega,by omega⟩
theorem head_true:fR=some true:=pd 100 _ (by kernel_rfl)
def pick (l:TL) (c:List Int) (i:Nat):TH:=(oO l i).getD (c.getD i 0).toNat default
theorem mem_EC {l:TL} {c:List Int} (hc:c∈sCs l) {h:TH}:h∈EC l c↔∃i,i<l.fC.length∧pick l c i=h:=by
 unfold EC Ed
 rw[p7]
 have hm:=(mem_Cs.1 hc).2
 constructor
 ·rintro⟨i,k,hi,hk,hs,e⟩
  refine⟨i,hi,?_⟩
  unfold sC at hs
  rw[mY]at hs
  have:c.getD i 0=(k:Int):=by simpa using hs
  unfold pick
  rw[this]
  exact e
 ·rintro⟨i,hi,e⟩
  obtain⟨h1,h2⟩:=hm i hi
  refine⟨i,(c.getD i 0).toNat,hi,by omega,?_,e⟩
  unfold sC
  rw[mY,Int.toNat_of_nonneg h1]
  exact beq_self_eq_true _
structure Sub (m l:TL):Prop where
 len:m.fC.length=l.fC.length
 into:∀c∈sCs m,∃d∈sCs l,∀i,i<l.fC.length→pick m c i=pick l d i
theorem EC_pick {m l:TL} (hlen:m.fC.length=l.fC.length) {c d:List Int} (hc:c∈sCs m) (hd:d∈sCs l) (h:∀i,i<l.fC.length→pick m c i=pick l d i) (F:List Int) (q:Int):Comes (EC m c) F q↔Comes (EC l d) F q:=by
 refine⟨Comes.mono (fun x hx=>?_) (fun x hx=>hx),Comes.mono (fun x hx=>?_) (fun x hx=>hx)⟩
 ·obtain⟨i,hi,e⟩:=(mem_EC hc).1 hx
  exact(mem_EC hd).2 ⟨i,by omega,by rw[←h i (by omega)];exact e⟩
 ·obtain⟨i,hi,e⟩:=(mem_EC hd).1 hx
  exact(mem_EC hc).2 ⟨i,by omega,by rw[h i hi];exact e⟩
theorem Sub.sure {m l:TL} (h:Sub m l) {F:List Int} {q:Int} (hs:SureP l F q):SureP m F q:=fun c hc=>by
 obtain⟨d,hd,he⟩:=h.into c hc
 exact(EC_pick h.len hc hd he F q).2 (hs d hd)
theorem Sub.poss {m l:TL} (h:Sub m l) {F:List Int} {q:Int} (hs:PossP m F q):PossP l F q:=by
 obtain⟨c,hc,hq⟩:=hs
 obtain⟨d,hd,he⟩:=h.into c hc
 exact⟨d,hd,(EC_pick h.len hc hd he F q).1 hq⟩
def setO (l:TL) (i:Nat) (o:List TH):TL:=⟨l.fNo,l.fC.set i ⟨(l.fC.getD i default).fID,o⟩⟩
theorem setO_len (l:TL) (i:Nat) (o:List TH):(setO l i o).fC.length=l.fC.length:=List.length_set
theorem nf {s:List TH} (h:s.length≤1000000000):bp s=some s:=by
 unfold bp
 rw[gPo (by omega)];rfl
theorem copied_eq {l:TL} (hn:l.fNo.length≤1000000000) (hc:l.fC.length≤1000000000) (ho:∀c∈l.fC,c.fO.length≤1000000000):cJ l=some l:=by
 unfold cJ ch a7
 rw[gPo (by omega),gPo (by omega),oB,oB]
 simp only[List.nil_append]
 have hrun:=f6 (body:=cU l.fC) (fun k=>((k:Int),l.fC)) l.fC.length (t:=((l.fC.length:Int),l.fC)) (fun k hk=>by
  unfold cU;dsimp only
  rw[d6 (by omega),gPo (by omega),aX hk,nf (ho _ (List.getElem_mem hk)),oB,gPo (by omega),a4 (by omega),Int.toNat_natCast]
  have:l.fC.set k (TC.mk l.fC[k].fID l.fC[k].fO)=l.fC:=by
   rw[jl];exact List.set_getElem_self hk
  rw[this]) (by
  unfold cU;dsimp only
  rw[dt (by omega)])
 have e0:aL (cU l.fC) (0,l.fC)=_:=hrun
 rw[e0]
 rfl
theorem OkL.copied {l:TL} (h:OkL l):cJ l=some l:=copied_eq (by have:=h.nn;omega) (by have:=h.nc;omega) (fun c hc=>by have:=(h.claims c hc).2.1.2;omega)
theorem told_eq {l:TL} (h:OkL l) {i:Nat} (hi:i<l.fC.length) {o:List TH} (ho:o.length≤1000000000):fi l (i:Int) o=some (setO l i o):=by
 unfold fi
 rw[h.copied,oB,nf ho,oB,gPo (by omega),Int.toNat_natCast,aX hi]
 unfold setO
 rw[bj hi]
theorem sg (l:TL) (link h:Int):(∃e,e≠0∧dE l link h=some (0,e))∨∃i:Nat,i<l.fC.length∧OkL l∧gP l link=(i:Int)∧0≤h∧h<((oO l i).length:Int)∧dE l link h=some ((i:Int),0):=by
 unfold dE
 rw[mj,oB]
 by_cases h0:dW l=0
 ·have hok:=lm.1 h0
  rw[if_neg (by simp[h0]),mN (by have:=hok.nc;omega),oB]
  by_cases hneg:gP l link<0
  ·rw[d6 hneg]
   exact .inl ⟨5,by decide,O⟩
  ·rw[dt hneg]
   obtain⟨i,hi⟩:=Int.eq_ofNat_of_zero_le (show 0≤gP l link by omega)
   have hlt:i<l.fC.length:=by have:=fk l.fC (fun n=>n.fID==link);unfold gP at hi;omega
   have ho:(rdL l.fC (i:Int)).fO=oO l i:=by rw[aX hlt];unfold oO;rw[bj hlt]
   have hle:=(kA hok hlt).1
   rw[hi,gPo (by omega),mM,oB,ho,iZ (by omega) (by omega)]
   by_cases hw:0≤h∧h≤((oO l i).length:Int)-1
   ·rw[decide_eq_true hw]
    exact .inr ⟨i,hlt,hok,O,hw.1,by omega,O⟩
   ·rw[decide_eq_false hw]
    exact .inl ⟨1,by decide,O⟩
 ·rw[if_pos (by simp[h0])]
  exact .inl ⟨_,h0,O⟩
theorem pv {l:TL} (h:Small l) {L:List Int} (hs:StrictI L) (hm:∀x∈L,x∈IDs l):L.length≤12:=by
 have:=lS hs.nodup hm
 have:=h.n12
 unfold IDs at *
 rw[List.length_map]at *
 omega
theorem Comes_id {l:TL} (h:OkL l) {F:List Int} (hF:∀x∈F,x∈IDs l) {s:Nat→Nat→Bool} {q:Int} (hq:Comes (Ed l s) F q):q∈IDs l:=by
 cases hq with
 | base hx=>exact hF _ hx
 | step _ hx=>exact(edge_ok h (Nat.le_refl _) hx).2.1
theorem PossP.id {l:TL} (h:OkL l) {F:List Int} (hF:∀x∈F,x∈IDs l) {q:Int} (hq:PossP l F q):q∈IDs l:=by
 obtain⟨c,_,h2⟩:=hq
 exact Comes_id h hF h2
theorem SureP.poss {l:TL} (h:OkL l) {F:List Int} {q:Int} (hq:SureP l F q):PossP l F q:=⟨_,rV h,hq _ (rV h)⟩
structure Two (l:TL) (F A B:List Int):Prop where
 sur:eo l F=some (A,0)
 pos:de l F=some (B,0)
 a:∀q,q∈A↔SureP l F q
 b:∀q,q∈B↔PossP l F q
 sa:StrictI A
 sb:StrictI B
 la:A.length≤12
 lb:B.length≤12
theorem two {l:TL} (h:Small l) {F:List Int} (hf:IsFrom l F):∃A B,Two l F A B:=by
 obtain⟨A,a1,a2,a3⟩:=Surely_ok h hf
 obtain⟨B,b1,b2,b3⟩:=ta h hf
 exact⟨A,B,a1,b1,a3,b3,a2,b2,pv h a2 (fun x hx=>(((a3 x).1 hx).poss h.ok).id h.ok hf.2.2),pv h b2 (fun x hx=>((b3 x).1 hx).id h.ok hf.2.2)⟩
theorem rin_eq (n lo hi:Int):jD n lo hi=some (decide (lo≤n∧n≤hi)):=by unfold jD;rw[Bool.decide_and]
theorem pZ {l:TL} (hl:l.fNo.length<1000000000) (id:Int):gk l id=some (du l id):=by
 unfold gk
 have:=bE (body:=gx l id) (fun k=>((0:Int),(k:Int))) l.fNo.length (fun k=>if((l.fNo.getD k default).fID==id)=true then some (Sum.inl ((k:Int),(k:Int)))else none) (t0:=.inr (0,(l.fNo.length:Int))) (fun k hk=>by
  unfold gx;dsimp only
  rw[d6 (by omega),gPo (by omega),aX hk,bj hk,a4 (by omega)]
  cases (l.fNo[k].fID==id) <;> rfl) (by
  unfold gx;dsimp only
  rw[dt (by omega)])
 have h0:aL (gx l id) (0,0)=_:=this
 rw[h0,oB]
 exact mU l.fNo (fun n=>n.fID==id)
theorem nK {l:TL} (hl:l.fC.length<1000000000) (id:Int):fm l id=some (gP l id):=by
 unfold fm
 have:=bE (body:=fQ l id) (fun k=>((0:Int),(k:Int))) l.fC.length (fun k=>if((l.fC.getD k default).fID==id)=true then some (Sum.inl ((k:Int),(k:Int)))else none) (t0:=.inr (0,(l.fC.length:Int))) (fun k hk=>by
  unfold fQ;dsimp only
  rw[d6 (by omega),gPo (by omega),aX hk,bj hk,a4 (by omega)]
  cases (l.fC[k].fID==id) <;> rfl) (by
  unfold fQ;dsimp only
  rw[dt (by omega)])
 have h0:aL (fQ l id) (0,0)=_:=this
 rw[h0,oB]
 exact mU l.fC (fun n=>n.fID==id)
theorem hop_eq (a b:TH):((a.fFrom==b.fFrom)&&(a.fTo==b.fTo))=decide (a=b):=by
 rw[Bool.eq_iff_iff]
 simp only[Bool.and_eq_true,beq_iff_eq,decide_eq_true_eq]
 cases a
 cases b
 simp
theorem rtwice {x:TC} {i:Nat} (hi:i<x.fO.length) (hl:x.fO.length≤4):(x.fO[i]∈x.fO.take i→∃k:Int,aL (dJ x (false,(i:Int))) (false,0)=some (.inl (false,k)))∧(x.fO[i]∉x.fO.take i→∃k:Int,aL (dJ x (false,(i:Int))) (false,0)=some (.inr (false,k))):=by
 have:=bE (body:=dJ x (false,(i:Int))) (fun k=>(false,(k:Int))) i (fun k=>if x.fO.getD k default=x.fO[i]then some (Sum.inl (false,(k:Int)))else none) (t0:=.inr (false,(i:Int))) (fun k hk=>by
  have hk':k<x.fO.length:=by omega
  unfold dJ;dsimp only
  rw[d6 (by omega),gPo (by omega),gPo (by omega),aX hk',aX hi,hop_eq,bj hk',a4 (by omega)]
  by_cases e:x.fO[k]=x.fO[i]
  ·rw[if_pos (decide_eq_true e),if_pos e]
  ·rw[if_neg (by simp[e]),if_neg e]) (by
  unfold dJ;dsimp only
  rw[dt (by omega)])
 have h0:aL (dJ x (false,(i:Int))) (false,0)=_:=this
 rw[h0]
 rcases bM (R:=fun k=>if x.fO.getD k default=x.fO[i]then some (Sum.inl (false,(k:Int)):(Bool × Int) ⊕ (Bool × Int))else none) (n:=i) (.inr (false,(i:Int)))with⟨hn,h2⟩|⟨k,t,hk,hR,hj,h2⟩
 ·rw[h2]
  refine⟨fun hm=>?_,fun _=>⟨_,O⟩⟩
  obtain⟨j,hj,e⟩:=List.mem_take_iff_getElem.1 hm
  have:=hn j (by omega)
  rw[bj (by omega),if_pos e]at this
  cases this
 ·rw[h2]
  have hq:x.fO.getD k default=x.fO[i]:=by
   by_cases hq:x.fO.getD k default=x.fO[i]
   ·exact hq
   ·rw[if_neg hq]at hR;cases hR
  rw[if_pos hq]at hR
  cases hR
  refine⟨fun _=>⟨_,O⟩,fun hm=>?_⟩
  rw[bj (by omega)]at hq
  exact absurd (List.mem_take_iff_getElem.2 ⟨k,by omega,hq⟩) hm
theorem rclaim_eq {l:TL} (hl:l.fNo.length<1000000000) (x:TC):kT l x=some (decide (jb l x)):=by
 unfold kT
 rw[rin_eq,oB]
 by_cases h1:1≤x.fID∧x.fID≤1099511627776
 ·rw[decide_eq_true h1,if_neg (by simp),rin_eq,oB,oB]
  by_cases h2:1≤x.fO.length∧x.fO.length≤4
  ·have h2':(1:Int)≤((x.fO.length:Nat):Int)∧((x.fO.length:Nat):Int)≤4:=by omega
   rw[decide_eq_true h2',if_neg (by simp)]
   have hrun:=bE (body:=fP l x) (fun k=>(false,(k:Int))) x.fO.length (fun k=>if nl l x.fO k then none else some (Sum.inl (false,(k:Int)))) (t0:=.inr (false,(x.fO.length:Int))) (fun k hk=>by
    have ba:du l x.fO[k].fFrom<(l.fNo.length:Int):=fk _ _
    have bb:du l x.fO[k].fTo<(l.fNo.length:Int):=fk _ _
    obtain⟨tw1,tw2⟩:=rtwice hk h2.2
    have hO:nl l x.fO k↔(0≤du l x.fO[k].fFrom∧0≤du l x.fO[k].fTo∧lvI l x.fO[k].fFrom<lvI l x.fO[k].fTo)∧x.fO[k]∉x.fO.take k:=by unfold nl;rw[bj hk]
    unfold fP;dsimp only
    rw[d6 (by omega),gPo (by omega),aX hk,pZ hl,oB,gPo (by omega),pZ hl,oB]
    by_cases hab:du l x.fO[k].fFrom<0∨du l x.fO[k].fTo<0
    ·rw[if_pos (by simpa using hab),oB,if_pos O,if_neg (fun h=>by have:=(hO.1 h).1;omega)]
    ·rw[if_neg (by simpa using hab),gPo (by omega),gPo (by omega),oB]
     by_cases hlv:lvI l x.fO[k].fFrom<lvI l x.fO[k].fTo
     ·have hlv':¬((rdL l.fNo (du l x.fO[k].fTo)).fLevel≤(rdL l.fNo (du l x.fO[k].fFrom)).fLevel):=by unfold lvI at hlv;omega
      rw[dt hlv']
      by_cases hm:x.fO[k]∈x.fO.take k
      ·obtain⟨q,e⟩:=tw1 hm
       rw[e,oB,if_neg (fun h=>(hO.1 h).2 hm)]
      ·obtain⟨q,e⟩:=tw2 hm
       rw[e,oB,if_pos (hO.2 ⟨⟨by omega,by omega,hlv⟩,hm⟩),a4 (by omega)]
     ·have hlv':(rdL l.fNo (du l x.fO[k].fTo)).fLevel≤(rdL l.fNo (du l x.fO[k].fFrom)).fLevel:=by unfold lvI at hlv;omega
      rw[d6 hlv',if_neg (fun h=>hlv (hO.1 h).1.2.2)]) (by
    unfold fP;dsimp only
    rw[dt (by omega)])
   have h0:aL (fP l x) (false,0)=_:=hrun
   rw[h0,oB]
   rcases bM (R:=fun k=>if nl l x.fO k then none else some (Sum.inl (false,(k:Int)):(Bool × Int) ⊕ (Bool × Int))) (n:=x.fO.length) (.inr (false,(x.fO.length:Int)))with⟨hn,h3⟩|⟨k,t,hk,hR,hj,h3⟩
   ·rw[h3]
    have:jb l x:=⟨h1,h2,fun k hk=>by
     have:=hn k hk
     split at this
     ·assumption
     ·cases this⟩
    rw[decide_eq_true this]
   ·rw[h3]
    have hno:¬nl l x.fO k:=fun h=>by rw[if_pos h]at hR;cases hR
    rw[if_neg hno]at hR
    cases hR
    have:¬jb l x:=fun h=>hno (h.2.2 k hk)
    rw[decide_eq_false this]
  ·have h2':¬((1:Int)≤((x.fO.length:Nat):Int)∧((x.fO.length:Nat):Int)≤4):=by omega
   have:¬jb l x:=fun h=>h2 h.2.1
   rw[decide_eq_false h2',decide_eq_false this]
   rfl
 ·have:¬jb l x:=fun h=>h1 h.1
  rw[decide_eq_false h1,decide_eq_false this]
  rfl
theorem rcount_eq {l:TL} (hc:l.fC.length≤80) (ho:∀k,k<l.fC.length→(oO l k).length≤4):kX l=some (nb l l.fC.length):=by
 unfold kX
 have hrun:=f6 (body:=fV l) (fun k=>(nb l k,(k:Int))) l.fC.length (t:=(nb l l.fC.length,(l.fC.length:Int))) (fun k hk=>by
  have hw:=cntI_w (l:=l) (k:=k) (ho k hk)
  unfold fV;dsimp only
  rw[d6 (by omega),gPo (by omega),aX hk,a4 (by omega)]
  rw[bj hk]at hw
  rw[hw]
  show some (Sum.inl (min (nb l k*(l.fC[k].fO.length:Int)) 4097,((k+1:Nat):Int)))=some (Sum.inl (min (nb l k*((l.fC.getD k default).fO.length:Int)) 4097,((k+1:Nat):Int)))
  rw[bj hk]) (by
  unfold fV;dsimp only
  rw[dt (by omega)])
 have h0:aL (fV l) (1,0)=_:=hrun
 rw[h0]
 rfl
theorem mF (l:TL):eI l=some (dW l):=by
 unfold eI dW
 by_cases h0:60<l.fNo.length∨80<l.fC.length
 ·have h0':(decide (60<((l.fNo.length:Nat):Int))||decide (80<((l.fC.length:Nat):Int)))=true:=by
   rw[Bool.or_eq_true,decide_eq_true_eq,decide_eq_true_eq]
   omega
  rw[if_pos h0,if_pos h0']
 ·rw[if_neg h0,if_neg (by simp;omega)]
  have hn:l.fNo.length<1000000000:=by omega
  have hc:l.fC.length<1000000000:=by omega
  have hrun:=bE (body:=fT l) (fun k=>((0:Int),(k:Int))) l.fNo.length (fun k=>(errN l k).map fun e=>Sum.inl (e,(k:Int))) (t0:=.inr (0,(l.fNo.length:Int))) (fun k hk=>by
   unfold fT;dsimp only
   rw[d6 (by omega),gPo (by omega)]
   simp only[aX hk,rin_eq,pZ hn,oB,a4 (show k<9223372036854775807 by omega)]
   unfold errN qu
   rw[bj hk]
   by_cases h1:1≤l.fNo[k].fID∧l.fNo[k].fID≤1099511627776
   ·by_cases h2:0≤l.fNo[k].fLevel∧l.fNo[k].fLevel≤9
    ·by_cases h3:0≤l.fNo[k].fCost∧l.fNo[k].fCost≤1073741824
     ·by_cases h4:du l l.fNo[k].fID<(k:Int)
      ·simp[h1,h2,h3,h4]
      ·simp[h1,h2,h3,h4]
     ·simp[h1,h2,h3]
    ·simp[h1,h2]
   ·simp[h1]) (by
   unfold fT;dsimp only
   rw[dt (by omega)])
  have e0:aL (fT l) (0,0)=_:=hrun
  rw[e0,oB,kn (errN l) (fun k e=>Sum.inl (e,(k:Int))),lq (errN l)]
  cases hN:(List.range l.fNo.length).findSome? fun k=>(errN l k).map fun t=>(k,t)with
  | some p=>rfl
  | none =>
   dsimp only[Option.map_none]
   have hrun2:=bE (body:=fJ l) (fun k=>((0:Int),(k:Int))) l.fC.length (fun k=>(sZ l k).map fun e=>Sum.inl (e,(k:Int))) (t0:=.inr (0,(l.fC.length:Int))) (fun k hk=>by
    unfold fJ;dsimp only
    rw[d6 (by omega),gPo (by omega),aX hk,jl,rclaim_eq hn,oB,a4 (by omega)]
    unfold sZ
    rw[bj hk]
    by_cases h2:jb l l.fC[k]
    ·rw[decide_eq_true h2,if_neg (by simp),gPo (by omega),nK hc,oB,if_pos h2]
     by_cases h4:gP l l.fC[k].fID<(k:Int)
     ·rw[d6 h4,if_pos h4];rfl
     ·rw[dt h4,if_neg h4];rfl
    ·rw[decide_eq_false h2,if_pos (by rfl),if_neg h2];rfl) (by
    unfold fJ;dsimp only
    rw[dt (by omega)])
   have e1:aL (fJ l) (0,0)=_:=hrun2
   rw[e1,oB,kn (sZ l) (fun k e=>Sum.inl (e,(k:Int))),lq (sZ l)]
   cases hC:(List.range l.fC.length).findSome? fun k=>(sZ l k).map fun t=>(k,t)with
   | some p=>rfl
   | none =>
    have hC':=List.findSome?_eq_none_iff.1 hC
    dsimp only[Option.map_none]
    rw[rcount_eq (by omega) (fun k hk=>by
     have:=hC' k (List.mem_range.2 hk)
     unfold sZ at this
     rw[bj hk]at this
     unfold oO
     rw[bj hk]
     by_cases h2:jb l l.fC[k]
     ·exact h2.2.1.2
     ·rw[if_neg h2]at this;cases this),oB]
    by_cases h5:4096<nb l l.fC.length
    ·rw[if_pos (decide_eq_true h5),if_pos h5]
    ·rw[if_neg (by rw[decide_eq_false h5];simp),if_neg h5]
theorem has_eq {L:List Int} (hl:L.length<1000000000) (n:Int):mO L n=some (decide (n∈L)):=by
 unfold mO
 have hrun:=bE (body:=hQ L n) (fun k=>(false,(k:Int))) L.length (fun k=>if L.getD k 0=n then some (Sum.inl (true,(k:Int)))else none) (t0:=.inr (false,(L.length:Int))) (fun k hk=>by
  unfold hQ;dsimp only
  have eg:L.getD k 0=L[k]:=by rw[List.getD_eq_getElem?_getD,List.getElem?_eq_getElem hk];rfl
  rw[d6 (by omega),gPo (by omega),aX hk,eg,a4 (by omega)]
  by_cases e:L[k]=n <;> simp[e]) (by
  unfold hQ;dsimp only
  rw[dt (by omega)])
 have h0:aL (hQ L n) (false,0)=_:=hrun
 rw[h0,oB]
 rcases bM (R:=fun k=>if L.getD k 0=n then some (Sum.inl (true,(k:Int)):(Bool × Int) ⊕ (Bool × Int))else none) (n:=L.length) (.inr (false,(L.length:Int)))with⟨hn,h2⟩|⟨k,t,hk,hR,hj,h2⟩
 ·rw[h2]
  have:n∉L:=fun hm=>by
   obtain⟨k,hk,e⟩:=List.mem_iff_getElem.1 hm
   have:=hn k hk
   rw[List.getD_eq_getElem?_getD,List.getElem?_eq_getElem hk]at this
   simp[e]at this
  simp[this]
 ·rw[h2]
  have hq:L.getD k 0=n:=by
   by_cases hq:L.getD k 0=n
   ·exact hq
   ·rw[if_neg hq]at hR;cases hR
  rw[if_pos hq]at hR
  cases hR
  have:n∈L:=by
   rw[List.getD_eq_getElem?_getD,List.getElem?_eq_getElem hk]at hq
   rw[←hq]
   exact List.getElem_mem hk
  simp[this]
theorem nodeI_at {l:TL} (h:OkL l) {k:Nat} (hk:k<l.fNo.length):du l (l.fNo[k]).fID=(k:Int):=tb h.nd hk
theorem nodeI_k {l:TL} {q:Int} (hq:q∈IDs l):∃k,∃h:k<l.fNo.length,du l q=(k:Int)∧(l.fNo[k]).fID=q:=by
 have h0:=jN.2 hq
 obtain⟨k,hk⟩:=Int.eq_ofNat_of_zero_le h0
 have hlt:k<l.fNo.length:=by have:=fk l.fNo (fun n=>n.fID==q);unfold du at hk;omega
 refine⟨k,hlt,hk,?_⟩
 have:=idxI_get (l:=l.fNo) (q:=fun n=>n.fID==q) (by unfold du at h0;exact h0)
 unfold du at hk
 rw[hk,aX hlt]at this
 simpa using this
structure HoldsB (l:TL) (X:List Bool) (P:Int→Prop):Prop where
 len:X.length=l.fNo.length
 iff:∀k,(hk:k<l.fNo.length)→(rdL X (k:Int)=true↔P (l.fNo[k]).fID)
theorem HoldsB.at {l:TL} {X:List Bool} {P:Int→Prop} (h:HoldsB l X P) {q:Int} (hq:q∈IDs l):rdL X (du l q)=true↔P q:=by
 obtain⟨k,hk,e1,e2⟩:=nodeI_k hq
 rw[e1,h.iff k hk,e2]
theorem put_eq {L:List Int} (hl:L.length≤1000000) (hs:StrictI L) {n:Int} (hn:n∉L):∃R,qt L n=some R∧StrictI R∧(∀q,q∈R↔q=n∨q∈L)∧R.length=L.length+1:=by
 unfold qt
 have key:∃t,aL (lj L n) ((L.length:Nat):Int)=some t∧∃k:Nat,t=(k:Int)∧k≤L.length∧(∀j,(hj:j<L.length)→k≤j→n<L[j])∧(∀h0:0<k,(h1:k≤L.length)→L[k-1]'(by omega)≤n):=by
  refine mE (body:=lj L n) (fun s=>∃k:Nat,s=(k:Int)∧k≤L.length∧∀j,(hj:j<L.length)→k≤j→n<L[j]) (fun s t=>∃k:Nat,t=(k:Int)∧k≤L.length∧(∀j,(hj:j<L.length)→k≤j→n<L[j])∧(∀h0:0<k,(h1:k≤L.length)→L[k-1]'(by omega)≤n)) (fun s=>s.toNat) (fun s hs=>?_) _ ⟨L.length,O,Nat.le_refl _,fun j hj h=>by omega⟩
  obtain⟨k,rfl,i2,i3⟩:=hs
  unfold lj
  by_cases h0:0<k
  ·have ew:w64 ((k:Int)-1)=((k-1:Nat):Int):=by rw[iZ (by omega) (by omega)];omega
   have hlt:k-1<L.length:=by omega
   rw[d6 (by omega),ew,gPo (by omega),aX hlt,oB]
   by_cases hc:n<L[k-1]
   ·rw[if_pos (decide_eq_true hc)]
    refine .inl ⟨_,O,⟨k-1,O,by omega,fun j hj h=>?_⟩,by omega,fun t ht=>ht⟩
    by_cases e:j=k-1
    ·subst e;exact hc
    ·exact i3 j hj (by omega)
   ·rw[if_neg (by simp[hc])]
    exact .inr ⟨_,O,k,O,i2,i3,fun _ _=>by omega⟩
  ·rw[dt (by omega),oB,if_neg (by simp)]
   exact .inr ⟨_,O,k,O,i2,i3,fun h=>absurd h h0⟩
 obtain⟨t,t1,k,rfl,k2,k3,k4⟩:=key
 rw[t1,oB,gPo (by omega),Int.toNat_natCast,gPo (by omega),gPo (by omega),gPo (by omega),gPo (by omega)]
 refine⟨_,O,?_,fun q=>?_,?_⟩
 ·rw[List.nil_append,List.append_assoc]
  unfold StrictI at hs ⊢
  have hpw:=List.pairwise_iff_getElem.1 hs
  rw[List.pairwise_append]
  refine⟨hs.sublist (List.take_sublist _ _),?_,fun a ha b hb=>?_⟩
  ·rw[List.singleton_append,List.pairwise_cons]
   refine⟨fun b hb=>?_,hs.sublist (List.drop_sublist _ _)⟩
   obtain⟨j,hj,rfl⟩:=List.mem_iff_getElem.1 hb
   rw[List.getElem_drop]
   rw[List.length_drop]at hj
   exact k3 _ (by omega) (by omega)
  ·obtain⟨j,hj,rfl⟩:=List.mem_take_iff_getElem.1 ha
   have hlt:L[j]'(by omega)<n:=by
    have h1:=k4 (by omega) k2
    have hne:L[j]'(by omega)≠n:=fun e=>hn (e▸List.getElem_mem _)
    by_cases e:j=k-1
    ·subst e;omega
    ·have:=hpw j (k-1) (by omega) (by omega) (by omega)
     omega
   rw[List.singleton_append]at hb
   rcases List.mem_cons.1 hb with rfl|hb
   ·exact hlt
   ·obtain⟨i,hi,rfl⟩:=List.mem_iff_getElem.1 hb
    rw[List.getElem_drop]
    rw[List.length_drop]at hi
    have:=k3 (k+i) (by omega) (by omega)
    omega
 ·rw[List.nil_append,List.append_assoc,List.mem_append,List.mem_append,List.mem_singleton]
  have hsplit:=List.take_append_drop k L
  have:q∈L↔q∈L.take k∨q∈L.drop k:=by
   rw[←List.mem_append,hsplit]
  rw[this]
  exact⟨fun h=>by rcases h with h|h|h;exact .inr (.inl h);exact .inl h;exact .inr (.inr h),fun h=>by rcases h with h|h|h;exact .inr (.inl h);exact .inl h;exact .inr (.inr h)⟩
 ·simp
  omega
theorem putLoop {l:TL} (h:OkL l) (P:Nat→Prop) [∀k,Decidable (P k)] {body:(Int × List Int)→Option ((Int × List Int) ⊕ (Int × List Int))} (hb:∀k,(hk:k<l.fNo.length)→∀L:List Int,body ((k:Int),L)=if P k then(qt L (l.fNo[k]).fID).bind fun y=>some (.inl (((k+1:Nat):Int),y))else some (.inl (((k+1:Nat):Int),L))) (hs:∀L:List Int,body ((l.fNo.length:Int),L)=some (.inr ((l.fNo.length:Int),L))) :
  ∃t,aL body (0,[])=some t∧StrictI t.2∧(∀q,q∈t.2↔∃k,∃hk:k<l.fNo.length,P k∧(l.fNo[k]).fID=q)∧t.2.length≤l.fNo.length:=by
 have hnn:=h.nn
 refine mE (body:=body) (fun s=>∃k:Nat,s.1=(k:Int)∧k≤l.fNo.length∧StrictI s.2∧(∀q,q∈s.2↔∃j,∃hj:j<l.fNo.length,j<k∧P j∧(l.fNo[j]).fID=q)∧s.2.length≤k) (fun s t=>StrictI t.2∧(∀q,q∈t.2↔∃k,∃hk:k<l.fNo.length,P k∧(l.fNo[k]).fID=q)∧t.2.length≤l.fNo.length) (fun s=>((l.fNo.length:Int)-s.1).toNat) (fun s hs'=>?_) _ ⟨0,O,by omega,List.Pairwise.nil,fun q=>by simp,by simp⟩
 obtain⟨ki,L⟩:=s
 obtain⟨k,i1,i2,i3,i4,i5⟩:=hs'
 dsimp only at i1 i3 i4 i5 ⊢
 subst i1
 by_cases hk:k<l.fNo.length
 ·rw[hb k hk L]
  by_cases hP:P k
  ·have hnot:(l.fNo[k]).fID∉L:=fun hm=>by
    obtain⟨j,hj,hjk,_,e⟩:=(i4 _).1 hm
    have a1:=nodeI_at h hj
    have a2:=nodeI_at h hk
    rw[e,a2]at a1
    omega
   obtain⟨R,r1,r2,r3,r4⟩:=put_eq (by omega) i3 hnot
   rw[if_pos hP,r1,oB]
   refine .inl ⟨_,O,⟨k+1,O,by omega,r2,fun q=>?_,by dsimp only;omega⟩,by dsimp only;omega,fun t ht=>ht⟩
   dsimp only
   rw[r3,i4]
   constructor
   ·rintro(rfl|⟨j,hj,a,b⟩)
    ·exact⟨k,hk,by omega,hP,O⟩
    ·exact⟨j,hj,by omega,b⟩
   ·rintro⟨j,hj,a,b,e⟩
    by_cases ej:j=k
    ·subst ej;exact .inl e.symm
    ·exact .inr ⟨j,hj,by omega,b,e⟩
  ·rw[if_neg hP]
   refine .inl ⟨_,O,⟨k+1,O,by omega,i3,fun q=>?_,by dsimp only;omega⟩,by dsimp only;omega,fun t ht=>ht⟩
   dsimp only
   rw[i4]
   constructor
   ·rintro⟨j,hj,a,b⟩
    exact⟨j,hj,by omega,b⟩
   ·rintro⟨j,hj,a,b,e⟩
    by_cases ej:j=k
    ·subst ej;exact absurd b hP
    ·exact⟨j,hj,by omega,b,e⟩
 ·have e:k=l.fNo.length:=by omega
  subst e
  rw[hs L]
  refine .inr ⟨_,O,i3,fun q=>?_,i5⟩
  dsimp only
  rw[i4]
  exact⟨fun⟨j,hj,_,b⟩=>⟨j,hj,b⟩,fun⟨j,hj,b⟩=>⟨j,hj,hj,b⟩⟩
theorem rising_eq {F:List Int} (hl:F.length<1000000000):∃b,jT F=some b∧(b=true↔StrictI F):=by
 unfold jT
 rcases F with _|⟨x,T⟩
 ·refine⟨true,?_,fun _=>List.Pairwise.nil,fun _=>O⟩
  have:aL (df []) (false,1)=some (.inr (false,1)):=by
   refine ci ?_
   unfold df;dsimp only
   rw[dt (by simp)]
  rw[this]
  rfl
 ·generalize hF:x::T=F at hl ⊢
  have hpos:0<F.length:=by subst hF;simp
  have hrun:=bE (body:=df F) (fun k=>(false,((k+1:Nat):Int))) (F.length-1) (fun k=>if F.getD k 0<F.getD (k+1) 0 then none else some (Sum.inl (false,((k+1:Nat):Int)))) (t0:=.inr (false,(F.length:Int))) (fun k hk=>by
   have eg:F.getD k 0=F[k]'(by omega):=by rw[List.getD_eq_getElem?_getD,List.getElem?_eq_getElem (by omega)];rfl
   have eg1:F.getD (k+1) 0=F[k+1]'(by omega):=by rw[List.getD_eq_getElem?_getD,List.getElem?_eq_getElem (by omega)];rfl
   have ew:w64 (((k+1:Nat):Int)-1)=(k:Int):=by rw[iZ (by omega) (by omega)];omega
   unfold df;dsimp only
   rw[d6 (by omega),gPo (by omega),ew,gPo (by omega),aX (show k+1<F.length by omega),aX (show k<F.length by omega),a4 (by omega),eg,eg1]
   by_cases e:F[k]'(by omega)<F[k+1]'(by omega)
   ·rw[dt (by omega),if_pos e]
   ·rw[d6 (by omega),if_neg e]) (by
   unfold df;dsimp only
   rw[show F.length-1+1=F.length by omega,dt (by omega)])
  have h0:aL (df F) (false,1)=_:=hrun
  rw[h0,oB]
  rcases bM (R:=fun k=>if F.getD k 0<F.getD (k+1) 0 then none else some (Sum.inl (false,((k+1:Nat):Int)):(Bool × Int) ⊕ (Bool × Int))) (n:=F.length-1) (.inr (false,(F.length:Int)))with⟨hn,h2⟩|⟨k,t,hk,hR,hj,h2⟩
  ·rw[h2]
   refine⟨true,O,fun _=>ro (fun k hk=>?_),fun _=>O⟩
   have:=hn k (by omega)
   rw[List.getD_eq_getElem?_getD,List.getD_eq_getElem?_getD,List.getElem?_eq_getElem (show k<F.length by omega),List.getElem?_eq_getElem hk]at this
   split at this
   ·assumption
   ·cases this
  ·rw[h2]
   have hq:¬F.getD k 0<F.getD (k+1) 0:=fun hq=>by rw[if_pos hq]at hR;cases hR
   rw[if_neg hq]at hR
   cases hR
   refine⟨false,O,fun h=>(by cases h),fun hs=>(hq ?_).elim⟩
   rw[List.getD_eq_getElem?_getD,List.getD_eq_getElem?_getD,List.getElem?_eq_getElem (show k<F.length by omega),List.getElem?_eq_getElem (show k+1<F.length by omega)]
   exact List.pairwise_iff_getElem.1 hs k (k+1) (by omega) (by omega) (by omega)
def caseAt (l:TL) (c:List Int) (k:Nat):Prop:=0≤c.getD k 0∧c.getD k 0≤((oO l k).length:Int)-1
instance (l:TL) (c:List Int) (k:Nat):Decidable (caseAt l c k):=by unfold caseAt;infer_instance
def cidI (l:TL) (i:Nat):Int:=(l.fC.getD i default).fID
def sX (l:TL) (c:List Int) (x:Int→Bool):Nat→Nat→Bool:=fun i k=>sC c i k && !(x (cidI l i))
def EX' (l:TL) (c:List Int) (x:Int→Bool):List TH:=Ed l (sX l c x)
def Open (l:TL) (F:List Int) (to:Int) (x:Int→Bool):Prop:=∃c∈sCs l,Comes (EX' l c x) F to
theorem mem_EX {l:TL} {c:List Int} (hc:c∈sCs l) {x:Int→Bool} {h:TH}:h∈EX' l c x↔∃i,i<l.fC.length∧x (cidI l i)=false∧pick l c i=h:=by
 unfold EX' Ed sX
 rw[p7]
 have hm:=(mem_Cs.1 hc).2
 constructor
 ·rintro⟨i,k,hi,hk,hs,e⟩
  rw[Bool.and_eq_true]at hs
  refine⟨i,hi,by simpa using hs.2,?_⟩
  have hs1:=hs.1
  unfold sC at hs1
  rw[mY]at hs1
  have:c.getD i 0=(k:Int):=by simpa using hs1
  unfold pick
  rw[this]
  exact e
 ·rintro⟨i,hi,hx,e⟩
  obtain⟨h1,h2⟩:=hm i hi
  refine⟨i,(c.getD i 0).toNat,hi,by omega,?_,e⟩
  unfold sC
  rw[mY,Int.toNat_of_nonneg h1,beq_self_eq_true,hx]
  rfl
theorem Open.mono {l:TL} {F:List Int} {to:Int} {x y:Int→Bool} (h:∀q,y q=true→x q=true) (ho:Open l F to x):Open l F to y:=by
 obtain⟨c,hc,hq⟩:=ho
 refine⟨c,hc,Comes.mono (fun e he=>?_) (fun z hz=>hz) hq⟩
 obtain⟨i,hi,hx,e⟩:=(mem_EX hc).1 he
 refine(mem_EX hc).2 ⟨i,hi,?_,e⟩
 cases hy:y (cidI l i)
 ·rfl
 ·rw[h _ hy]at hx;cases hx
def CIDs (l:TL):List Int:=l.fC.map (·.fID)
theorem bool_decb {P Q:Prop} [Decidable P] [Decidable Q] (h:P↔Q):decide P=decide Q:=by
 by_cases hp:P
 ·rw[decide_eq_true hp,decide_eq_true (h.1 hp)]
 ·rw[decide_eq_false hp,decide_eq_false (fun hq=>hp (h.2 hq))]
theorem IndexInt_eq {s:List Int} (hl:s.length<1000000000) (v:Int):bZ s v=some (rt s (fun x=>v==x)):=by
 unfold bZ
 have:=bE (body:=bl s v) (fun k=>((0:Int),(k:Int))) s.length (fun k=>if(v==s.getD k default)=true then some (Sum.inl ((k:Int),(k:Int)))else none) (t0:=.inr (0,(s.length:Int))) (fun k hk=>by
  unfold bl;dsimp only
  rw[d6 (by omega),gPo (by omega),aX hk,bj hk,a4 (by omega)]
  cases (v==s[k]) <;> rfl) (by
  unfold bl;dsimp only
  rw[dt (by omega)])
 have h0:aL (bl s v) (0,0)=_:=this
 rw[h0,oB]
 exact mU s (fun x=>v==x)
theorem tj {s:List Int} (hl:s.length<1000000000) (v:Int):a5 s v=some (decide (v∈s)):=by
 unfold a5
 rw[IndexInt_eq hl,oB]
 refine congrArg some (bool_decb ?_)
 rw[mi]
 simp
structure CutOf (l:TL) (F:List Int) (to:Int) (C:List Int):Prop where
 st:StrictI C
 sub:∀x∈C,x∈CIDs l
 len:C.length≤12
 cut:¬Open l F to (fun q=>decide (q∈C))
 min:∀x∈C,Open l F to (fun q=>decide (q∈C∧q≠x))
theorem rN {s:List TC} (hl:s.length<1000000) {f:TC→Option Bool} (q:TC→Bool) (h:∀x∈s,f x=some (q x)):bJ s f=some (s.filter fun x => !q x):=by
 unfold bJ
 rw[nJ (by omega) h,oB]
 rcases hZ s q with⟨ha,h2⟩|⟨k0,hk0,hq0,hb,h2⟩
 ·rw[h2,if_pos (by rfl)]
  refine congrArg some ?_
  exact(List.filter_eq_self.2 (fun x hx=>by rw[ha x hx];rfl)).symm
 ·rw[h2,if_neg (by simp),a4 (by omega)]
  have key:∃t,aL (bn s f) ((k0:Int),((k0+1:Nat):Int),s)=some t∧∃i:Nat,t.1=(i:Int)∧i≤s.length∧t.2.2.take i=s.filter fun x => !q x:=by
   refine mE (body:=bn s f) (fun st=>∃i j:Nat,st.1=(i:Int)∧st.2.1=(j:Int)∧i<j∧j≤s.length∧st.2.2.length=s.length∧st.2.2.take i=(s.take j).filter (fun x => !q x)∧st.2.2.drop j=s.drop j) (fun st t=>∃i:Nat,t.1=(i:Int)∧i≤s.length∧t.2.2.take i=s.filter fun x => !q x) (fun st=>((s.length:Int)-st.2.1).toNat) (fun st hst=>?_) _ ⟨k0,k0+1,O,O,by omega,by omega,O,?_,O⟩
   ·obtain⟨a,b,xs⟩:=st
    obtain⟨i,j,i1,i2,i3,i4,i5,i6,i7⟩:=hst
    dsimp only at i1 i2 i5 i6 i7 ⊢
    subst i1 i2
    unfold bn;dsimp only
    by_cases hj:j<s.length
    ·have hx:xs[j]'(by omega)=s[j]:=by
      have e1:=congrArg (fun z=>z[0]?) i7
      simp only[List.getElem?_drop,Nat.add_zero]at e1
      rw[List.getElem?_eq_getElem (by omega),List.getElem?_eq_getElem hj]at e1
      exact Option.some.inj e1
     have hd:xs.drop (j+1)=s.drop (j+1):=by rw[←List.drop_drop,i7,List.drop_drop]
     rw[d6 (by omega),gPo (by omega),aX (by omega:j<xs.length),jl,hx,h _ (List.getElem_mem hj),oB,a4 (k:=j) (by omega)]
     cases hqj:q s[j]with
     | true =>
      rw[if_neg (by simp)]
      refine .inl ⟨_,O,⟨i,j+1,O,O,by omega,by omega,i5,?_,hd⟩,by dsimp only;omega,fun t ht=>ht⟩
      dsimp only
      rw[List.take_succ_eq_append_getElem hj,List.filter_append,i6]
      simp[hqj]
     | false =>
      rw[if_pos (by rfl),gPo (by omega),a4 (by omega),Int.toNat_natCast]
      refine .inl ⟨_,O,⟨i+1,j+1,O,O,by omega,by omega,by dsimp only;rw[List.length_set];exact i5,?_,?_⟩,by dsimp only;omega,fun t ht=>ht⟩
      ·dsimp only
       rw[List.take_succ_eq_append_getElem hj,List.filter_append,←i6,List.take_succ_eq_append_getElem (by rw[List.length_set];omega),List.take_set_of_le (Nat.le_refl _),List.getElem_set_self]
       simp[hqj]
      ·dsimp only
       rw[List.drop_set_of_lt (by omega)]
       exact hd
    ·have ej:j=s.length:=by omega
     rw[dt (by omega)]
     refine .inr ⟨_,O,i,O,by omega,?_⟩
     dsimp only
     rw[i6,ej,List.take_length]
   ·dsimp only
    rw[List.take_succ_eq_append_getElem hk0,List.filter_append]
    have:((s.take k0).filter fun x => !q x)=s.take k0:=List.filter_eq_self.2 (fun x hx=>by
     obtain⟨j,hj,rfl⟩:=List.mem_take_iff_getElem.1 hx
     rw[hb j (by omega)]
     rfl)
    rw[this]
    simp[hq0]
  obtain⟨t,t1,i,t2,t3,t4⟩:=key
  rw[t1,oB,t2,gPo (by omega),gPo (by omega),Int.toNat_natCast,t4]
def less (l:TL) (x:Int→Bool):TL:=⟨l.fNo,l.fC.filter fun y => !x y.fID⟩
end Go.Proofs.YtbblpokfbmekfaaGreat
namespace Go.Proofs.YtbblpokfbmekfaaGreat
theorem tk {l:TL} (hc:l.fC.length≤1000) {S:List Int} (hS:S.length≤1000):gt l S=some (less l (fun q=>decide (q∈S))):=by
 unfold gt
 have hrun:=f6 (body:=d9 l S) (fun k=>((k:Int),(l.fC.take k).filter fun y => !decide (y.fID∈S))) l.fC.length (t:=((l.fC.length:Int),l.fC.filter fun y => !decide (y.fID∈S))) (fun k hk=>by
  have hl:=List.length_filter_le (fun y:TC => !decide (y.fID∈S)) (l.fC.take k)
  rw[List.length_take]at hl
  unfold d9;dsimp only
  rw[d6 (by omega),gPo (by omega),aX hk,has_eq (by omega),oB,a4 (by omega),List.take_succ_eq_append_getElem hk,List.filter_append]
  by_cases e:l.fC[k].fID∈S
  ·rw[decide_eq_true e,if_neg (by simp)]
   simp[e]
  ·rw[decide_eq_false e,if_pos (by rfl),gPo (by omega),gPo (by omega),jl]
   simp[e]) (by
  unfold d9;dsimp only
  rw[dt (by omega),List.take_length])
 have e0:aL (d9 l S) (0,[])=_:=hrun
 rw[e0]
 rfl
theorem links_eq {l:TL} (hc:l.fC.length<1000000000) {C:List Int} (hl:C.length<1000000000):∃b,gG l C=some b∧(b=true↔(∀x∈C,x∈CIDs l)∧StrictI C):=by
 obtain⟨b,h1,h2⟩:=nV hl (so:=fun x3=>eh x3 l) (fun x=>0≤gP l x) (fun x hx=>by
  unfold eh
  rw[mN hc]
  rfl)
 unfold gG
 rw[h1]
 exact⟨b,O,h2.trans ⟨fun h=>⟨fun x hx=>lp.1 (h.1 x hx),h.2⟩,fun h=>⟨fun x hx=>lp.2 (h.1 x hx),h.2⟩⟩⟩
theorem rclaims_eq {l:TL} (hc:l.fC.length<1000000000) {C:List Int} (hl:C.length<1000000000):∃b,jW l C=some b∧(b=true↔(∀x∈C,x∈CIDs l)∧StrictI C):=by
 unfold jW
 have hrun:=bE (body:=eX l C) (fun k=>(false,(k:Int))) C.length (fun k=>if gP l (C.getD k 0)<0 then some (Sum.inl (false,(k:Int)))else none) (t0:=.inr (false,(C.length:Int))) (fun k hk=>by
  have eg:C.getD k 0=C[k]:=by rw[List.getD_eq_getElem?_getD,List.getElem?_eq_getElem hk];rfl
  unfold eX;dsimp only
  rw[d6 (by omega),gPo (by omega),aX hk,nK hc,oB,eg,a4 (by omega)]
  by_cases e:gP l C[k]<0
  ·rw[d6 e,if_pos e]
  ·rw[dt e,if_neg e]) (by
  unfold eX;dsimp only
  rw[dt (by omega)])
 have h0:aL (eX l C) (false,0)=_:=hrun
 rw[h0,oB]
 rcases bM (R:=fun k=>if gP l (C.getD k 0)<0 then some (Sum.inl (false,(k:Int)):(Bool × Int) ⊕ (Bool × Int))else none) (n:=C.length) (.inr (false,(C.length:Int)))with⟨hno,h2⟩|⟨k,t,hk,hR,hj,h2⟩
 ·rw[h2]
  have hall:∀x∈C,x∈CIDs l:=fun x hx=>by
   obtain⟨k,hk,rfl⟩:=List.mem_iff_getElem.1 hx
   have:=hno k hk
   rw[List.getD_eq_getElem?_getD,List.getElem?_eq_getElem hk]at this
   split at this
   ·cases this
   ·rename_i hh
    exact lp.1 (by simp only[Option.getD_some]at hh;omega)
  dsimp only
  obtain⟨b,b1,b2⟩:=rising_eq hl
  rw[b1]
  exact⟨b,O,b2.trans ⟨fun h=>⟨hall,h⟩,fun h=>h.2⟩⟩
 ·rw[h2]
  have hq:gP l (C.getD k 0)<0:=by
   by_cases hq:gP l (C.getD k 0)<0
   ·exact hq
   ·rw[if_neg hq]at hR;cases hR
  rw[if_pos hq]at hR
  cases hR
  refine⟨false,O,fun h=>(by cases h),fun h=>?_⟩
  rw[List.getD_eq_getElem?_getD,List.getElem?_eq_getElem hk]at hq
  have:=lp.2 (h.1 _ (List.getElem_mem hk))
  simp only[Option.getD_some]at hq
  omega
theorem nk {a b:List TH} (hl:a.length≤1000000000):dH a b=some (decide (a=b)):=by
 unfold dH
 by_cases hlen:a.length=b.length
 ·rw[if_neg (by simp;omega)]
  have hinv:=mE (body:=gq a b)
   (fun s=>∃k:Nat,s=(false,(k:Int))∧k≤a.length∧∀i,(hi:i<a.length)→(hi2:i<b.length)→i<k→a[i]=b[i])
   (fun _ out=>match out with
    | .inl u=>u.1=false∧a≠b
    | .inr _=>a=b)
   (fun s=>a.length-s.2.toNat) (by
    rintro _ ⟨k,rfl,hk,hall⟩
    unfold gq;dsimp only
    rcases Nat.lt_or_ge k a.length with hlt|hge
    ·rw[d6 (by omega),gPo (by omega),gPo (by omega),hop_eq,aX hlt,aX (show k<b.length by omega),a4 (by omega)]
     by_cases e:a[k]=b[k]
     ·rw[decide_eq_true e,if_neg (by simp)]
      refine .inl ⟨_,O,⟨k+1,O,hlt,fun i hi hi2 h=>?_⟩,by dsimp only;omega,fun t h=>h⟩
      by_cases e2:i=k
      ·subst e2;exact e
      ·exact hall i hi hi2 (by omega)
     ·rw[decide_eq_false e,if_pos (by rfl)]
      exact .inr ⟨_,O,O,fun h=>e (by subst h;rfl)⟩
    ·rw[dt (by omega)]
     exact .inr ⟨_,O,List.ext_getElem hlen fun i h1 h2=>hall i h1 h2 (by omega)⟩) (false,0) ⟨0,O,Nat.zero_le _,fun i hi hi2 h=>by omega⟩
  obtain⟨out,hr,hp⟩:=hinv
  rw[hr,oB]
  rcases out with u|u
  ·dsimp only at hp ⊢
   rw[hp.1,decide_eq_false hp.2]
  ·dsimp only at hp ⊢
   rw[decide_eq_true hp]
 ·rw[if_pos (by simp;omega),decide_eq_false fun h=>hlen (by rw[h])]
theorem Equal_same (a b:List TH):eP a b=dH a b:=rfl
structure Sz (l:TL):Prop where
 n:l.fNo.length≤1000
 c:l.fC.length≤1000
 o:∀x∈l.fC,x.fO.length≤1000000000
theorem gV {l:TL} (h:Sz l):cx l l=some true:=by
 have hn:=h.n
 have hc:=h.c
 unfold cx
 rw[if_neg (by simp)]
 have h1:=f6 (body:=cP l l) (fun k=>(false,(k:Int))) l.fNo.length (t:=.inr (false,(l.fNo.length:Int))) (fun k hk=>by
  unfold cP;dsimp only
  rw[d6 (by omega),gPo (by omega),gPo (by omega),if_neg (by simp),a4 (by omega)]) (by
  unfold cP;dsimp only
  rw[dt (by omega)])
 have h2:=f6 (body:=cO l l) (fun k=>(false,(k:Int))) l.fC.length (t:=.inr (false,(l.fC.length:Int))) (fun k hk=>by
  unfold cO;dsimp only
  rw[d6 (by omega),gPo (by omega),gPo (by omega),aX hk,nk (h.o _ (List.getElem_mem hk)),oB,gPo (by omega),gPo (by omega),if_neg (by simp),a4 (by omega)]) (by
  unfold cO;dsimp only
  rw[dt (by omega)])
 have e1:aL (cP l l) (false,0)=_:=h1
 have e2:aL (cO l l) (false,0)=_:=h2
 rw[e1,oB]
 dsimp only
 rw[e2,oB]
theorem Sz.nil:Sz ⟨[],[]⟩:=⟨by simp,by simp,fun x hx=>by cases hx⟩
theorem OkL.sz {l:TL} (h:OkL l):Sz l:=⟨by have:=h.nn;omega,by have:=h.nc;omega,fun x hx=>by have:=(h.claims x hx).2.1.2;omega⟩
theorem setO_sz {l:TL} (h:OkL l) (i:Nat) {o:List TH} (ho:o.length≤1000000000):Sz (setO l i o):=by
 refine⟨h.sz.n,by rw[setO_len];exact h.sz.c,fun x hx=>?_⟩
 rcases List.mem_or_eq_of_mem_set hx with q|rfl
 ·exact h.sz.o x q
 ·exact ho
theorem rs (l:TL) (link h:Int):g9 l link h=dE l link h:=by
 unfold g9 dE
 rw[mF,mj,oB,oB]
 by_cases h0:dW l=0
 ·have hok:=lm.1 h0
  have:=hok.nc
  rw[if_neg (by simp[h0]),if_neg (by simp[h0]),nK (by omega),mN (by omega),oB,oB]
  simp only[rin_eq,mM]
 ·rw[if_pos (by simp[h0]),if_pos (by simp[h0])]
theorem rtold_eq {l:TL} (h:OkL l) {i:Nat} (hi:i<l.fC.length) (o:List TH):kw l (i:Int) o=some (setO l i o):=by
 have hc:=h.nc
 unfold kw
 have hrun:=f6 (body:=gw l (i:Int) o) (fun k=>((k:Int),(l.fC.set i ⟨(l.fC.getD i default).fID,o⟩).take k)) l.fC.length (t:=((l.fC.length:Int),l.fC.set i ⟨(l.fC.getD i default).fID,o⟩)) (fun k hk=>by
  have hl:(l.fC.set i ⟨(l.fC.getD i default).fID,o⟩).length=l.fC.length:=List.length_set
  unfold gw;dsimp only
  rw[d6 (by omega),gPo (by omega),aX hk,a4 (by omega),List.take_succ_eq_append_getElem (show k<(l.fC.set i ⟨(l.fC.getD i default).fID,o⟩).length by omega),gPo (by rw[List.length_take];omega),gPo (by rw[List.length_take];omega),List.getElem_set]
  by_cases e:k=i
  ·subst e
   rw[if_pos (by simp),if_pos O,bj hk]
  ·rw[if_neg (by simp;omega),if_neg (by omega)]) (by
  unfold gw;dsimp only
  rw[dt (by omega),List.take_of_length_le (by rw[List.length_set];exact Nat.le_refl _)])
 have h0:aL (gw l (i:Int) o) (0,[])=_:=hrun
 rw[h0]
 rfl
theorem Told_both (l:TL) (link h:Int):∃m e,kH l link h=some (m,e)∧lM l link h=some ⟨m,e⟩∧Sz m:=by
 unfold kH lM
 rw[rs]
 rcases sg l link h with⟨e,he,hr⟩|⟨i,hi,hok,_,h0,h1,hr⟩
 ·rw[hr,oB,oB,if_pos (by simp[he]),if_pos (by simp[he])]
  exact⟨_,_,O,O,Sz.nil⟩
 ·have hle:=(kA hok hi).1
  have ho:(rdL l.fC (i:Int)).fO=oO l i:=by rw[aX hi];unfold oO;rw[bj hi]
  rw[hr,oB,oB,if_neg (by simp),if_neg (by simp),ho,iZ (by omega) (by omega),gPo (by omega),gPo (by omega),gPo (by omega),gPo (by omega),told_eq hok hi (by rw[List.length_take,List.length_drop];omega),rtold_eq hok hi,oB,oB]
  exact⟨_,_,O,O,setO_sz hok i (by rw[List.length_take,List.length_drop];omega)⟩
theorem tf (l:TL) (link h:Int):∃m e,iN l link h=some (m,e)∧jV l link h=some ⟨m,e⟩∧Sz m:=by
 unfold iN jV
 rw[rs]
 rcases sg l link h with⟨e,he,hr⟩|⟨i,hi,hok,_,h0,h1,hr⟩
 ·rw[hr,oB,oB,if_pos (by simp[he]),if_pos (by simp[he])]
  exact⟨_,_,O,O,Sz.nil⟩
 ·have hle:=(kA hok hi).1
  have ho:(rdL l.fC (i:Int)).fO=oO l i:=by rw[aX hi];unfold oO;rw[bj hi]
  obtain⟨k,rfl⟩:=Int.eq_ofNat_of_zero_le h0
  have hrun:=f6 (body:=fc l (k:Int) ((i:Int),0)) (fun j=>((j:Int),if j≤k then(oO l i).take j else(oO l i).take k++((oO l i).take j).drop (k+1))) (oO l i).length (t:=(((oO l i).length:Int),(oO l i).take k++(oO l i).drop (k+1))) (fun j hj=>by
   unfold fc;dsimp only
   rw[gPo (by omega),gPo (by omega),ho,d6 (by omega),gPo (by omega),aX hj,a4 (by omega)]
   rcases Nat.lt_trichotomy j k with q|q|q
   ·rw[if_pos (show j≤k by omega),if_pos (show j+1≤k by omega),if_pos (by simp;omega),gPo (by rw[List.length_take];omega),List.take_succ_eq_append_getElem hj]
   ·subst q
    rw[if_neg (by simp),if_pos (Nat.le_refl _),if_neg (show ¬j+1≤j by omega),List.drop_of_length_le (by rw[List.length_take];omega),List.append_nil]
   ·rw[if_neg (show ¬j≤k by omega),if_neg (show ¬j+1≤k by omega),if_pos (by simp;omega),gPo (by rw[List.length_append,List.length_take,List.length_drop,List.length_take];omega),List.take_succ_eq_append_getElem hj,List.drop_append_of_le_length (by rw[List.length_take];omega),List.append_assoc]) (by
   unfold fc;dsimp only
   rw[gPo (by omega),ho,dt (by omega),if_neg (show ¬(oO l i).length≤k by omega),List.take_length])
  have e0:aL (fc l (k:Int) ((i:Int),0)) (0,[])=_:=hrun
  have hd:dg (oO l i) (k:Int) ((k+1:Nat):Int)=some ((oO l i).take k++(oO l i).drop (k+1)):=by
   unfold dg
   rw[gPo (by omega),if_neg (by simp;omega),gPo (by omega),gPo (by omega),gPo (by omega),Int.toNat_natCast,Int.toNat_natCast]
  rw[hr,oB,oB,if_neg (by simp),if_neg (by simp),gPo (by omega),ho,nf (by omega),oB]
  rw[a4 (by omega),hd,oB]
  dsimp only
  rw[e0,oB]
  by_cases hz:((oO l i).take k++(oO l i).drop (k+1)).length=0
  ·rw[if_pos (by simp only[hz];rfl),if_pos (by simp only[hz];rfl)]
   exact⟨_,_,O,O,Sz.nil⟩
  ·have hlo:((oO l i).take k++(oO l i).drop (k+1)).length≤1000000000:=by rw[List.length_append,List.length_take,List.length_drop];omega
   rw[if_neg (by simp only[beq_iff_eq];omega),if_neg (by simp only[beq_iff_eq];omega),told_eq hok hi hlo,rtold_eq hok hi,oB,oB]
   exact⟨_,_,O,O,setO_sz hok i hlo⟩
theorem sh (l:TL) {C:List Int} (hC:C.length≤1000):∃m e,gK l C=some (m,e)∧iu l C=some ⟨m,e⟩∧Sz m:=by
 unfold gK iu
 rw[mF,mj,oB,oB]
 by_cases h0:dW l=0
 ·have hok:=lm.1 h0
  have hc:=hok.nc
  obtain⟨b,b1,b2⟩:=links_eq (l:=l) (by omega) (C:=C) (by omega)
  obtain⟨c,c1,c2⟩:=rclaims_eq (l:=l) (by omega) (C:=C) (by omega)
  have:b=c:=by rw[Bool.eq_iff_iff,b2,c2]
  subst this
  rw[if_neg (by simp[h0]),if_pos (by simp[h0]),b1,c1,oB,oB,oB]
  cases b with
  | false =>
   rw[if_pos (by rfl),if_pos (by rfl),if_pos (by rfl)]
   exact⟨_,_,O,O,Sz.nil⟩
  | true =>
   rw[if_neg (by simp),if_neg (by simp),if_neg (by simp[h0]),hok.copied,oB,rN (by omega) (fun x=>decide (x.fID∈C)) (fun x hx=>by
    unfold fx
    rw[tj (by omega)]
    rfl),oB,tk (by omega) hC,oB]
   refine⟨_,_,O,O,hok.sz.n,?_,fun x hx=>hok.sz.o x (List.mem_filter.1 hx).1⟩
   have:=List.length_filter_le (fun y:TC => !decide (y.fID∈C)) l.fC
   show(l.fC.filter fun y => !decide (y.fID∈C)).length≤1000
   omega
 ·rw[if_pos (by simp[h0]),if_neg (by simp[h0]),oB,if_neg (by simp),if_pos (by simp[h0])]
  exact⟨_,_,O,O,Sz.nil⟩
theorem orJ {b c:Bool}:(if b=true then(some true)else(some c))=some (b||c):=by cases b <;> rfl
def clN (a:TL) (n:TN):Bool:=decide (0≤du a n.fID) && !decide (rdL a.fNo (du a n.fID)=n)
def clC (a:TL) (x:TC):Bool:=decide (0≤gP a x.fID) && !decide ((rdL a.fC (gP a x.fID)).fO=x.fO)
def r9 (a:TL) (n:TN):Bool:=decide (du a n.fID<0)
def sc (a:TL) (x:TC):Bool:=decide (gP a x.fID<0)
theorem node_eq (a b:TN):((a.fID==b.fID)&&((a.fLevel==b.fLevel)&&(a.fCost==b.fCost)))=decide (a=b):=by
 rw[Bool.eq_iff_iff]
 simp only[Bool.and_eq_true,beq_iff_eq,decide_eq_true_eq]
 cases a
 cases b
 simp
theorem JoinN_ok {a b:TL} (ha:OkL a) (hb:OkL b):aL (fS a b) (false,0,a.fNo)=some (b.fNo.any (clN a),(b.fNo.length:Int),a.fNo++b.fNo.filter (r9 a)):=by
 have h1:=ha.nn
 have h2:=hb.nn
 have hrun:=f6 (body:=fS a b) (fun k=>((b.fNo.take k).any (clN a),(k:Int),a.fNo++(b.fNo.take k).filter (r9 a))) b.fNo.length (t:=(b.fNo.any (clN a),(b.fNo.length:Int),a.fNo++b.fNo.filter (r9 a))) (fun k hk=>by
  have hl:=List.length_filter_le (r9 a) (b.fNo.take k)
  rw[List.length_take]at hl
  have hlt:=fk a.fNo (fun n=>n.fID==(b.fNo[k]).fID)
  unfold fS;dsimp only
  rw[d6 (by omega),gPo (by omega),aX hk,nr (by omega),oB,a4 (by omega),List.take_succ_eq_append_getElem hk,List.filter_append,List.any_append]
  by_cases hneg:du a (b.fNo[k]).fID<0
  ·have e1:r9 a b.fNo[k]=true:=decide_eq_true hneg
   have e2:clN a b.fNo[k]=false:=by unfold clN;rw[decide_eq_false (by omega)];rfl
   rw[d6 hneg,gPo (by rw[List.length_append];omega),List.filter_cons_of_pos e1,List.any_cons,e2]
   simp
  ·have e1:r9 a b.fNo[k]=false:=decide_eq_false hneg
   have e2:clN a b.fNo[k] = !decide (rdL a.fNo (du a (b.fNo[k]).fID)=b.fNo[k]):=by unfold clN;rw[decide_eq_true (by omega)];rfl
   rw[dt hneg,gPo (by unfold du at hneg ⊢;omega),node_eq,List.filter_cons_of_neg (by rw[e1];simp),List.any_cons,e2,orJ,oB]
   simp) (by
  unfold fS;dsimp only
  rw[dt (by omega),List.take_length])
 have e:((b.fNo.take 0).any (clN a),((0:Nat):Int),a.fNo++(b.fNo.take 0).filter (r9 a))=(false,0,a.fNo):=by simp
 rw[e]at hrun
 exact hrun
theorem su (l:TL) (id:Int):gP l id<(l.fC.length:Int):=fk _ _
theorem same_eq {x y:TC} (h:x.fID=y.fID) (hl:x.fO.length≤1000000000):kJ x y=some (decide (x.fO=y.fO)):=by
 unfold kJ
 rw[if_pos (by simpa using h),Equal_same,nk hl]
 rfl
theorem link_id {a:TL} {id:Int} (h:0≤gP a id):rdL a.fC (gP a id)∈a.fC∧(rdL a.fC (gP a id)).fID=id:=by
 refine⟨idxI_mem (q:=fun n:TC=>n.fID==id) h,?_⟩
 unfold gP at h ⊢
 rcases hZ a.fC (fun n=>n.fID==id)with⟨_,h2⟩|⟨k,hk,hq,_,h2⟩
 ·omega
 ·rw[h2,aX hk]
  simpa using hq
theorem JoinC_ok {a b:TL} (ha:OkL a) (hb:OkL b) (c0:Bool):aL (fI a b) (c0,0,a.fC)=some (c0||b.fC.any (clC a),(b.fC.length:Int),a.fC++b.fC.filter (sc a)):=by
 have h1:=ha.nc
 have h2:=hb.nc
 have hrun:=f6 (body:=fI a b) (fun k=>(c0||(b.fC.take k).any (clC a),(k:Int),a.fC++(b.fC.take k).filter (sc a))) b.fC.length (t:=(c0||b.fC.any (clC a),(b.fC.length:Int),a.fC++b.fC.filter (sc a))) (fun k hk=>by
  have hl:=List.length_filter_le (sc a) (b.fC.take k)
  rw[List.length_take]at hl
  have hlt:=su a (b.fC[k]).fID
  unfold fI;dsimp only
  rw[d6 (by omega),gPo (by omega),aX hk,mN (by omega),oB,a4 (by omega),List.take_succ_eq_append_getElem hk,List.filter_append,List.any_append]
  by_cases hneg:gP a (b.fC[k]).fID<0
  ·have e1:sc a b.fC[k]=true:=decide_eq_true hneg
   have e2:clC a b.fC[k]=false:=by unfold clC;rw[decide_eq_false (by omega)];rfl
   rw[d6 hneg,gPo (by rw[List.length_append];omega),List.filter_cons_of_pos e1,List.any_cons,e2]
   simp
  ·have e1:sc a b.fC[k]=false:=decide_eq_false hneg
   have e2:clC a b.fC[k] = !decide ((rdL a.fC (gP a (b.fC[k]).fID)).fO=(b.fC[k]).fO):=by unfold clC;rw[decide_eq_true (by omega)];rfl
   obtain⟨m1,m2⟩:=link_id (a:=a) (id:=(b.fC[k]).fID) (by omega)
   rw[dt hneg,gPo (by omega),jl,jl,same_eq m2 (ha.sz.o _ m1),oB,List.filter_cons_of_neg (by rw[e1];simp),List.any_cons,e2,orJ,oB]
   simp[Bool.or_assoc]) (by
  unfold fI;dsimp only
  rw[dt (by omega),List.take_length])
 have e:(c0||(b.fC.take 0).any (clC a),((0:Nat):Int),a.fC++(b.fC.take 0).filter (sc a))=(c0,0,a.fC):=by simp
 rw[e]at hrun
 exact hrun
theorem any_at {α:Type} [Inhabited α] {l:List α} {p:α→Bool}:(l.any p=true)↔∃k,∃h:k<l.length,p l[k]=true:=by
 rw[List.any_eq_true]
 constructor
 ·rintro⟨x,hx,hp⟩
  obtain⟨k,hk,rfl⟩:=List.mem_iff_getElem.1 hx
  exact⟨k,hk,hp⟩
 ·rintro⟨k,hk,hp⟩
  exact⟨_,List.getElem_mem hk,hp⟩
theorem rJoinN_ok {a b:TL} (ha:OkL a) (hb:OkL b):(b.fNo.any (clN a)=true∧∃u,aL (fo a b) (0,a.fNo,0)=some (.inl u)∧u.2.2=9)∨(b.fNo.any (clN a)=false∧aL (fo a b) (0,a.fNo,0)=some (.inr ((b.fNo.length:Int),a.fNo++b.fNo.filter (r9 a),0))):=by
 have h1:=ha.nn
 have h2:=hb.nn
 have hrun:=bE (body:=fo a b) (fun k=>((k:Int),a.fNo++(b.fNo.take k).filter (r9 a),0)) b.fNo.length (fun k=>if clN a (b.fNo.getD k default)=true then some (.inl ((k:Int),a.fNo++(b.fNo.take k).filter (r9 a),9))else none) (t0:=.inr ((b.fNo.length:Int),a.fNo++b.fNo.filter (r9 a),0)) (fun k hk=>by
  have hl:=List.length_filter_le (r9 a) (b.fNo.take k)
  rw[List.length_take]at hl
  have hlt:=fk a.fNo (fun n=>n.fID==(b.fNo[k]).fID)
  unfold fo;dsimp only
  rw[d6 (by omega),gPo (by omega),aX hk,pZ (by omega),oB,a4 (by omega),bj hk,List.take_succ_eq_append_getElem hk,List.filter_append]
  by_cases hneg:du a (b.fNo[k]).fID<0
  ·have e1:r9 a b.fNo[k]=true:=decide_eq_true hneg
   have e2:clN a b.fNo[k]=false:=by unfold clN;rw[decide_eq_false (by omega)];rfl
   rw[d6 hneg,gPo (by omega),gPo (by rw[List.length_append];omega),List.filter_cons_of_pos e1,e2,if_neg (by simp)]
   simp
  ·have e1:r9 a b.fNo[k]=false:=decide_eq_false hneg
   have e2:clN a b.fNo[k] = !decide (rdL a.fNo (du a (b.fNo[k]).fID)=b.fNo[k]):=by unfold clN;rw[decide_eq_true (by omega)];rfl
   rw[dt hneg,gPo (by unfold du at hneg ⊢;omega),gPo (by omega),node_eq,List.filter_cons_of_neg (by rw[e1];simp),e2]
   by_cases e3:rdL a.fNo (du a (b.fNo[k]).fID)=b.fNo[k]
   ·rw[decide_eq_true e3,if_neg (by simp),if_neg (by simp)]
    simp
   ·rw[decide_eq_false e3,if_pos (by rfl),if_pos (by rfl)]) (by
  unfold fo;dsimp only
  rw[dt (by omega),List.take_length])
 have e:(((0:Nat):Int),a.fNo++(b.fNo.take 0).filter (r9 a),(0:Int))=(0,a.fNo,0):=by simp
 rw[e]at hrun
 rw[hrun]
 rcases bM (R:=fun k=>if clN a (b.fNo.getD k default)=true then some (Sum.inl ((k:Int),a.fNo++(b.fNo.take k).filter (r9 a),(9:Int)):(Int × List TN × Int) ⊕ (Int × List TN × Int))else none) (n:=b.fNo.length) (.inr ((b.fNo.length:Int),a.fNo++b.fNo.filter (r9 a),0))with⟨hno,e4⟩|⟨k,t,hk,hR,_,e4⟩
 ·rw[e4]
  refine .inr ⟨?_,O⟩
  rw[Bool.eq_false_iff]
  intro h
  obtain⟨k,hk,hp⟩:=any_at.1 h
  have:=hno k hk
  rw[bj hk,if_pos hp]at this
  cases this
 ·rw[e4]
  rw[bj hk]at hR
  by_cases hp:clN a b.fNo[k]=true
  ·rw[if_pos hp]at hR
   cases hR
   exact .inl ⟨any_at.2 ⟨k,hk,hp⟩,_,O,O⟩
  ·rw[if_neg hp]at hR
   cases hR
theorem rJoinC_ok {a b:TL} (ha:OkL a) (hb:OkL b):(b.fC.any (clC a)=true∧∃u,aL (fq a b) (0,a.fC,0)=some (.inl u)∧u.2.2=9)∨(b.fC.any (clC a)=false∧aL (fq a b) (0,a.fC,0)=some (.inr ((b.fC.length:Int),a.fC++b.fC.filter (sc a),0))):=by
 have h1:=ha.nc
 have h2:=hb.nc
 have hrun:=bE (body:=fq a b) (fun k=>((k:Int),a.fC++(b.fC.take k).filter (sc a),0)) b.fC.length (fun k=>if clC a (b.fC.getD k default)=true then some (.inl ((k:Int),a.fC++(b.fC.take k).filter (sc a),9))else none) (t0:=.inr ((b.fC.length:Int),a.fC++b.fC.filter (sc a),0)) (fun k hk=>by
  have hl:=List.length_filter_le (sc a) (b.fC.take k)
  rw[List.length_take]at hl
  have hlt:=su a (b.fC[k]).fID
  unfold fq;dsimp only
  rw[d6 (by omega),gPo (by omega),aX hk,nK (by omega),oB,a4 (by omega),bj hk,List.take_succ_eq_append_getElem hk,List.filter_append]
  by_cases hneg:gP a (b.fC[k]).fID<0
  ·have e1:sc a b.fC[k]=true:=decide_eq_true hneg
   have e2:clC a b.fC[k]=false:=by unfold clC;rw[decide_eq_false (by omega)];rfl
   rw[d6 hneg,gPo (by omega),gPo (by rw[List.length_append];omega),List.filter_cons_of_pos e1,e2,if_neg (by simp)]
   simp
  ·have e1:sc a b.fC[k]=false:=decide_eq_false hneg
   have e2:clC a b.fC[k] = !decide ((rdL a.fC (gP a (b.fC[k]).fID)).fO=(b.fC[k]).fO):=by unfold clC;rw[decide_eq_true (by omega)];rfl
   obtain⟨m1,m2⟩:=link_id (a:=a) (id:=(b.fC[k]).fID) (by omega)
   rw[dt hneg,gPo (by omega),gPo (by omega),nk (ha.sz.o _ m1),oB,List.filter_cons_of_neg (by rw[e1];simp),e2]
   by_cases e3:(rdL a.fC (gP a (b.fC[k]).fID)).fO=(b.fC[k]).fO
   ·rw[decide_eq_true e3,if_neg (by simp),if_neg (by simp)]
    simp
   ·rw[decide_eq_false e3,if_pos (by rfl),if_pos (by rfl)]) (by
  unfold fq;dsimp only
  rw[dt (by omega),List.take_length])
 have e:(((0:Nat):Int),a.fC++(b.fC.take 0).filter (sc a),(0:Int))=(0,a.fC,0):=by simp
 rw[e]at hrun
 rw[hrun]
 rcases bM (R:=fun k=>if clC a (b.fC.getD k default)=true then some (Sum.inl ((k:Int),a.fC++(b.fC.take k).filter (sc a),(9:Int)):(Int × List TC × Int) ⊕ (Int × List TC × Int))else none) (n:=b.fC.length) (.inr ((b.fC.length:Int),a.fC++b.fC.filter (sc a),0))with⟨hno,e4⟩|⟨k,t,hk,hR,_,e4⟩
 ·rw[e4]
  refine .inr ⟨?_,O⟩
  rw[Bool.eq_false_iff]
  intro h
  obtain⟨k,hk,hp⟩:=any_at.1 h
  have:=hno k hk
  rw[bj hk,if_pos hp]at this
  cases this
 ·rw[e4]
  rw[bj hk]at hR
  by_cases hp:clC a b.fC[k]=true
  ·rw[if_pos hp]at hR
   cases hR
   exact .inl ⟨any_at.2 ⟨k,hk,hp⟩,_,O,O⟩
  ·rw[if_neg hp]at hR
   cases hR
theorem Join_both (a b:TL):∃m e,kD a b=some (m,e)∧lR a b=some ⟨m,e⟩∧Sz m:=by
 unfold kD lR
 rw[mF a,mj a,oB,oB]
 by_cases ha0:dW a=0
 ·have ha:=lm.1 ha0
  rw[if_neg (show ¬(dW a !=0)=true by simp[ha0]),if_pos (show(dW a==0)=true by simp[ha0]),mF b,mj b,oB,oB]
  by_cases hb0:dW b=0
  ·have hb:=lm.1 hb0
   have n1:=ha.nn
   have n2:=hb.nn
   have n3:=ha.nc
   have n4:=hb.nc
   rw[if_neg (show ¬(dW b !=0)=true by simp[hb0]),if_neg (show ¬(dW b !=0)=true by simp[hb0]),ha.copied,hb.copied,oB,oB,gPo (by omega),gPo (by omega),JoinN_ok ha hb,oB]
   dsimp only
   rw[JoinC_ok ha hb,oB]
   dsimp only
   rw[List.nil_append,List.nil_append]
   rcases rJoinN_ok ha hb with⟨c1,u,e1,e2⟩|⟨c1,e1⟩
   ·rw[e1,oB]
    dsimp only
    rw[e2,c1,if_pos (by rfl)]
    exact⟨_,_,O,O,Sz.nil⟩
   ·rw[e1,oB]
    dsimp only
    rcases rJoinC_ok ha hb with⟨c2,v,e3,e4⟩|⟨c2,e3⟩
    ·rw[e3,oB]
     dsimp only
     rw[e4,c1,c2,if_pos (by rfl)]
     exact⟨_,_,O,O,Sz.nil⟩
    ·rw[e3,oB]
     dsimp only
     rw[c1,c2,if_neg (by simp),mj,mF,oB,oB]
     by_cases hz:dW ⟨a.fNo++b.fNo.filter (r9 a),a.fC++b.fC.filter (sc a)⟩=0
     ·rw[if_neg (by simp[hz]),if_neg (by simp[hz])]
      exact⟨_,_,O,O,(lm.1 hz).sz⟩
     ·rw[if_pos (by simp[hz]),if_pos (by simp[hz])]
      exact⟨_,_,O,O,Sz.nil⟩
  ·rw[if_pos (show(dW b !=0)=true by simp[hb0]),if_pos (show(dW b !=0)=true by simp[hb0])]
   exact⟨_,_,O,O,Sz.nil⟩
 ·rw[if_pos (show(dW a !=0)=true by simp[ha0]),if_neg (show ¬(dW a==0)=true by simp[ha0]),if_pos (show(dW a !=0)=true by simp[ha0])]
  exact⟨_,_,O,O,Sz.nil⟩
theorem RecallOthers_true (p0 p1:TL) (p2 p3:Int) (p4:List Int) (h0:qR p0) (h1:qR p1) (h2:Rg_i64 p2) (h3:Rg_i64 p3) (h4:j8 Rg_i64 p4):dU p0 p1 p2 p3 p4=some true:=by
 unfold dU
 obtain⟨b,hb,_⟩:=few_eq h0.2.1
 obtain⟨c,hc,_⟩:=few_eq h1.2.1
 rw[head_true,oB,hb,oB,hc,oB,orJ,oB]
 by_cases hg:((!b || !c)||decide (100<((p4.length:Nat):Int)))=true
 ·rw[if_pos hg]
 ·rw[if_neg hg]
  have hg':=Bool.eq_false_iff.2 hg
  rw[Bool.or_eq_false_iff,decide_eq_false_iff_not]at hg'
  obtain⟨m1,e1,a1,a2,a3⟩:=Told_both p0 p2 p3
  obtain⟨m2,e2,b1,b2,b3⟩:=tf p0 p2 p3
  obtain⟨m3,e3,c1,c2,c3⟩:=sh p0 (C:=p4) (by omega)
  obtain⟨m4,e4,d1,d2,d3⟩:=Join_both p0 p1
  rw[a1,a2,b1,b2,c1,c2,d1,d2]
  simp only[oB,gV a3,gV b3,gV c3,gV d3,if_true,beq_self_eq_true,Bool.and_self]
end Go.Proofs.YtbblpokfbmekfaaGreat
