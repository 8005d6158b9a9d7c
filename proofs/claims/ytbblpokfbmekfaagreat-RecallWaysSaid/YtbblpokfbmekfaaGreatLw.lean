import Derived.Test.YtbblpokfbmekfaaGreatE
import Derived.KernelRfl
set_option linter.unusedVariables false
namespace Go.Proofs.YtbblpokfbmekfaaGreat
theorem loop_for {S T:Type} {body:S→Option (S ⊕ T)} (st:Nat→S):∀(n:Nat),(∀k,k<n→body (st k)=some (.inl (st (k+1))))→aH body (st 0)=aH body (st n)
 | 0,_=>rfl
 | n+1,h=>by rw[loop_for st n (fun k hk=>h k (by omega)),im (h n (by omega))]
theorem jF {S T:Type} {body:S→Option (S ⊕ T)} (st:Nat→S) (n:Nat) {t:T} (h:∀k,k<n→body (st k)=some (.inl (st (k+1)))) (hs:body (st n)=some (.inr t)):aH body (st 0)=some t:=by
 rw[loop_for st n h,bV hs]
theorem bk {S T:Type} {body:S→Option (S ⊕ T)} (st:Nat→S) (n:Nat) (R:Nat→Option T) {t0:T} (h:∀k,k<n→body (st k)=some (match R k with|none=>.inl (st (k+1))|some t=>.inr t)) (hs:body (st n)=some (.inr t0)) :
  aH body (st 0)=some (((List.range n).findSome? R).getD t0):=by
 have key:∀c k,k+c=n→aH body (st k)=some (((List.range' k c).findSome? R).getD t0):=by
  intro c
  induction c with
  | zero =>
   intro k hk
   have:k=n:=by omega
   subst this
   rw[bV hs]
   rfl
  | succ c ih =>
   intro k hk
   have hb:=h k (by omega)
   rw[List.range'_succ]
   cases hR:R k with
   | none =>
    rw[hR]at hb
    rw[im hb,ih (k+1) (by omega)]
    simp[hR]
   | some t =>
    rw[hR]at hb
    rw[bV hb]
    simp[hR]
 have:=key n 0 (by omega)
 rw[this,List.range_eq_range']
theorem dY {α:Type} {p:Prop} [Decidable p] {x y:α} (h:p):(if decide p=true then x else y)=x:=by rw[if_pos (decide_eq_true h)]
theorem da {α:Type} {p:Prop} [Decidable p] {x y:α} (h:¬p):(if decide p=true then x else y)=y:=by rw[if_neg (by rw[decide_eq_false h];exact Bool.false_ne_true)]
theorem aV {α:Type} [Inhabited α] {xs:List α} {k:Nat} (h:k<xs.length):rdL xs (k:Int)=xs[k]:=by
 unfold rdL
 rw[Int.toNat_natCast,List.getD_eq_getElem?_getD,List.getElem?_eq_getElem h]
 rfl
theorem a7 {k:Nat} (h:k<9223372036854775807):w64 ((k:Int)+1)=((k+1:Nat):Int):=by
 rw[gK (by omega) (by omega)];rfl
theorem bA {T:Type} {R:Nat→Option T} {n:Nat} (t0:T):((∀k,k<n→R k=none)∧((List.range n).findSome? R).getD t0=t0)∨∃k t,k<n∧R k=some t∧(∀j,j<k→R j=none)∧((List.range n).findSome? R).getD t0=t:=by
 induction n with
 | zero=>exact .inl ⟨fun k hk=>by omega,O⟩
 | succ n ih =>
  rw[List.range_succ,List.findSome?_append]
  rcases ih with⟨h1,h2⟩|⟨k,t,hk,hR,hj,h2⟩
  ·have h3:(List.range n).findSome? R=none:=List.findSome?_eq_none_iff.2 (fun x hx=>h1 x (List.mem_range.1 hx))
   rw[h3]
   cases hR:R n with
   | none=>exact .inl ⟨fun k hk=>by
    rcases Nat.lt_or_ge k n with h|h
    ·exact h1 k h
    ·rw[show k=n by omega];exact hR,by simp[hR]⟩
   | some t=>exact .inr ⟨n,t,by omega,hR,h1,by simp[hR]⟩
  ·refine .inr ⟨k,t,by omega,hR,hj,?_⟩
   have h3:((List.range n).findSome? R)=some t:=by
    cases hf:(List.range n).findSome? R with
    | none=>have:=List.findSome?_eq_none_iff.1 hf k (List.mem_range.2 hk);rw[hR]at this;cases this
    | some u=>rw[hf]at h2;exact congrArg some h2
   rw[h3]
   rfl
theorem search_none {T:Type} {R:Nat→Option T} {n:Nat} {t0:T} (h:∀k,k<n→R k=none):((List.range n).findSome? R).getD t0=t0:=by
 rw[List.findSome?_eq_none_iff.2 (fun x hx=>h x (List.mem_range.1 hx))];rfl
theorem qI {T:Type} {R:Nat→Option T} {n:Nat} {t0 t:T} (k:Nat) (hk:k<n) (hR:R k=some t) (hj:∀j,j<k→R j=none):((List.range n).findSome? R).getD t0=t:=by
 rcases bA (R:=R) (n:=n) t0 with⟨h,_⟩|⟨k',t',hk',hR',hj',h⟩
 ·rw[h k hk]at hR;cases hR
 ·rcases Nat.lt_trichotomy k k' with h' | h' | h'
  ·rw[hj' k h']at hR;cases hR
  ·subst h';rw[hR]at hR';cases hR';exact h
  ·rw[hj k' h']at hR';cases hR'
def ry {α:Type} [Inhabited α] (l:List α) (q:α→Bool):Int:=((List.range l.length).findSome? fun k=>if q (l.getD k default)=true then some (k:Int)else none).getD (-1)
theorem bB {α:Type} [Inhabited α] {l:List α} {k:Nat} (h:k<l.length):l.getD k default=l[k]:=by
 rw[List.getD_eq_getElem?_getD,List.getElem?_eq_getElem h];rfl
theorem kO {α:Type} [Inhabited α] (l:List α) (q:α→Bool):((∀x∈l,q x=false)∧ry l q = -1)∨∃k,∃h:k<l.length,q l[k]=true∧(∀j,(hj:j<k)→q (l[j]'(by omega))=false)∧ry l q=(k:Int):=by
 unfold ry
 rcases bA (R:=fun k=>if q (l.getD k default)=true then some (k:Int)else none) (n:=l.length) (-1)with⟨h,h2⟩|⟨k,t,hk,hR,hj,h2⟩
 ·refine .inl ⟨fun x hx=>?_,h2⟩
  obtain⟨k,hk,rfl⟩:=List.mem_iff_getElem.1 hx
  have:=h k hk
  rw[bB hk]at this
  cases hq:q l[k]
  ·rfl
  ·rw[hq]at this;simp at this
 ·rw[bB hk]at hR
  cases hq:q l[k]with
  | false=>rw[hq]at hR;simp at hR
  | true =>
   rw[hq]at hR
   simp only[if_true]at hR
   refine .inr ⟨k,hk,hq,fun j hj'=>?_,h2.trans (Option.some.inj hR).symm⟩
   have:=hj j hj'
   rw[bB (by omega)]at this
   cases hq':q (l[j]'(by omega))
   ·rfl
   ·rw[hq']at this;simp at this
theorem nl {α:Type} [Inhabited α] (l:List α) (q:α→Bool):(match ((List.range l.length).findSome? (fun k=>if q (l.getD k default)=true then some (Sum.inl ((k:Int),(k:Int)):(Int × Int) ⊕ (Int × Int))else none)).getD (.inr (0,(l.length:Int)))with|.inl u=>some u.1|.inr _=>some (-1))=some (ry l q):=by
 unfold ry
 rcases bA (R:=fun k=>if q (l.getD k default)=true then some (Sum.inl ((k:Int),(k:Int)):(Int × Int) ⊕ (Int × Int))else none) (n:=l.length) (.inr (0,(l.length:Int)))with⟨hn,h2⟩|⟨k,t,hk,hR,hj,h2⟩
 ·rw[h2,search_none (fun k hk=>by have:=hn k hk;split at this <;> simp_all)]
 ·rw[h2]
  have hq:q (l.getD k default)=true:=by
   by_cases hq:q (l.getD k default)=true
   ·exact hq
   ·rw[if_neg hq]at hR;cases hR
  rw[if_pos hq]at hR
  cases hR
  rw[qI k hk (by rw[if_pos hq]) (fun j hj'=>by have:=hj j hj';split at this <;> simp_all)]
theorem TNode_eta (x:TN):TN.mk x.fID x.fLevel x.fCost=x:=rfl
theorem pd (x:TC):TC.mk x.fID x.fO=x:=rfl
theorem THop_eta (x:TH):TH.mk x.fFrom x.fTo=x:=rfl
theorem tI {l:List TN} {f:TN→Option Bool} {q:TN→Bool} (hl:l.length<1000000000) (h:∀x∈l,f x=some (q x)):bf l f=some (ry l q):=by
 unfold bf
 have:=bk (body:=aQ l f) (fun k=>((0:Int),(k:Int))) l.length (fun k=>if q (l.getD k default)=true then some (Sum.inl ((k:Int),(k:Int)))else none) (t0:=.inr (0,(l.length:Int))) (fun k hk=>by
  have c1:decide ((k:Int)<((l.length:Nat):Int))=true:=decide_eq_true (by omega)
  have c2:(0:Int)≤(k:Int)∧(k:Int)<((l.length:Nat):Int):=by omega
  unfold aQ;dsimp only
  simp only[c1,if_true,gPo c2,aV hk,TNode_eta,h _ (List.getElem_mem hk),oB,bB hk,a7 (show k<9223372036854775807 by omega)]
  cases q l[k] <;> rfl) (by
  unfold aQ;dsimp only
  rw[da (by omega)])
 have h0:aH (aQ l f) (0,0)=_:=this
 rw[h0,oB]
 exact nl l q
theorem og {l:List TC} {f:TC→Option Bool} {q:TC→Bool} (hl:l.length<1000000000) (h:∀x∈l,f x=some (q x)):aS l f=some (ry l q):=by
 unfold aS
 have:=bk (body:=aM l f) (fun k=>((0:Int),(k:Int))) l.length (fun k=>if q (l.getD k default)=true then some (Sum.inl ((k:Int),(k:Int)))else none) (t0:=.inr (0,(l.length:Int))) (fun k hk=>by
  have c1:decide ((k:Int)<((l.length:Nat):Int))=true:=decide_eq_true (by omega)
  have c2:(0:Int)≤(k:Int)∧(k:Int)<((l.length:Nat):Int):=by omega
  unfold aM;dsimp only
  simp only[c1,if_true,gPo c2,aV hk,pd,h _ (List.getElem_mem hk),oB,bB hk,a7 (show k<9223372036854775807 by omega)]
  cases q l[k] <;> rfl) (by
  unfold aM;dsimp only
  rw[da (by omega)])
 have h0:aH (aM l f) (0,0)=_:=this
 rw[h0,oB]
 exact nl l q
theorem lE {α:Type} [Inhabited α] {l:List α} {q:α→Bool}:0≤ry l q↔∃x∈l,q x=true:=by
 rcases kO l q with⟨h,h2⟩|⟨k,hk,hq,_,h2⟩
 ·rw[h2]
  exact⟨fun h=>by omega,fun⟨x,hx,hq⟩=>by rw[h x hx]at hq;cases hq⟩
 ·rw[h2]
  exact⟨fun _=>⟨l[k],List.getElem_mem hk,hq⟩,fun _=>by omega⟩
theorem gr {α:Type} [Inhabited α] (l:List α) (q:α→Bool):ry l q<(l.length:Int):=by
 rcases kO l q with⟨h,h2⟩|⟨k,hk,hq,_,h2⟩ <;> omega
theorem idxI_get {α:Type} [Inhabited α] {l:List α} {q:α→Bool} (h:0≤ry l q):q (rdL l (ry l q))=true:=by
 rcases kO l q with⟨_,h2⟩|⟨k,hk,hq,_,h2⟩
 ·omega
 ·rw[h2,aV hk];exact hq
theorem idxI_mem {α:Type} [Inhabited α] {l:List α} {q:α→Bool} (h:0≤ry l q):rdL l (ry l q)∈l:=by
 rcases kO l q with⟨_,h2⟩|⟨k,hk,hq,_,h2⟩
 ·omega
 ·rw[h2,aV hk];exact List.getElem_mem hk
theorem sK {α:Type} [Inhabited α] {l:List α} {f:α→Int} (hd:(l.map f).Nodup) {k:Nat} (hk:k<l.length):ry l (fun x=>f x==f l[k])=(k:Int):=by
 rcases kO l (fun x=>f x==f l[k])with⟨h,_⟩|⟨j,hj,hq,_,h2⟩
 ·have:=h l[k] (List.getElem_mem hk);simp at this
 ·rw[h2]
  have he:f l[j]=f l[k]:=by simpa using hq
  have hpw:=List.pairwise_iff_getElem.1 hd
  rcases Nat.lt_trichotomy j k with h3|h3|h3
  ·have:=hpw j k (by simpa using hj) (by simpa using hk) h3
   simp only[List.getElem_map]at this
   exact absurd he this
  ·rw[h3]
  ·have:=hpw k j (by simpa using hk) (by simpa using hj) h3
   simp only[List.getElem_map]at this
   exact absurd he.symm this
theorem idxI_lt {α:Type} [Inhabited α] {l:List α} {f:α→Int} {k:Nat} (hk:k<l.length):ry l (fun x=>f x==f l[k])<(k:Int)↔∃j,∃h:j<k,f (l[j]'(by omega))=f l[k]:=by
 rcases kO l (fun x=>f x==f l[k])with⟨h,_⟩|⟨j,hj,hq,hm,h2⟩
 ·have:=h l[k] (List.getElem_mem hk);simp at this
 ·rw[h2]
  have he:f l[j]=f l[k]:=by simpa using hq
  refine⟨fun h=>⟨j,by omega,he⟩,fun⟨i,hi,hie⟩=>?_⟩
  rcases Nat.lt_or_ge j k with h3|h3
  ·omega
  ·exfalso
   have:=hm i (by omega)
   rw[hie]at this
   simp at this
theorem iz {α:Type} [Inhabited α] {l:List α} {f:α→Int}:(∀k,(hk:k<l.length)→¬ry l (fun x=>f x==f l[k])<(k:Int))↔(l.map f).Nodup:=by
 refine⟨fun h=>?_,fun h k hk=>by rw[sK h hk];omega⟩
 rw[List.Nodup,List.pairwise_iff_getElem]
 intro i j hi hj hij
 simp only[List.length_map]at hi hj
 simp only[List.getElem_map]
 intro e
 exact h j hj ((idxI_lt hj).2 ⟨i,hij,e⟩)
def co (l:TL) (id:Int):Int:=ry l.fNo fun n=>n.fID==id
def jb (l:TL) (id:Int):Int:=ry l.fC fun n=>n.fID==id
theorem mZ {l:TL} (hl:l.fNo.length<1000000000) (id:Int):cn l id=some (co l id):=by
 unfold cn
 rw[tI (f:=fun x3=>dS x3 id) (q:=fun x=>x.fID==id) hl (fun x _=>O)]
 rfl
theorem qL {l:TL} (hl:l.fC.length<1000000000) (id:Int):dH l id=some (jb l id):=by
 unfold dH
 rw[og (f:=fun x3=>dW x3 id) (q:=fun x=>x.fID==id) hl (fun x _=>O)]
 rfl
theorem ox (n lo hi:Int):cp n lo hi=some (decide (lo≤n∧n≤hi)):=by unfold cp;rw[Bool.decide_and]
theorem cQ {l:TL} {id:Int}:0≤co l id↔id∈l.fNo.map (·.fID):=by
 unfold co
 rw[lE,List.mem_map]
 simp
theorem tN {l:TL} {id:Int}:0≤jb l id↔id∈l.fC.map (·.fID):=by
 unfold jb
 rw[lE,List.mem_map]
 simp
def qC (n:TN):Prop:=(1≤n.fID∧n.fID≤1099511627776)∧(0≤n.fLevel∧n.fLevel≤9)∧(0≤n.fCost∧n.fCost≤1073741824)
instance (n:TN):Decidable (qC n):=by unfold qC;infer_instance
def lvI (l:TL) (id:Int):Int:=(rdL l.fNo (co l id)).fLevel
def nE (l:TL) (o:List TH) (k:Nat):Prop:=(0≤co l (o.getD k default).fFrom∧0≤co l (o.getD k default).fTo∧lvI l (o.getD k default).fFrom<lvI l (o.getD k default).fTo)∧o.getD k default∉o.take k
instance (l:TL) (o:List TH) (k:Nat):Decidable (nE l o k):=by unfold nE;infer_instance
def nS (l:TL) (o:List TH):Prop:=(1≤o.length∧o.length≤4)∧∀k,k<o.length→nE l o k
instance (l:TL) (o:List TH):Decidable (nS l o):=by unfold nS;infer_instance
theorem tS {s:List TH} {v:TH} (hl:s.length<1000000000):bZ s v=some (ry s fun x=>decide (v=x)):=by
 unfold bZ
 have:=bk (body:=bi s v) (fun k=>((0:Int),(k:Int))) s.length (fun k=>if decide (v=s.getD k default)=true then some (Sum.inl ((k:Int),(k:Int)))else none) (t0:=.inr (0,(s.length:Int))) (fun k hk=>by
  have c1:decide ((k:Int)<((s.length:Nat):Int))=true:=decide_eq_true (by omega)
  have c2:(0:Int)≤(k:Int)∧(k:Int)<((s.length:Nat):Int):=by omega
  have c3:((v.fFrom==(s[k]).fFrom)&&(v.fTo==(s[k]).fTo))=decide (v=s[k]):=by
   rw[Bool.eq_iff_iff]
   simp only[Bool.and_eq_true,beq_iff_eq,decide_eq_true_eq]
   cases v
   cases hs:s[k]
   simp
  unfold bi;dsimp only
  simp only[c1,if_true,gPo c2,aV hk,c3,bB hk,a7 (show k<9223372036854775807 by omega)]
  cases decide (v=s[k]) <;> rfl) (by
  unfold bi;dsimp only
  rw[da (by omega)])
 have h0:aH (bi s v) (0,0)=_:=this
 rw[h0,oB]
 exact nl s fun x=>decide (v=x)
theorem rG {s:List TH} {v:TH} (hl:s.length<1000000000):bG s v=some (decide (v∈s)):=by
 unfold bG
 rw[tS hl,oB]
 refine congrArg some ?_
 rw[Bool.eq_iff_iff]
 simp only[decide_eq_true_eq]
 rw[lE]
 simp
theorem options_eq {l:TL} (hl:l.fNo.length<1000000000) (o:List TH):eQ l o=some (decide (nS l o)):=by
 unfold eQ
 rw[ox,oB]
 by_cases h1:(1:Int)≤((o.length:Nat):Int)∧((o.length:Nat):Int)≤4
 ·rw[if_neg (by rw[decide_eq_true h1];simp)]
  have hrun:=bk (body:=cz l o) (fun k=>(false,(k:Int))) o.length (fun k=>if nE l o k then none else some (Sum.inl (false,(k:Int)))) (t0:=.inr (false,(o.length:Int))) (fun k hk=>by
   have c1:decide ((k:Int)<((o.length:Nat):Int))=true:=decide_eq_true (by omega)
   have c2:(0:Int)≤(k:Int)∧(k:Int)<((o.length:Nat):Int):=by omega
   have c3:(0:Int)≤(k:Int)∧(k:Int)≤((o.length:Nat):Int):=by omega
   unfold cz;dsimp only
   simp only[c1,if_true,gPo c2,gPo c3,aV hk,mZ hl,oB,THop_eta,Int.toNat_natCast,a7 (show k<9223372036854775807 by omega)]
   rw[rG (by rw[List.length_take];omega)]
   have hO:nE l o k↔(0≤co l o[k].fFrom∧0≤co l o[k].fTo∧lvI l o[k].fFrom<lvI l o[k].fTo)∧o[k]∉o.take k:=by
    unfold nE
    rw[bB hk]
   have ba:=gr l.fNo (fun n=>n.fID==o[k].fFrom)
   have bb:=gr l.fNo (fun n=>n.fID==o[k].fTo)
   by_cases ha:co l o[k].fFrom<0
   ·have:¬nE l o k:=fun h=>by have:=(hO.1 h).1.1;omega
    rw[if_neg this]
    simp[ha]
   ·by_cases hb:co l o[k].fTo<0
    ·have:¬nE l o k:=fun h=>by have:=(hO.1 h).1.2.1;omega
     rw[if_neg this]
     simp[hb]
    ·have ha':0≤co l o[k].fFrom:=by omega
     have hb':0≤co l o[k].fTo:=by omega
     have e1:(decide (co l o[k].fFrom<0)||decide (co l o[k].fTo<0))=false:=by simp[ha,hb]
     rw[e1]
     rw[gPo ⟨ha',ba⟩,gPo ⟨hb',bb⟩]
     simp only[Bool.false_eq_true,if_false,oB]
     by_cases hlv:lvI l o[k].fFrom<lvI l o[k].fTo
     ·have:¬((rdL l.fNo (co l o[k].fTo)).fLevel≤(rdL l.fNo (co l o[k].fFrom)).fLevel):=by unfold lvI at hlv;omega
      simp only[decide_eq_false this,Bool.false_eq_true,if_false,oB]
      by_cases hm:o[k]∈o.take k
      ·rw[if_neg (fun h=>(hO.1 h).2 hm)]
       simp[hm]
      ·rw[if_pos (hO.2 ⟨⟨ha',hb',hlv⟩,hm⟩)]
       simp[hm]
     ·have:(rdL l.fNo (co l o[k].fTo)).fLevel≤(rdL l.fNo (co l o[k].fFrom)).fLevel:=by unfold lvI at hlv;omega
      simp only[decide_eq_true this,if_true,oB]
      rw[if_neg (fun h=>hlv (hO.1 h).1.2.2)]) (by
   unfold cz;dsimp only
   rw[da (by omega)])
  have h0:aH (cz l o) (false,0)=_:=hrun
  rw[h0,oB]
  have h1':1≤o.length∧o.length≤4:=by omega
  rcases bA (R:=fun k=>if nE l o k then none else some (Sum.inl (false,(k:Int)):(Bool × Int) ⊕ (Bool × Int))) (n:=o.length) (.inr (false,(o.length:Int)))with⟨hn,h2⟩|⟨k,t,hk,hR,hj,h2⟩
  ·rw[h2]
   have:nS l o:=⟨h1',fun k hk=>by
    have:=hn k hk
    split at this
    ·assumption
    ·cases this⟩
   simp[this]
  ·rw[h2]
   have hno:¬nE l o k:=fun h=>by rw[if_pos h]at hR;cases hR
   rw[if_neg hno]at hR
   cases hR
   have:¬nS l o:=fun h=>hno (h.2 k hk)
   simp[this]
 ·rw[if_pos (by rw[decide_eq_false h1];rfl)]
  have:¬nS l o:=fun h=>h1 (by have:=h.1;omega)
  rw[decide_eq_false this]
def errN (l:TL) (k:Nat):Option Int:=if qC (l.fNo.getD k default)then(if co l (l.fNo.getD k default).fID<(k:Int)then some 6 else none)else some 1
def jw (l:TL) (c:TC):Prop:=(1≤c.fID∧c.fID≤1099511627776)∧nS l c.fO
instance (l:TL) (c:TC):Decidable (jw l c):=by unfold jw;infer_instance
def tV (l:TL) (k:Nat):Option Int:=if jw l (l.fC.getD k default)then(if jb l (l.fC.getD k default).fID<(k:Int)then some 6 else none)else some 1
def nx (l:TL):Nat→Int
 | 0=>1
 | k+1=>min (nx l k*((l.fC.getD k default).fO.length:Int)) 4097
def kz (l:TL):Int :=
 if 60<l.fNo.length∨80<l.fC.length then 2 else match (List.range l.fNo.length).findSome? (errN l)with
  | some e=>e
  | none=>match (List.range l.fC.length).findSome? (tV l)with
   | some e=>e
   | none=>if 4096<nx l l.fC.length then 2 else 0
theorem cntI_rg (l:TL):∀k,0≤nx l k∧nx l k≤4097
 | 0=>by unfold nx;omega
 | k+1=>by
  have:=cntI_rg l k
  unfold nx
  have h2:0≤nx l k*((l.fC.getD k default).fO.length:Int):=Int.mul_nonneg this.1 (by omega)
  omega
theorem cntI_w {l:TL} {k:Nat} (h:(l.fC.getD k default).fO.length≤4):w64 (nx l k*((l.fC.getD k default).fO.length:Int))=nx l k*((l.fC.getD k default).fO.length:Int):=by
 have h1:=cntI_rg l k
 have h2:0≤nx l k*((l.fC.getD k default).fO.length:Int):=Int.mul_nonneg h1.1 (by omega)
 have h3:nx l k*((l.fC.getD k default).fO.length:Int)≤4097*4:=Int.mul_le_mul h1.2 (by omega) (by omega) (by omega)
 exact gK (by omega) (by omega)
theorem kH {T U:Type} (R:Nat→Option T) (g:Nat→T→U) (t0:U) (n:Nat):((List.range n).findSome? fun k=>(R k).map (g k)).getD t0=match (List.range n).findSome? fun k=>(R k).map fun t=>(k,t)with|some (k,t)=>g k t|none=>t0:=by
 rcases bA (R:=fun k=>(R k).map (g k)) (n:=n) t0 with⟨hn,h2⟩|⟨k,t,hk,hR,hj,h2⟩
 ·rw[h2]
  have:(List.range n).findSome? (fun k=>(R k).map fun t=>(k,t))=none:=List.findSome?_eq_none_iff.2 (fun k hk=>by
   have:=hn k (List.mem_range.1 hk)
   cases hr:R k with
   | none=>rfl
   | some t=>rw[hr]at this;cases this)
  rw[this]
 ·rw[h2]
  cases hr:R k with
  | none=>rw[hr]at hR;cases hR
  | some t1 =>
   rw[hr]at hR
   cases hR
   have:(List.range n).findSome? (fun k=>(R k).map fun t=>(k,t))=some (k,t1):=by
    have h3:=qI (R:=fun k=>(R k).map fun t=>(k,t)) (n:=n) (t0:=(k,t1)) k hk (t:=(k,t1)) (by rw[hr];rfl) (fun j hj'=>by
     have:=hj j hj'
     cases hr':R j with
     | none=>rfl
     | some t=>rw[hr']at this;cases this)
    cases hf:(List.range n).findSome? (fun k=>(R k).map fun t=>(k,t))with
    | none =>
     have:=List.findSome?_eq_none_iff.1 hf k (List.mem_range.2 hk)
     rw[hr]at this
     cases this
    | some u=>rw[hf]at h3;exact congrArg some h3
   rw[this]
theorem lR {T:Type} (R:Nat→Option T) (n:Nat):(List.range n).findSome? R=((List.range n).findSome? fun k=>(R k).map fun t=>(k,t)).map Prod.snd:=by
 induction n with
 | zero=>rfl
 | succ n ih =>
  rw[List.range_succ,List.findSome?_append,List.findSome?_append,ih]
  cases (List.range n).findSome? fun k=>(R k).map fun t=>(k,t)with
  | some x=>rfl
  | none=>cases h:R n <;> simp[h]
theorem Check_eq (l:TL):eJ l=some (kz l):=by
 unfold eJ kz
 by_cases h0:60<l.fNo.length∨80<l.fC.length
 ·have h0':(decide (60<((l.fNo.length:Nat):Int))||decide (80<((l.fC.length:Nat):Int)))=true:=by
   rw[Bool.or_eq_true,decide_eq_true_eq,decide_eq_true_eq]
   omega
  rw[if_pos h0,if_pos h0']
 ·rw[if_neg h0,if_neg (by simp;omega)]
  have hn:l.fNo.length<1000000000:=by omega
  have hc:l.fC.length<1000000000:=by omega
  have hrun:=bk (body:=dg l) (fun k=>((0:Int),(k:Int))) l.fNo.length (fun k=>(errN l k).map fun e=>Sum.inl (e,(k:Int))) (t0:=.inr (0,(l.fNo.length:Int))) (fun k hk=>by
   have c1:decide ((k:Int)<((l.fNo.length:Nat):Int))=true:=decide_eq_true (by omega)
   have c2:(0:Int)≤(k:Int)∧(k:Int)<((l.fNo.length:Nat):Int):=by omega
   unfold dg;dsimp only
   simp only[c1,if_true,gPo c2,aV hk,ox,mZ hn,oB,a7 (show k<9223372036854775807 by omega)]
   unfold errN qC
   rw[bB hk]
   by_cases h1:1≤l.fNo[k].fID∧l.fNo[k].fID≤1099511627776
   ·by_cases h2:0≤l.fNo[k].fLevel∧l.fNo[k].fLevel≤9
    ·by_cases h3:0≤l.fNo[k].fCost∧l.fNo[k].fCost≤1073741824
     ·by_cases h4:co l l.fNo[k].fID<(k:Int)
      ·simp[h1,h2,h3,h4]
      ·simp[h1,h2,h3,h4]
     ·simp[h1,h2,h3]
    ·simp[h1,h2]
   ·simp[h1]) (by
   unfold dg;dsimp only
   rw[da (by omega)])
  have e0:aH (dg l) (0,0)=_:=hrun
  rw[e0,oB,kH (errN l) (fun k e=>Sum.inl (e,(k:Int))),lR (errN l)]
  cases hN:(List.range l.fNo.length).findSome? fun k=>(errN l k).map fun t=>(k,t)with
  | some p=>rfl
  | none =>
   dsimp only[Option.map_none]
   have hrun2:=bk (body:=dr l) (fun k=>((0:Int),nx l k,(k:Int))) l.fC.length (fun k=>(tV l k).map fun e=>Sum.inl (e,nx l k,(k:Int))) (t0:=.inr (0,nx l l.fC.length,(l.fC.length:Int))) (fun k hk=>by
    have c1:decide ((k:Int)<((l.fC.length:Nat):Int))=true:=decide_eq_true (by omega)
    have c2:(0:Int)≤(k:Int)∧(k:Int)<((l.fC.length:Nat):Int):=by omega
    unfold dr;dsimp only
    simp only[c1,if_true,gPo c2,aV hk,ox,qL hc,options_eq hn,oB,a7 (show k<9223372036854775807 by omega)]
    unfold tV jw
    rw[bB hk]
    by_cases h1:1≤l.fC[k].fID∧l.fC[k].fID≤1099511627776
    ·by_cases h2:nS l l.fC[k].fO
     ·by_cases h4:jb l l.fC[k].fID<(k:Int)
      ·simp[h1,h2,h4]
      ·have hw:=cntI_w (l:=l) (k:=k) (by rw[bB hk];exact h2.1.2)
       rw[bB hk]at hw
       simp only[h1,h2,h4,and_self,decide_true,Bool.not_true,Bool.false_eq_true,if_false,oB,decide_false,hw,if_true,Option.map_none]
       show some (Sum.inl (0,min (nx l k*(l.fC[k].fO.length:Int)) 4097,((k+1:Nat):Int)))=some (Sum.inl (0,nx l (k+1),((k+1:Nat):Int)))
       have:nx l (k+1)=min (nx l k*((l.fC.getD k default).fO.length:Int)) 4097:=rfl
       rw[this,bB hk]
     ·simp[h1,h2]
    ·simp[h1]) (by
    unfold dr;dsimp only
    rw[da (by omega)])
   have e1:aH (dr l) (0,1,0)=_:=hrun2
   rw[e1,oB,kH (tV l) (fun k e=>Sum.inl (e,nx l k,(k:Int))),lR (tV l)]
   cases hC:(List.range l.fC.length).findSome? fun k=>(tV l k).map fun t=>(k,t)with
   | some p=>rfl
   | none =>
    dsimp only[Option.map_none]
    by_cases h5:4096<nx l l.fC.length
    ·rw[if_pos (decide_eq_true h5),if_pos h5]
    ·rw[if_neg (by rw[decide_eq_false h5];simp),if_neg h5]
structure OkL (l:TL):Prop where
 nn:l.fNo.length≤60
 nc:l.fC.length≤80
 nodes:∀n∈l.fNo,qC n
 nd:(l.fNo.map (·.fID)).Nodup
 claims:∀c∈l.fC,jw l c
 cd:(l.fC.map (·.fID)).Nodup
 cnt:nx l l.fC.length≤4096
theorem sE {l:TL}:kz l=0↔OkL l:=by
 unfold kz
 by_cases h0:60<l.fNo.length∨80<l.fC.length
 ·rw[if_pos h0]
  exact⟨fun h=>(by cases h),fun h=>by have:=h.nn;have:=h.nc;omega⟩
 ·rw[if_neg h0]
  cases hN:(List.range l.fNo.length).findSome? (errN l)with
  | some e =>
   obtain⟨k,hk,he⟩:=List.exists_of_findSome?_eq_some hN
   have hk':=List.mem_range.1 hk
   unfold errN at he
   rw[bB hk']at he
   refine⟨fun h=>?_,fun h=>?_⟩
   ·dsimp only at h
    subst h
    split at he
    ·split at he <;> cases he
    ·cases he
   ·exfalso
    rw[if_pos (h.nodes _ (List.getElem_mem hk')),if_neg (show ¬co l l.fNo[k].fID<(k:Int)from iz.2 h.nd k hk')]at he
    cases he
  | none =>
   have hN':=List.findSome?_eq_none_iff.1 hN
   have hno:∀k,(hk:k<l.fNo.length)→qC l.fNo[k]∧¬co l l.fNo[k].fID<(k:Int):=fun k hk=>by
    have:=hN' k (List.mem_range.2 hk)
    unfold errN at this
    rw[bB hk]at this
    split at this
    ·rename_i h1
     split at this
     ·cases this
     ·rename_i h2;exact⟨h1,h2⟩
    ·cases this
   dsimp only
   cases hC:(List.range l.fC.length).findSome? (tV l)with
   | some e =>
    obtain⟨k,hk,he⟩:=List.exists_of_findSome?_eq_some hC
    have hk':=List.mem_range.1 hk
    unfold tV at he
    rw[bB hk']at he
    refine⟨fun h=>?_,fun h=>?_⟩
    ·dsimp only at h
     subst h
     split at he
     ·split at he <;> cases he
     ·cases he
    ·exfalso
     rw[if_pos (h.claims _ (List.getElem_mem hk')),if_neg (show ¬jb l l.fC[k].fID<(k:Int)from iz.2 h.cd k hk')]at he
     cases he
   | none =>
    have hC':=List.findSome?_eq_none_iff.1 hC
    have hco:∀k,(hk:k<l.fC.length)→jw l l.fC[k]∧¬jb l l.fC[k].fID<(k:Int):=fun k hk=>by
     have:=hC' k (List.mem_range.2 hk)
     unfold tV at this
     rw[bB hk]at this
     split at this
     ·rename_i h1
      split at this
      ·cases this
      ·rename_i h2;exact⟨h1,h2⟩
     ·cases this
    dsimp only
    refine⟨fun h=>?_,fun h=>?_⟩
    ·split at h
     ·cases h
     ·rename_i h5
      refine⟨by omega,by omega,fun n hn=>?_,iz.1 (fun k hk=>(hno k hk).2),fun n hn=>?_,iz.1 (fun k hk=>(hco k hk).2),by omega⟩
      ·obtain⟨k,hk,rfl⟩:=List.mem_iff_getElem.1 hn
       exact(hno k hk).1
      ·obtain⟨k,hk,rfl⟩:=List.mem_iff_getElem.1 hn
       exact(hco k hk).1
    ·rw[if_neg (by have:=h.cnt;omega)]
theorem insF_l2 {n:Nat} {data0:List Int} (h0:data0.length=n) (hn:n<1000000) {cmp:Int→Int→Option Int} (c:Int→Int→Int) (f:Int→Int) (S:Int→Prop) (hc:∀x y,S x→S y→cmp x y=some (c x y)∧(c x y<0↔f x<f y)) (x:Int) (hx:S x) :
  ∀(k:Nat) (A1 T:List Int),A1.length=k→A1.length+1+T.length=n→(∀y∈A1,S y)→∃B1 B2:List Int,A1=B1++B2∧aH (aI data0 0 cmp) ((A1.length:Int),A1++x::T)=some ((B1.length:Int),B1++x::(B2++T))∧(∀y∈B2,f x<f y)∧(∀y,B1.getLast? = some y→¬f x<f y):=by
 intro k
 induction k with
 | zero =>
  intro A1 T hk hl hS
  have:A1=[]:=List.eq_nil_of_length_eq_zero hk
  subst this
  refine⟨[],[],O,?_,by simp,by simp⟩
  refine bV ?_
  unfold aI;dsimp only
  rfl
 | succ k ih =>
  intro A1 T hk hl hS
  obtain⟨A,y,rfl⟩:∃A y,A1=A++[y]:=⟨A1.dropLast,A1.getLast (by intro h;rw[h]at hk;cases hk),(List.dropLast_concat_getLast _).symm⟩
  have hA:A.length=k:=by simpa using hk
  simp only[List.length_append,List.length_cons,List.length_nil]at hl
  have hy:S y:=hS y (by simp)
  have e1:A++[y]++x::T=A++y::x::T:=by simp
  have hi:(((A++[y]).length:Nat):Int)=(A.length:Int)+1:=by simp
  have hj1:w64 ((((A++[y]).length:Nat):Int)-1)=(A.length:Int):=by rw[gK (by simp only[List.length_append,List.length_cons,List.length_nil];omega) (by simp only[List.length_append,List.length_cons,List.length_nil];omega)];simp
  have r1:rdL (A++[y]++x::T) (((A++[y]).length:Nat):Int)=x:=qm _ _ _ _ O
  have r2:rdL (A++[y]++x::T) (A.length:Int)=y:=by rw[e1];exact qm _ _ _ _ O
  obtain⟨hc1,hc2⟩:=hc x y hx hy
  have g1:(0:Int)≤(((A++[y]).length:Nat):Int)∧(((A++[y]).length:Nat):Int)<((data0.length:Nat):Int):=by rw[h0];simp only[List.length_append,List.length_cons,List.length_nil];omega
  have g2:(0:Int)≤(A.length:Int)∧(A.length:Int)<((data0.length:Nat):Int):=by rw[h0];omega
  have hd:decide ((0:Int)<(((A++[y]).length:Nat):Int))=true:=decide_eq_true (by rw[hi];omega)
  have step:aI data0 0 cmp ((((A++[y]).length:Nat):Int),A++[y]++x::T)=if f x<f y then some (.inl ((A.length:Int),A++x::([y]++T)))else some (.inr ((((A++[y]).length:Nat):Int),A++[y]++x::T)):=by
   unfold aI;dsimp only
   simp only[hj1,r1,r2,hd,if_true,gPo g1,gPo g2,hc1,oB,decide_eq_true_eq]
   by_cases hlt:f x<f y
   ·rw[if_pos (hc2.2 hlt),if_pos hlt]
    refine congrArg some (congrArg Sum.inl (Prod.ext O ?_))
    show((A++[y]++x::T).set (Int.toNat (((A++[y]).length:Nat):Int)) y).set (Int.toNat (A.length:Int)) x=_
    rw[Int.toNat_natCast,Int.toNat_natCast,nm (A++[y]) x y T _ O]
    have e3:A++[y]++y::T=A++y::(y::T):=by simp
    rw[e3,nm A y x (y::T) _ O]
    simp
   ·rw[if_neg (fun h=>hlt (hc2.1 h)),if_neg hlt]
  by_cases hlt:f x<f y
  ·rw[if_pos hlt]at step
   obtain⟨B1,B2,hB,hr,h2,h3⟩:=ih A ([y]++T) hA (by simp;omega) (fun z hz=>hS z (by simp[hz]))
   refine⟨B1,B2++[y],by rw[hB,List.append_assoc],?_,?_,h3⟩
   ·rw[im step,hr]
    simp
   ·intro z hz
    rcases List.mem_append.1 hz with hz|hz
    ·exact h2 z hz
    ·rw[List.mem_singleton.1 hz];exact hlt
  ·rw[if_neg hlt]at step
   refine⟨A++[y],[],by simp,?_,by simp,?_⟩
   ·rw[bV step];simp
   ·intro z hz
    simp at hz
    rw[←hz]
    exact hlt
theorem insF_all {l:List Int} (hl:l.length<1000000) {cmp:Int→Int→Option Int} (c:Int→Int→Int) (f:Int→Int) (hc:∀x y,x∈l→y∈l→cmp x y=some (c x y)∧(c x y<0↔f x<f y)) :
  ∃s,aU l 0 (l.length:Int) cmp=some s∧s.Perm l∧s.Pairwise (fun a b=>f a≤f b):=by
 unfold aU
 have e1:w64 (0+1)=1:=rfl
 rw[e1]
 have main:∀(R A:List Int),(A++R).Perm l→A.Pairwise (fun a b=>f a≤f b)→∃s,aH (aB l 0 (l.length:Int) cmp) ((A.length:Int),A++R)=some ((l.length:Int),s)∧s.Perm l∧s.Pairwise (fun a b=>f a≤f b):=by
  intro R
  induction R with
  | nil =>
   intro A hp hs
   have hlen:A.length=l.length:=by have:=hp.length_eq;simpa using this
   refine⟨A,?_,by simpa using hp,hs⟩
   rw[List.append_nil,hlen]
   refine bV ?_
   unfold aB;dsimp only
   rw[show decide ((l.length:Int)<(l.length:Int))=false from decide_eq_false (by omega)]
   rfl
  | cons x T ih =>
   intro A hp hs
   have hlen:A.length+(T.length+1)=l.length:=by have:=hp.length_eq;simpa using this
   obtain⟨B1,B2,hB,hr,h2,h3⟩:=insF_l2 (data0:=l) O hl c f (fun z=>z∈l) hc x (hp.mem_iff.1 (by simp)) A.length A T O (by omega) (fun y hy=>hp.mem_iff.1 (by simp[hy]))
   have hstep:aB l 0 (l.length:Int) cmp ((A.length:Int),A++x::T)=some (.inl (((B1++x::B2).length:Int),(B1++x::B2)++T)):=by
    unfold aB;dsimp only
    rw[show decide ((A.length:Int)<(l.length:Int))=true from decide_eq_true (by omega)]
    rw[if_pos O,hr,oB]
    have hw:w64 ((A.length:Int)+1)=(A.length:Int)+1:=gK (by omega) (by omega)
    simp only[hw]
    refine congrArg some (congrArg Sum.inl (Prod.ext ?_ ?_))
    ·simp[hB];omega
    ·simp
   have hs':(B1++x::B2).Pairwise (fun a b=>f a≤f b):=by
    rw[hB,List.pairwise_append]at hs
    obtain⟨s1,s2,s3⟩:=hs
    have hle:∀y∈B1,f y≤f x:=by
     intro y hy
     rcases List.eq_nil_or_concat B1 with rfl|⟨B,z,rfl⟩
     ·cases hy
     ·have hz:=h3 z (by simp)
      rw[List.concat_eq_append]at hy s1
      rcases List.mem_append.1 hy with hy|hy
      ·rw[List.pairwise_append]at s1
       have:=s1.2.2 y hy z (by simp);omega
      ·rw[List.mem_singleton.1 hy];omega
    rw[List.pairwise_append]
    refine⟨s1,List.pairwise_cons.2 ⟨fun y hy=>by have:=h2 y hy;omega,s2⟩,fun a ha b hb=>?_⟩
    rcases List.mem_cons.1 hb with rfl|hb
    ·exact hle a ha
    ·exact s3 a ha b hb
   have hp':((B1++x::B2)++T).Perm l:=by
    refine List.Perm.trans ?_ hp
    rw[hB]
    simp only[List.append_assoc,List.cons_append]
    exact List.Perm.append_left B1 (List.perm_middle).symm
   obtain⟨s,h4,h5,h6⟩:=ih (B1++x::B2) hp' hs'
   exact⟨s,by rw[im hstep];exact h4,h5,h6⟩
 rcases l with _|⟨x,T⟩
 ·have:aH (aB [] 0 (([]:List Int).length:Int) cmp) (1,[])=some (1,[]):=by
   refine bV ?_
   unfold aB
   rfl
  exact⟨[],by rw[this];rfl,List.Perm.refl _,List.Pairwise.nil⟩
 ·obtain⟨s,h1,h2,h3⟩:=main T [x] (by simp) (by simp)
  have h1':aH (aB (x::T) 0 ((x::T).length:Int) cmp) (1,x::T)=some (((x::T).length:Int),s):=h1
  exact⟨s,by rw[h1'];rfl,h2,h3⟩
theorem compare_eq (a b:Int):dR a b=some (if a<b then -1 else if b<a then 1 else 0):=by
 unfold dR df
 simp only[bne_self_eq_false,oB,Bool.false_eq_true,if_false]
 by_cases h1:a<b
 ·simp[h1]
 ·by_cases h2:b<a <;> simp[h1,h2]
def th (n:Nat):List Int:=(List.range n).map fun k:Nat=>(k:Int)
theorem levels_eq {l:TL} (hl:l.fNo.length<20):∃o,fx l=some o∧o.Perm (th l.fNo.length)∧o.Pairwise (fun a b=>(rdL l.fNo a).fLevel≤(rdL l.fNo b).fLevel):=by
 unfold fx
 rw[gPo (by omega)]
 have hrun:=jF (body:=cU l) (fun k=>((k:Int),(th k)++List.replicate (l.fNo.length-k) 0)) l.fNo.length (t:=((l.fNo.length:Int),th l.fNo.length)) (fun k hk=>by
  unfold cU;dsimp only
  rw[Int.toNat_natCast,dY (by omega),gPo (by omega),a7 (by omega),Int.toNat_natCast]
  refine congrArg some (congrArg Sum.inl (Prod.ext O ?_))
  show(th k++List.replicate (l.fNo.length-k) 0).set k (k:Int)=_
  rw[show l.fNo.length-k=(l.fNo.length-(k+1))+1 by omega,List.replicate_succ,nm _ _ _ _ _ (by simp[th])]
  unfold th
  rw[List.range_succ,List.map_append,List.append_assoc]
  rfl) (by
  unfold cU;dsimp only
  rw[Int.toNat_natCast,da (by omega),Nat.sub_self]
  simp)
 have e0:aH (cU l) (0,List.replicate (Int.toNat ((l.fNo.length:Nat):Int)) 0)=some ((l.fNo.length:Int),th l.fNo.length):=by
  rw[Int.toNat_natCast]
  simpa [th]using hrun
 rw[e0,oB]
 have hmem:∀x∈th l.fNo.length,0≤x∧x<((l.fNo.length:Nat):Int):=fun x hx=>by
  obtain⟨k,hk,rfl⟩:=List.mem_map.1 hx
  have:=List.mem_range.1 hk
  omega
 have hlen:(th l.fNo.length).length=l.fNo.length:=by simp[th]
 obtain⟨s,h1,h2,h3⟩:=insF_all (l:=th l.fNo.length) (by omega) (cmp:=fun x11 x12=>du x11 x12 l) (fun x y=>if(rdL l.fNo x).fLevel<(rdL l.fNo y).fLevel then -1 else if(rdL l.fNo y).fLevel<(rdL l.fNo x).fLevel then 1 else 0) (fun x=>(rdL l.fNo x).fLevel) (fun x y hx hy=>by
  refine⟨?_,?_⟩
  ·unfold du
   rw[gPo (hmem x hx),gPo (hmem y hy),compare_eq]
   rfl
  ·by_cases a1:(rdL l.fNo x).fLevel<(rdL l.fNo y).fLevel
   ·simp[a1]
   ·by_cases a2:(rdL l.fNo y).fLevel<(rdL l.fNo x).fLevel
    ·simp[a1,a2]
    ·simp[a1,a2])
 refine⟨s,?_,h2,h3⟩
 unfold bg bO
 have s1:bv (((th l.fNo.length).length:Nat):Int) (0,20)=some (.inr (0,20)):=by
  unfold bv;dsimp only
  rw[gPo (decide_eq_false (by omega))]
 have s2:bz (((th l.fNo.length).length:Nat):Int) (20,0,20)=some (.inr (20,0,20)):=by
  unfold bz;dsimp only
  rw[gPo (decide_eq_false (by omega))]
 rw[bV s1,oB]
 dsimp only
 rw[h1,oB,bV s2]
 rfl
inductive Comes (E:List TH) (F:List Int):Int→Prop
 | base {x:Int}:x∈F→Comes E F x
 | step {h:TH}:Comes E F h.fFrom→h∈E→Comes E F h.fTo
theorem Comes.mono {E E':List TH} {F F':List Int} (hE:∀h∈E,h∈E') (hF:∀x∈F,x∈F') {q:Int} (h:Comes E F q):Comes E' F' q:=by
 induction h with
 | base hx=>exact .base (hF _ hx)
 | step _ hh ih=>exact .step ih (hE _ hh)
def IDs (l:TL):List Int:=l.fNo.map (·.fID)
def oO (l:TL) (i:Nat):List TH:=(l.fC.getD i default).fO
def jW (o:List TH) (s:Nat→Bool) (n:Nat):List TH:=((List.range n).filter s).map fun k=>o.getD k default
def l5 (l:TL) (s:Nat→Nat→Bool) (n:Nat):List TH:=(List.range n).flatMap fun i=>jW (oO l i) (s i) (oO l i).length
def Ed (l:TL) (s:Nat→Nat→Bool):List TH:=l5 l s l.fC.length
theorem rl (o:List TH) (s:Nat→Bool) (n:Nat):jW o s (n+1)=jW o s n++if s n=true then[o.getD n default]else[]:=by
 unfold jW
 rw[List.range_succ,List.filter_append,List.map_append]
 cases h:s n <;> simp[h]
theorem pq (l:TL) (s:Nat→Nat→Bool) (n:Nat):l5 l s (n+1)=l5 l s n++jW (oO l n) (s n) (oO l n).length:=by
 unfold l5
 rw[List.range_succ,List.flatMap_append]
 simp
theorem oZ (o:List TH) (s:Nat→Bool):∀n,(jW o s n).length≤n
 | 0=>by simp[jW]
 | n+1=>by
  have:=oZ o s n
  rw[rl,List.length_append]
  split <;> simp <;> omega
theorem qE {l:TL} {s:Nat→Nat→Bool} {n:Nat} {h:TH}:h∈l5 l s n↔∃i k,i<n∧k<(oO l i).length∧s i k=true∧(oO l i).getD k default=h:=by
 unfold l5 jW
 simp only[List.mem_flatMap,List.mem_range,List.mem_map,List.mem_filter]
 exact⟨fun⟨i,hi,k,⟨hk,hs⟩,e⟩=>⟨i,k,hi,hk,hs,e⟩,fun⟨i,k,hi,hk,hs,e⟩=>⟨i,hi,k,⟨hk,hs⟩,e⟩⟩
structure Small (l:TL):Prop where
 ok:OkL l
 n12:l.fNo.length≤12
 c12:l.fC.length≤12
theorem lr {l:TL} (h:OkL l) {i:Nat} (hi:i<l.fC.length):nS l (oO l i):=by
 unfold oO
 rw[bB hi]
 exact(h.claims _ (List.getElem_mem hi)).2
theorem opt_ok {l:TL} (h:OkL l) {i k:Nat} (hi:i<l.fC.length) (hk:k<(oO l i).length):((oO l i).getD k default).fFrom∈IDs l∧((oO l i).getD k default).fTo∈IDs l∧lvI l ((oO l i).getD k default).fFrom<lvI l ((oO l i).getD k default).fTo:=by
 obtain⟨⟨a,b,c⟩,_⟩:=(lr h hi).2 k hk
 exact⟨cQ.1 a,cQ.1 b,c⟩
theorem qt {l:TL} (h:OkL l) {s:Nat→Nat→Bool} {n:Nat} (hn:n≤l.fC.length) {x:TH} (hx:x∈l5 l s n):x.fFrom∈IDs l∧x.fTo∈IDs l∧lvI l x.fFrom<lvI l x.fTo:=by
 obtain⟨i,k,hi,hk,_,rfl⟩:=qE.1 hx
 exact opt_ok h (by omega) hk
theorem ra {l:TL} (h:OkL l) {s:Nat→Nat→Bool}:∀{n:Nat},n≤l.fC.length→(l5 l s n).length≤4*n
 | 0,_=>by simp[l5]
 | n+1,hn=>by
  have:=ra h (s:=s) (n:=n) (by omega)
  have h2:=(lr h (i:=n) (by omega)).1.2
  have h3:=oZ (oO l n) (s n) (oO l n).length
  rw[pq,List.length_append]
  omega
theorem id_rg {l:TL} (h:OkL l) {x:Int} (hx:x∈IDs l):1≤x∧x≤1099511627776:=by
 obtain⟨n,hn,rfl⟩:=List.mem_map.1 hx
 exact(h.nodes n hn).1
theorem rngB_i {x:Int} (h1 : -9223372036854775808≤x) (h2:x≤9223372036854775807):cX x=true:=by
 unfold cX
 rw[decide_eq_true h1,decide_eq_true h2];rfl
theorem nD {l:TL} (h:OkL l) {x:Int} (hx:x∈IDs l):cX x=true:=by
 have:=id_rg h hx
 exact rngB_i (by omega) (by omega)
def stepN (m:List (Int × List Int)) (h:TH):List (Int × List Int):=(h.fFrom,aw [] m h.fFrom++[h.fTo])::m
def mC (E:List TH):List (Int × List Int):=E.foldl stepN []
def tgt (E:List TH) (a:Int):List Int:=(E.filter fun h=>decide (h.fFrom=a)).map (·.fTo)
theorem pm (E:List TH) (h:TH):mC (E++[h])=stepN (mC E) h:=by simp[mC]
theorem oU {α:Type} {P:List α→Prop} (h0:P []) (h1:∀l x,P l→P (l++[x])) (l:List α):P l:=by
 have:∀n (l:List α),l.length=n→P l:=by
  intro n
  induction n with
  | zero=>intro l hl;rw[List.eq_nil_of_length_eq_zero hl];exact h0
  | succ n ih =>
   intro l hl
   rcases List.eq_nil_or_concat l with rfl|⟨l',x,rfl⟩
   ·exact h0
   ·rw[List.concat_eq_append];exact h1 _ _ (ih _ (by simpa using hl))
 exact this _ l O
theorem tO (E:List TH):∀a,aw [] (mC E) a=tgt E a:=by
 refine oU (P:=fun E=>∀a,aw [] (mC E) a=tgt E a) (fun a=>O) (fun E h ih a=>?_) E
 rw[pm]
 unfold stepN
 rw[iI,ih,ih]
 unfold tgt
 rw[List.filter_append,List.map_append]
 by_cases e:h.fFrom=a
 ·subst e;simp
 ·simp[e]
theorem nextM_len (E:List TH):(mC E).length=E.length:=by
 refine oU (P:=fun E=>(mC E).length=E.length) O (fun E h ih=>?_) E
 rw[pm]
 simp[stepN,ih]
theorem tgt_len (E:List TH) (a:Int):(tgt E a).length≤E.length:=by
 unfold tgt
 rw[List.length_map]
 exact List.length_filter_le _ _
theorem mem_tgt {E:List TH} {a b:Int}:b∈tgt E a↔∃h∈E,h.fFrom=a∧h.fTo=b:=by
 unfold tgt
 simp only[List.mem_map,List.mem_filter,decide_eq_true_eq]
 exact⟨fun⟨h,⟨a,b⟩,c⟩=>⟨h,a,b,c⟩,fun⟨h,a,b,c⟩=>⟨h,⟨a,b⟩,c⟩⟩
theorem tQ {l:TL} (h:Small l) {p2:Int→Int→Option Bool} {s:Nat→Nat→Bool} (hso:∀i k:Nat,i<l.fC.length→k<(oO l i).length→p2 (i:Int) (k:Int)=some (s i k)):aH (dn l p2) (0,[])=some ((l.fC.length:Int),mC (Ed l s)):=by
 have hc:=h.c12
 refine jF (body:=dn l p2) (fun i=>((i:Int),mC (l5 l s i))) l.fC.length (fun i hi=>?_) ?_
 ·unfold dn;dsimp only
  have ho:(rdL l.fC (i:Int)).fO=oO l i:=by rw[aV hi];unfold oO;rw[bB hi]
  rw[dY (by omega),gPo (by omega)]
  have hlen:=(lr h.ok hi).1.2
  have hel:=ra h.ok (s:=s) (n:=i) (by omega)
  have hrun:=jF (body:=dl l p2 ((i:Int),mC (l5 l s i))) (fun k=>((k:Int),mC (l5 l s i++jW (oO l i) (s i) k))) (oO l i).length (t:=(((oO l i).length:Int),mC (l5 l s i++jW (oO l i) (s i) (oO l i).length))) (fun k hk=>by
   unfold dl;dsimp only
   rw[ho,dY (by omega),gPo (by omega),hso i k hi hk,oB,rl]
   have hrd:rdL (oO l i) (k:Int)=(oO l i).getD k default:=by rw[aV hk,bB hk]
   cases hs:s i k with
   | false=>simp[a7 (show k<9223372036854775807 by omega)]
   | true =>
    have hr:=nD h.ok (opt_ok h.ok hi hk).1
    have hlk:=oZ (oO l i) (s i) k
    have hL:(l5 l s i++jW (oO l i) (s i) k).length≤100:=by rw[List.length_append];omega
    have ht:=tgt_len (l5 l s i++jW (oO l i) (s i) k) ((oO l i).getD k default).fFrom
    simp only[if_true]
    rw[hrd,gPo hr,gPo (by rw[tO];omega),gPo ⟨hr,by rw[nextM_len];omega⟩,←List.append_assoc,pm,a7 (by omega)]
    rfl) (by
   unfold dl;dsimp only
   rw[ho,da (by omega)])
  have e0:aH (dl l p2 ((i:Int),mC (l5 l s i))) (0,mC (l5 l s i))=some (((oO l i).length:Int),mC (l5 l s i++jW (oO l i) (s i) (oO l i).length)):=by
   have:l5 l s i++jW (oO l i) (s i) 0=l5 l s i:=by simp[jW]
   simp only[this]at hrun
   exact hrun
  rw[e0,oB,pq,a7 (by omega)]
 ·unfold dn;dsimp only
  rw[da (by omega)]
  rfl
def cw (m:List (Int × Bool)) (xs:List Int):List (Int × Bool):=xs.foldl (fun m x=>(x,true)::m) m
theorem mu (m:List (Int × Bool)) (xs:List Int) (x:Int):cw m (xs++[x])=(x,true)::cw m xs:=by simp[cw]
theorem me (m:List (Int × Bool)) (xs:List Int):(cw m xs).length=m.length+xs.length:=by
 refine oU (P:=fun xs=>(cw m xs).length=m.length+xs.length) (by simp[cw]) (fun xs x ih=>?_) xs
 rw[mu]
 simp[ih]
 omega
theorem oW (m:List (Int × Bool)) (xs:List Int) (q:Int):aw false (cw m xs) q=true↔q∈xs∨aw false m q=true:=by
 refine oU (P:=fun xs=>aw false (cw m xs) q=true↔q∈xs∨aw false m q=true) (by simp[cw]) (fun xs x ih=>?_) xs
 rw[mu,iI]
 by_cases e:x=q
 ·subst e;simp
 ·rw[if_neg e,ih]
  simp only[List.mem_append,List.mem_singleton]
  have:¬q=x:=fun h=>e h.symm
  simp[this]
theorem rR {m:List (Int × Bool)} {xs:List Int} {p:Int × Bool} (h:p∈cw m xs):(p.1∈xs∧p.2=true)∨p∈m:=by
 revert h
 refine oU (P:=fun xs=>p∈cw m xs→(p.1∈xs∧p.2=true)∨p∈m) (fun h=>.inr h) (fun xs x ih h=>?_) xs
 rw[mu]at h
 rcases List.mem_cons.1 h with rfl|h
 ·simp
 ·rcases ih h with h|h
  ·exact .inl ⟨by simp[h.1],h.2⟩
  ·exact .inr h
theorem addLoop {body:(Int × List (Int × Bool))→Option ((Int × List (Int × Bool)) ⊕ (Int × List (Int × Bool)))} {xs:List Int} {m:List (Int × Bool)} (h:∀k,(hk:k<xs.length)→body ((k:Int),cw m (xs.take k))=some (.inl (((k+1:Nat):Int),(xs[k],true)::cw m (xs.take k)))) (hs:body ((xs.length:Int),cw m xs)=some (.inr ((xs.length:Int),cw m xs))) :
  aH body (0,m)=some ((xs.length:Int),cw m xs):=by
 have:=jF (body:=body) (fun k=>((k:Int),cw m (xs.take k))) xs.length (t:=((xs.length:Int),cw m xs)) (fun k hk=>by
  rw[h k hk,List.take_succ_eq_append_getElem hk,mu]) (by rw[List.take_length];exact hs)
 simpa [cw]using this
structure SetP (l:TL) (m:List (Int × Bool)) (Q:Int→Prop):Prop where
 get:∀q,aw false m q=true↔Q q
 key:∀p∈m,p.1∈IDs l∧p.2=true
def nid (l:TL) (i:Int):Int:=(rdL l.fNo i).fID
def nJ (l:TL) (E:List TH) (m:List (Int × Bool)) (i:Int):List (Int × Bool):=if aw false m (nid l i)=true then cw m (tgt E (nid l i))else m
def l6 (l:TL) (E:List TH) (m:List (Int × Bool)) (o:List Int):List (Int × Bool):=o.foldl (nJ l E) m
theorem m6 {l:TL} {E:List TH} {m:List (Int × Bool)} {i q:Int}:aw false (nJ l E m i) q=true↔aw false m q=true∨(aw false m (nid l i)=true∧∃h∈E,h.fFrom=nid l i∧h.fTo=q):=by
 unfold nJ
 by_cases h:aw false m (nid l i)=true
 ·rw[if_pos h,oW,mem_tgt]
  exact⟨fun h'=>h'.elim (fun a=>.inr ⟨h,a⟩) .inl,fun h'=>h'.elim .inr (fun a=>.inl a.2)⟩
 ·rw[if_neg h]
  exact⟨.inl,fun h'=>h'.elim id (fun a=>absurd a.1 h)⟩
theorem r7 {l:TL} {E:List TH} {q:Int}:∀{o:List Int} {m:List (Int × Bool)},aw false m q=true→aw false (l6 l E m o) q=true
 | [],_,h=>h
 | i::o,m,h=>r7 (o:=o) (m:=nJ l E m i) (m6.2 (.inl h))
theorem rp {l:TL} {E:List TH} {F:List Int} {q:Int}:∀{o:List Int} {m:List (Int × Bool)},(∀q,aw false m q=true→Comes E F q)→aw false (l6 l E m o) q=true→Comes E F q
 | [],_,hm,h=>hm _ h
 | i::o,m,hm,h=>rp (o:=o) (m:=nJ l E m i) (fun q hq=>by
   rcases m6.1 hq with hq|⟨h1,x,hx,e1,e2⟩
   ·exact hm _ hq
   ·rw[←e2]
    exact .step (e1▸hm _ h1) hx) h
theorem pE {l:TL} {E:List TH} (lv:Int→Int) (hE:∀h∈E,lv h.fFrom<lv h.fTo):∀{o:List Int} {m:List (Int × Bool)} (D:Int→Prop),o.Pairwise (fun a b=>lv (nid l a)≤lv (nid l b))→(∀a,D a→∀i∈o,lv a≤lv (nid l i)) →
  (∀a,D a→aw false m a=true→∀h∈E,h.fFrom=a→aw false m h.fTo=true) →
  ∀a,(D a∨∃i∈o,nid l i=a)→aw false (l6 l E m o) a=true→∀h∈E,h.fFrom=a→aw false (l6 l E m o) h.fTo=true
 | [],m,D,_,_,hD,a,ha,hm,h,hh,e=>by
  rcases ha with ha|⟨i,hi,_⟩
  ·exact hD a ha hm h hh e
  ·cases hi
 | i::o,m,D,hs,hl,hD,a,ha,hm,h,hh,e=>by
  rw[List.pairwise_cons]at hs
  refine pE lv hE (o:=o) (m:=nJ l E m i) (fun x=>D x∨x=nid l i) hs.2 (fun x hx j hj=>?_) (fun x hx hmx y hy ey=>?_) a ?_ hm h hh e
  ·rcases hx with hx|rfl
   ·exact hl x hx j (List.mem_cons_of_mem _ hj)
   ·exact hs.1 j hj
  ·have hlx:lv x≤lv (nid l i):=by
    rcases hx with hx|rfl
    ·exact hl x hx i (List.mem_cons_self)
    ·omega
   have hmx':aw false m x=true:=by
    rcases m6.1 hmx with h1|⟨_,z,hz,e1,e2⟩
    ·exact h1
    ·have:=hE z hz
     rw[e1,e2]at this
     omega
   rcases hx with hx|rfl
   ·exact m6.2 (.inl (hD x hx hmx' y hy ey))
   ·exact m6.2 (.inr ⟨hmx',y,hy,ey,O⟩)
  ·rcases ha with ha|⟨j,hj,rfl⟩
   ·exact .inl (.inl ha)
   ·rcases List.mem_cons.1 hj with rfl|hj
    ·exact .inl (.inr O)
    ·exact .inr ⟨j,hj,O⟩
theorem qU {l:TL} {E:List TH}:∀(o:List Int) (m:List (Int × Bool)),(l6 l E m o).length≤m.length+o.length*E.length
 | [],m=>by simp[l6]
 | i::o,m=>by
  have h1:=qU (l:=l) (E:=E) o (nJ l E m i)
  have h2:(nJ l E m i).length≤m.length+E.length:=by
   unfold nJ
   split
   ·rw[me]
    have:=tgt_len E (nid l i)
    omega
   ·omega
  have h3:(i::o).length*E.length=o.length*E.length+E.length:=by rw[List.length_cons,Nat.succ_mul]
  rw[h3]
  show(l6 l E (nJ l E m i) o).length≤_
  omega
theorem tC {l:TL} {E:List TH} {p:Int × Bool}:∀(o:List Int) (m:List (Int × Bool)),p∈l6 l E m o→p∈m∨(p.2=true∧∃h∈E,h.fTo=p.1)
 | [],m,h=>.inl h
 | i::o,m,h=>by
  rcases tC o (nJ l E m i) h with h|h
  ·unfold nJ at h
   split at h
   ·rcases rR h with⟨h1,h2⟩|h
    ·obtain⟨x,hx,_,e⟩:=mem_tgt.1 h1
     exact .inr ⟨h2,x,hx,e⟩
    ·exact .inl h
   ·exact .inl h
  ·exact .inr h
theorem nodes_lv {l:TL} (h:OkL l) {i:Int} (h0:0≤i) (h1:i<l.fNo.length):lvI l (nid l i)=(rdL l.fNo i).fLevel:=by
 obtain⟨k,rfl⟩:=Int.eq_ofNat_of_zero_le h0
 have hk:k<l.fNo.length:=by omega
 unfold lvI nid co
 rw[aV hk,sK h.nd hk,aV hk]
theorem reach_eq {l:TL} (h:Small l) {F:List Int} (hF:∀x∈F,x∈IDs l) (hFl:F.length≤1000) {p2:Int→Int→Option Bool} {s:Nat→Nat→Bool} (hso:∀i k:Nat,i<l.fC.length→k<(oO l i).length→p2 (i:Int) (k:Int)=some (s i k)) :
  ∃m,rcR l F p2=some m∧SetP l m (Comes (Ed l s) F)∧m.length≤F.length+12*(Ed l s).length:=by
 obtain⟨o,ho,hp,hs⟩:=levels_eq (l:=l) (by have:=h.n12;omega)
 have hon:∀i∈o,0≤i∧i<(l.fNo.length:Int):=fun i hi=>by
  have:=hp.mem_iff.1 hi
  simp only[th,List.mem_map,List.mem_range]at this
  obtain⟨k,hk,rfl⟩:=this
  omega
 have hol:o.length=l.fNo.length:=by rw[hp.length_eq];simp[th]
 have hidn:∀i∈o,nid l i∈IDs l:=fun i hi=>by
  obtain⟨h0,h1⟩:=hon i hi
  obtain⟨k,rfl⟩:=Int.eq_ofNat_of_zero_le h0
  have hk:k<l.fNo.length:=by omega
  unfold nid IDs
  rw[aV hk]
  exact List.mem_map.2 ⟨_,List.getElem_mem hk,O⟩
 have hEl:=ra h.ok (s:=s) (Nat.le_refl l.fC.length)
 have hE:=fun x hx=>qt h.ok (s:=s) (Nat.le_refl l.fC.length) (x:=x) hx
 have h12:=h.n12
 have hc12:=h.c12
 change (Ed l s).length≤_ at hEl
 refine⟨l6 l (Ed l s) (cw [] F) o,?_,⟨fun q=>⟨fun hq=>?_,fun hq=>?_⟩,fun p hp=>?_⟩,?_⟩
 ·unfold rcR
  rw[tQ h hso,oB]
  have e3:aH (dV F) (0,[])=some ((F.length:Int),cw [] F):=addLoop (fun k hk=>by
   unfold dV;dsimp only
   rw[dY (by omega),gPo (by omega),aV hk,gPo ⟨nD h.ok (hF _ (List.getElem_mem hk)),by rw[me];simp;omega⟩,a7 (by omega)]) (by
   unfold dV;dsimp only
   rw[da (by omega)])
  rw[e3,oB,ho,oB]
  have e4:=jF (body:=dm l ((l.fC.length:Int),mC (Ed l s)) o) (fun k=>((k:Int),l6 l (Ed l s) (cw [] F) (o.take k))) o.length (t:=((o.length:Int),l6 l (Ed l s) (cw [] F) o)) (fun k hk=>by
   have hi:=hon _ (List.getElem_mem hk)
   have hr:cX (rdL l.fNo o[k]).fID=true:=nD h.ok (hidn _ (List.getElem_mem hk))
   have hlen:(l6 l (Ed l s) (cw [] F) (o.take k)).length≤F.length+12*48:=by
    have a1:=qU (l:=l) (E:=Ed l s) (o.take k) (cw [] F)
    have a2:(o.take k).length≤12:=by rw[List.length_take];omega
    have a3:(o.take k).length*(Ed l s).length≤12*48:=Nat.mul_le_mul a2 (by omega)
    rw[me]at a1
    simp only[List.length_nil]at a1
    omega
   unfold dm;dsimp only
   rw[dY (by omega),gPo (by omega),aV hk,gPo hi,gPo hr,List.take_succ_eq_append_getElem hk,a7 (by omega)]
   show _=some (Sum.inl (((k+1:Nat):Int),(o.take k++[o[k]]).foldl (nJ l (Ed l s)) (cw [] F)))
   rw[List.foldl_append]
   show _=some (Sum.inl (((k+1:Nat):Int),nJ l (Ed l s) (l6 l (Ed l s) (cw [] F) (o.take k)) o[k]))
   unfold nJ
   change (if(!(aw false (l6 l (Ed l s) (cw [] F) (o.take k)) (nid l o[k])))=true then _ else _)=_
   by_cases hg:aw false (l6 l (Ed l s) (cw [] F) (o.take k)) (nid l o[k])=true
   ·rw[if_neg (by rw[hg];simp),if_pos hg,gPo hr]
    have e5:aH (dT l ((l.fC.length:Int),mC (Ed l s)) o ((k:Int),l6 l (Ed l s) (cw [] F) (o.take k))) (0,l6 l (Ed l s) (cw [] F) (o.take k))=some (((tgt (Ed l s) (nid l o[k])).length:Int),cw (l6 l (Ed l s) (cw [] F) (o.take k)) (tgt (Ed l s) (nid l o[k]))):=by
     have et:aw [] (mC (Ed l s)) (rdL l.fNo (rdL o (k:Int))).fID=tgt (Ed l s) (nid l o[k]):=by rw[tO,aV hk];rfl
     have htl:=tgt_len (Ed l s) (nid l o[k])
     refine addLoop (fun j hj=>?_) ?_
     ·unfold dT;dsimp only
      rw[et,dY (by omega),gPo (by omega),aV hj]
      have hm:=List.getElem_mem hj
      obtain⟨x,hx,_,ex⟩:=mem_tgt.1 hm
      rw[gPo ⟨by rw[←ex];exact nD h.ok (hE x hx).2.1,by rw[me,List.length_take];omega⟩,a7 (by omega)]
     ·unfold dT;dsimp only
      rw[et,da (by omega)]
    rw[e5]
    rfl
   ·have hg':aw false (l6 l (Ed l s) (cw [] F) (o.take k)) (nid l o[k])=false:=by
     cases hh:aw false (l6 l (Ed l s) (cw [] F) (o.take k)) (nid l o[k])
     ·rfl
     ·exact absurd hh hg
    rw[if_pos (by rw[hg'];rfl),if_neg hg]) (by
   unfold dm;dsimp only
   rw[da (by omega),List.take_length])
  have e4':aH (dm l ((l.fC.length:Int),mC (Ed l s)) o) (0,cw [] F)=some ((o.length:Int),l6 l (Ed l s) (cw [] F) o):=e4
  rw[e4']
  rfl
 ·exact rp (fun q hq=>by
   rcases (oW _ _ _).1 hq with hq|hq
   ·exact .base hq
   ·cases hq) hq
 ·have hcl:=pE (l:=l) (E:=Ed l s) (lvI l) (fun x hx=>(hE x hx).2.2) (o:=o) (m:=cw [] F) (fun _=>False) (by
   rw[List.pairwise_iff_getElem]at hs ⊢
   intro i j hi hj hij
   rw[nodes_lv h.ok (hon _ (List.getElem_mem hi)).1 (hon _ (List.getElem_mem hi)).2,nodes_lv h.ok (hon _ (List.getElem_mem hj)).1 (hon _ (List.getElem_mem hj)).2]
   exact hs i j hi hj hij) (fun a ha=>ha.elim) (fun a ha=>ha.elim)
  induction hq with
  | base hx=>exact r7 ((oW _ _ _).2 (.inl hx))
  | @step x _ hx ih =>
   refine hcl x.fFrom (.inr ?_) ih x hx O
   have hm:=(hE x hx).1
   obtain⟨n,hn,e⟩:=List.mem_map.1 hm
   obtain⟨k,hk,rfl⟩:=List.mem_iff_getElem.1 hn
   refine⟨(k:Int),hp.mem_iff.2 (by simp only[th,List.mem_map,List.mem_range];exact⟨k,hk,O⟩),?_⟩
   unfold nid
   rw[aV hk]
   exact e
 ·rcases tC o (cw [] F) hp with hp|⟨h1,x,hx,e⟩
  ·rcases rR hp with hp|hp
   ·exact⟨hF _ hp.1,hp.2⟩
   ·cases hp
  ·exact⟨e▸(hE x hx).2.1,h1⟩
 ·have a1:=qU (l:=l) (E:=Ed l s) o (cw [] F)
  have a3:o.length*(Ed l s).length≤12*(Ed l s).length:=Nat.mul_le_mul_right _ (by omega)
  rw[me]at a1
  simp only[List.length_nil]at a1
  omega
theorem tG {S T α:Type} {f:S→α→Option (S ⊕ T)} {xs:List α} {s:S} (I:List α→S→Prop) (h0:I [] s) (h1:∀pre x suf s,xs=pre++x::suf→I pre s→∃s',f s x=some (.inl s')∧I (pre++[x]) s'):∃s',fz f xs s=some (.inl s')∧I xs s':=by
 have key:∀(ys pre:List α) (s:S),xs=pre++ys→I pre s→∃s',fz f ys s=some (.inl s')∧I xs s':=by
  intro ys
  induction ys with
  | nil=>intro pre s hx hi;rw[List.append_nil]at hx;subst hx;exact⟨s,O,hi⟩
  | cons y ys ih =>
   intro pre s hx hi
   obtain⟨s1,e1,i1⟩:=h1 pre y ys s hx hi
   obtain⟨s2,e2,i2⟩:=ih (pre++[y]) s1 (by rw[hx];simp) i1
   refine⟨s2,?_,i2⟩
   unfold fz
   rw[e1]
   exact e2
 exact key xs [] s O h0
theorem allC_iff:∀(ks:List Nat) (c:List Int),c∈pP ks↔c.length=ks.length∧∀i:Nat,i<ks.length→0≤c.getD i 0∧c.getD i 0<((ks.getD i 0:Nat):Int)
 | ks,c=>by
  refine⟨nX ks c,fun h=>?_⟩
  induction ks generalizing c with
  | nil =>
   have:c=[]:=List.eq_nil_of_length_eq_zero h.1
   subst this
   simp[pP]
  | cons k ks ih =>
   obtain⟨h1,h2⟩:=h
   cases c with
   | nil=>simp at h1
   | cons x c =>
    have hx:=h2 0 (by simp)
    simp at hx
    have:=ih c ⟨by simpa using h1,fun i hi=>by have:=h2 (i+1) (by simpa using hi);simpa using this⟩
    simp only[pP,List.mem_flatMap,List.mem_map,List.mem_range]
    exact⟨x.toNat,by omega,c,this,by rw[Int.toNat_of_nonneg hx.1]⟩
def i9:List Nat→Nat
 | []=>1
 | k::ks=>k*i9 ks
theorem qv:∀a b:List Nat,i9 (a++b)=i9 a*i9 b
 | [],b=>by simp[i9]
 | k::a,b=>by show k*i9 (a++b)=k*i9 a*i9 b;rw[qv a b,Nat.mul_assoc]
theorem flat_len {α β:Type} (f:α→List β) (n:Nat):∀xs:List α,(∀x,(f x).length=n)→(xs.flatMap f).length=xs.length*n
 | [],_=>by simp
 | x::xs,h=>by rw[List.flatMap_cons,List.length_append,flat_len f n xs h,h,List.length_cons,Nat.succ_mul,Nat.add_comm]
theorem sO:∀ks:List Nat,(pP ks).length=i9 ks
 | []=>rfl
 | k::ks=>by
  unfold pP i9
  rw[flat_len _ (i9 ks) _ (fun x=>by rw[List.length_map,sO ks]),List.length_range]
theorem tt (l:TL) {i:Nat} (hi:i<l.fC.length):(sKs l).getD i 0=(oO l i).length:=by
 unfold sKs oO
 rw[List.getD_eq_getElem?_getD,List.getElem?_map,List.getElem?_eq_getElem hi,bB hi]
 rfl
theorem rW (l:TL):(sKs l).length=l.fC.length:=by simp[sKs]
theorem li {l:TL} {c:List Int}:c∈sCs l↔c.length=l.fC.length∧∀i:Nat,i<l.fC.length→0≤c.getD i 0∧c.getD i 0<((oO l i).length:Int):=by
 unfold sCs
 rw[allC_iff,rW]
 exact⟨fun h=>⟨h.1,fun i hi=>by have:=h.2 i hi;rwa [tt l hi]at this⟩,fun h=>⟨h.1,fun i hi=>by have:=h.2 i hi;rwa [←tt l hi]at this⟩⟩
theorem tb {l:TL} (h:∀i,i<l.fC.length→1≤(oO l i).length):∀n,n≤l.fC.length→nx l n≤4096→nx l n=(i9 ((sKs l).take n):Int)
 | 0,_,_=>rfl
 | n+1,hn,hc=>by
  have h1:=cntI_rg l n
  have hk:=h n (by omega)
  have ho:(l.fC.getD n default).fO.length=(oO l n).length:=rfl
  have hlt:n<(sKs l).length:=by rw[rW];omega
  unfold nx at hc ⊢
  rw[ho]at hc ⊢
  have hge:nx l n*1≤nx l n*((oO l n).length:Int):=Int.mul_le_mul_of_nonneg_left (by omega) h1.1
  have ih:=tb h n (by omega) (by omega)
  rw[List.take_succ_eq_append_getElem hlt,qv]
  have e:(sKs l)[n]=(oO l n).length:=by
   rw[←tt l (by omega),List.getD_eq_getElem?_getD,List.getElem?_eq_getElem hlt];rfl
  rw[e,Int.min_eq_left (by omega),ih]
  simp[i9]
theorem sA {l:TL} (h:OkL l):∀i,i<l.fC.length→1≤(oO l i).length:=fun i hi=>(lr h hi).1.1
theorem Cs_cnt {l:TL} (h:OkL l):nx l l.fC.length=((sCs l).length:Int):=by
 rw[tb (sA h) _ (Nat.le_refl _) h.cnt]
 unfold sCs
 rw[sO,←rW l,List.take_length]
theorem Cs_len {l:TL} (h:OkL l):(sCs l).length≤4096:=by
 have:=Cs_cnt h
 have:=h.cnt
 omega
theorem sL {l:TL} (h:OkL l):List.replicate l.fC.length 0∈sCs l:=by
 refine li.2 ⟨by simp,fun i hi=>?_⟩
 have:=sA h i hi
 rw[List.getD_eq_getElem?_getD,List.getElem?_replicate,if_pos hi]
 simp
 omega
theorem Cs_ok {l:TL} (h:OkL l):bX l:=by
 refine⟨by have:=h.nc;omega,fun x hx=>?_⟩
 have:=(h.claims x hx).2.1
 omega
def sC (c:List Int):Nat→Nat→Bool:=fun i k=>rdL c (i:Int)==(k:Int)
def EC (l:TL) (c:List Int):List TH:=Ed l (sC c)
theorem filter_one (x:Int) (n:Nat):((List.range n).filter fun k:Nat=>x==(k:Int)).length≤1:=by
 have:=kP (l1:=(List.range n).filter fun k:Nat=>x==(k:Int)) (l2:=[x.toNat]) (List.Nodup.sublist (List.filter_sublist) List.nodup_range) (fun k hk=>by
  have:=(List.mem_filter.1 hk).2
  simp at this
  simp[this])
 simpa using this
theorem EC_len (l:TL) (c:List Int):(EC l c).length≤l.fC.length:=by
 unfold EC Ed
 generalize l.fC.length=n
 induction n with
 | zero=>simp[l5]
 | succ n ih =>
  rw[pq,List.length_append]
  have:(jW (oO l n) (sC c n) (oO l n).length).length≤1:=by
   unfold jW
   rw[List.length_map]
   exact filter_one _ _
  omega
theorem n2 {l:TL} (h:Small l) {F:List Int} (hF:∀x∈F,x∈IDs l) (hFl:F.length≤12) {c:List Int} (hc:c∈sCs l) :
  ∃m,rcR l F (fun x y=>aN c x y)=some m∧SetP l m (Comes (EC l c) F)∧m.length≤156:=by
 obtain⟨m,h1,h2,h3⟩:=reach_eq h hF (by omega) (p2:=fun x y=>aN c x y) (s:=sC c) (fun i k hi hk=>by
  unfold aN sC
  rw[gPo (by rw[(li.1 hc).1];omega)])
 refine⟨m,h1,h2,?_⟩
 have:=EC_len l c
 have:=h.c12
 unfold EC at *
 omega
def PossP (l:TL) (F:List Int) (q:Int):Prop:=∃c∈sCs l,Comes (EC l c) F q
def SureP (l:TL) (F:List Int) (q:Int):Prop:=∀c∈sCs l,Comes (EC l c) F q
theorem SetP.has {l:TL} {m:List (Int × Bool)} {Q:Int→Prop} (h:SetP l m Q) (q:Int):bH m q=true↔Q q:=by
 rw[←h.get q,oh]
 have hk:∀p∈m,p.2=true:=fun p hp=>(h.key p hp).2
 clear h
 induction m with
 | nil=>simp[aw]
 | cons p m ih =>
  obtain⟨k,v⟩:=p
  have hv:v=true:=hk (k,v) (by simp)
  subst hv
  rw[iI]
  by_cases e:k=q
  ·simp[e]
  ·have ih':=ih (fun p hp=>hk p (List.mem_cons_of_mem _ hp))
   rw[if_neg e]
   refine Iff.trans ?_ ih'
   simp only[List.map_cons,List.mem_cons]
   exact⟨fun h=>h.resolve_left (fun e'=>e e'.symm),.inr⟩
theorem unionV_len {β γ:Type} (v:γ) (M:List (Int × β)) (m:List (Int × γ)):(lQ v M m).length=M.length+m.length:=by simp[lQ]
theorem qD {l:TL} (h:Small l) {F:List Int} (hF:∀x∈F,x∈IDs l) (hFl:F.length≤12):∃m,bI l F=some m∧SetP l m (PossP l F)∧m.length≤1000000:=by
 have hlen:=Cs_len h.ok
 obtain⟨m,h1,h2,h3⟩:=tG (f:=dz l F) (xs:=sCs l) (s:=[]) (fun pre m=>SetP l m (fun q=>∃c∈pre,Comes (EC l c) F q)∧m.length≤156*pre.length) ⟨⟨fun q=>by simp[aw],fun p hp=>by cases hp⟩,by simp⟩ (fun pre c suf m hx ⟨i1,i2⟩=>by
  have hc:c∈sCs l:=by rw[hx];simp
  obtain⟨r,e1,e2,e3⟩:=n2 h hF hFl hc
  have hpl:pre.length<4096:=by
   have:=congrArg List.length hx
   simp at this
   omega
  refine⟨lQ true r m,?_,⟨fun q=>?_,fun p hp=>?_⟩,?_⟩
  ·unfold dz bM
   rw[oB,e1,oB,gPo (by omega)]
  ·rw[sf]
   by_cases hq:bH r q=true
   ·rw[if_pos hq]
    exact⟨fun _=>⟨c,by simp,(e2.has q).1 hq⟩,fun _=>O⟩
   ·rw[if_neg hq,i1.get]
    refine⟨fun⟨d,hd,hq'⟩=>⟨d,by simp[hd],hq'⟩,fun⟨d,hd,hq'⟩=>?_⟩
    rcases List.mem_append.1 hd with hd|hd
    ·exact⟨d,hd,hq'⟩
    ·rw[List.mem_singleton.1 hd]at hq'
     exact absurd ((e2.has q).2 hq') hq
  ·unfold lQ at hp
   rcases List.mem_append.1 hp with hp|hp
   ·obtain⟨p',hp',rfl⟩:=List.mem_map.1 hp
    exact⟨(e2.key p' hp').1,O⟩
   ·exact i1.key p hp
  ·rw[unionV_len,List.length_append]
   simp
   omega)
 refine⟨m,?_,h2,by omega⟩
 unfold bI cv
 rw[oB,gPo (Cs_ok h.ok),h1]
 rfl
theorem sure_eq {l:TL} (h:Small l) {F:List Int} (hF:∀x∈F,x∈IDs l) (hFl:F.length≤12):∃m,eM l F=some m∧SetP l m (SureP l F)∧m.length≤1000000:=by
 obtain⟨m0,g1,g2,g3⟩:=qD h hF hFl
 obtain⟨m,h1,h2,h3⟩:=tG (f:=fZ l F) (xs:=sCs l) (s:=m0) (fun pre m=>SetP l m (fun q=>PossP l F q∧∀c∈pre,Comes (EC l c) F q)∧m.length≤1000000) ⟨⟨fun q=>by rw[g2.get];simp,g2.key⟩,g3⟩ (fun pre c suf m hx ⟨i1,i2⟩=>by
  have hc:c∈sCs l:=by rw[hx];simp
  obtain⟨r,e1,e2,e3⟩:=n2 h hF hFl hc
  refine⟨m.filter (fun p => !(fun y33=>(!(aw false r y33))) p.1),?_,⟨fun q=>?_,fun p hp=>i1.key p (List.mem_filter.1 hp).1⟩,by have:=List.length_filter_le (fun p:Int × Bool => !(fun y33=>(!(aw false r y33))) p.1) m;omega⟩
  ·unfold fZ bM
   rw[oB,e1]
   rfl
  ·rw[mD false (fun x => !!(aw false r x))]
   by_cases hq:aw false r q=true
   ·rw[if_pos (by rw[hq];rfl),i1.get]
    refine⟨fun⟨a,b⟩=>⟨a,fun d hd=>?_⟩,fun⟨a,b⟩=>⟨a,fun d hd=>b d (by simp[hd])⟩⟩
    rcases List.mem_append.1 hd with hd|hd
    ·exact b d hd
    ·rw[List.mem_singleton.1 hd];exact(e2.get q).1 hq
   ·rw[if_neg (by simpa using hq)]
    refine⟨fun a=>(by cases a),fun⟨a,b⟩=>absurd ((e2.get q).2 (b c (by simp))) hq⟩)
 refine⟨m,?_,⟨fun q=>?_,h2.key⟩,h3⟩
 ·unfold eM cv
  rw[g1,oB,oB,gPo (Cs_ok h.ok),h1]
  rfl
 ·rw[h2.get]
  refine⟨fun a=>a.2,fun a=>⟨⟨_,sL h.ok,a _ (sL h.ok)⟩,a⟩⟩
theorem tA {l:TL} (h:Small l) {m:List (Int × Bool)} (hm:∀p∈m,p.1∈IDs l) (hl:m.length≤1000000):bt m=some (iC m):=by
 unfold bt
 have hmem:∀q∈iC m,q∈IDs l:=fun q hq=>by
  have hq':=((eI m).2 q).1 hq
  have hh:bH m q=true:=by
   cases e:bH m q
   ·rw[od e]at hq';cases hq'
   ·rfl
  obtain⟨p,hp,rfl⟩:=List.mem_map.1 (oh.1 hh)
  exact hm p hp
 have hn:=kP (eI m).1.nodup hmem
 have h12:=h.n12
 unfold IDs at hn
 rw[List.length_map]at hn
 rw[gPo ⟨hl,by omega,List.all_eq_true.2 (fun p hp=>nD h.ok (hm p hp))⟩]
def IsFrom (l:TL) (F:List Int):Prop:=0<F.length∧StrictI F∧∀x∈F,x∈IDs l
theorem rT {F:List Int} (h:∀k,(hk:k+1<F.length)→F[k]<F[k+1]):StrictI F:=by
 unfold StrictI
 rw[List.pairwise_iff_getElem]
 intro i j hi hj hij
 have:∀d,(hd:i+1+d<F.length)→F[i]<F[i+1+d]:=by
  intro d
  induction d with
  | zero=>intro hd;exact h i hd
  | succ d ih=>intro hd;have a:=ih (by omega);have b:=h (i+1+d) (by omega);exact Int.lt_trans a b
 have h2:=this (j-(i+1)) (by omega)
 have e:i+1+(j-(i+1))=j:=by omega
 simp only[e]at h2
 exact h2
theorem sB {F:List Int} (hl:F.length<1000000000) {so:Int→Option Bool} (P:Int→Prop) [∀x,Decidable (P x)] (hso:∀x∈F,so x=some (decide (P x))):∃b,bQ F (fun x=>fX x) so=some b∧(b=true↔(∀x∈F,P x)∧StrictI F):=by
 unfold bQ
 have hrun:=bk (body:=bd F (fun x=>fX x) so) (fun k=>(false,(k:Int))) F.length (fun k=>if P (F.getD k 0)∧(0<k→F.getD (k-1) 0<F.getD k 0)then none else some (Sum.inl (false,(k:Int)))) (t0:=.inr (false,(F.length:Int))) (fun k hk=>by
  unfold bd;dsimp only
  have eg:F.getD k 0=F[k]:=by rw[List.getD_eq_getElem?_getD,List.getElem?_eq_getElem hk];rfl
  rw[dY (by omega),gPo (by omega),aV hk,eg]
  simp only[fX,oB]
  rw[hso _ (List.getElem_mem hk),oB,a7 (by omega)]
  by_cases hP:P F[k]
  ·rw[if_neg (by simp[hP])]
   by_cases h0:0<k
   ·have eg1:F.getD (k-1) 0=F[k-1]'(by omega):=by rw[List.getD_eq_getElem?_getD,List.getElem?_eq_getElem (by omega)];rfl
    have ew:w64 ((k:Int)-1)=((k-1:Nat):Int):=by rw[gK (by omega) (by omega)];omega
    rw[dY (by omega),ew,gPo (by omega),aV (show k-1<F.length by omega),oB,oB,eg1]
    by_cases hlt:F[k-1]'(by omega)<F[k]
    ·rw[da (by omega),if_pos ⟨hP,fun _=>hlt⟩]
    ·rw[dY (by omega),if_neg (fun h=>hlt (h.2 h0))]
   ·rw[da (by omega),oB,oB,if_neg (by simp),if_pos ⟨hP,fun h=>absurd h h0⟩]
  ·rw[if_pos (by simp[hP]),oB,if_pos O,if_neg (fun h=>hP h.1)]) (by
  unfold bd;dsimp only
  rw[da (by omega)])
 have h0:aH (bd F (fun x=>fX x) so) (false,0)=_:=hrun
 rw[h0,oB]
 rcases bA (R:=fun k=>if P (F.getD k 0)∧(0<k→F.getD (k-1) 0<F.getD k 0)then none else some (Sum.inl (false,(k:Int)):(Bool × Int) ⊕ (Bool × Int))) (n:=F.length) (.inr (false,(F.length:Int)))with⟨hn,h2⟩|⟨k,t,hk,hR,hj,h2⟩
 ·rw[h2]
  have hall:∀k,(hk:k<F.length)→P (F.getD k 0)∧(0<k→F.getD (k-1) 0<F.getD k 0):=fun k hk=>by
   have:=hn k hk
   split at this
   ·assumption
   ·cases this
  have eg:∀k,(hk:k<F.length)→F.getD k 0=F[k]:=fun k hk=>by rw[List.getD_eq_getElem?_getD,List.getElem?_eq_getElem hk];rfl
  refine⟨true,O,fun _=>⟨fun x hx=>?_,rT (fun k hk=>?_)⟩,fun _=>O⟩
  ·obtain⟨k,hk,rfl⟩:=List.mem_iff_getElem.1 hx
   rw[←eg k hk]
   exact(hall k hk).1
  ·have:=(hall (k+1) hk).2 (by omega)
   rw[eg _ hk,Nat.add_sub_cancel,eg k (by omega)]at this
   exact this
 ·rw[h2]
  have eg:∀k,(hk:k<F.length)→F.getD k 0=F[k]:=fun k hk=>by rw[List.getD_eq_getElem?_getD,List.getElem?_eq_getElem hk];rfl
  have hno:¬(P (F.getD k 0)∧(0<k→F.getD (k-1) 0<F.getD k 0)):=fun h=>by rw[if_pos h]at hR;cases hR
  rw[if_neg hno]at hR
  cases hR
  refine⟨false,O,fun h=>(by cases h),fun⟨a,b⟩=>(hno ⟨?_,fun h0=>?_⟩).elim⟩
  ·rw[eg k hk];exact a _ (List.getElem_mem hk)
  ·rw[eg k hk,eg (k-1) (by omega)]
   exact List.pairwise_iff_getElem.1 b (k-1) k (by omega) hk (by omega)
theorem isFrom_eq {l:TL} {F:List Int} (hn:l.fNo.length<1000000000) (hl:F.length<1000000000):∃b,fw l F=some b∧(b=true↔IsFrom l F):=by
 obtain⟨b,h1,h2⟩:=sB hl (so:=fun x6=>dk x6 l) (fun x=>0≤co l x) (fun x hx=>by
  unfold dk
  rw[mZ hn]
  rfl)
 unfold fw
 by_cases h0:0<F.length
 ·rw[dY (by omega),h1]
  refine⟨b,O,h2.trans ?_⟩
  exact⟨fun⟨a,c⟩=>⟨h0,c,fun x hx=>cQ.1 (a x hx)⟩,fun⟨_,c,a⟩=>⟨fun x hx=>cQ.2 (a x hx),c⟩⟩
 ·rw[da (by omega)]
  exact⟨false,O,fun h=>(by cases h),fun h=>absurd h.1 h0⟩
theorem IsFrom.len {l:TL} (h:Small l) {F:List Int} (hf:IsFrom l F):F.length≤12:=by
 have:=kP hf.2.1.nodup hf.2.2
 have:=h.n12
 unfold IDs at *
 rw[List.length_map]at *
 omega
theorem asked_eq {l:TL} {F:List Int} (hl:F.length<1000000000):∃e,cy l F=some e∧(kz l≠0→e=kz l)∧(kz l=0→¬IsFrom l F→e=1)∧(kz l=0→IsFrom l F→e=0):=by
 unfold cy
 rw[Check_eq,oB]
 by_cases h0:kz l=0
 ·have hn:l.fNo.length<1000000000:=by have:=(sE.1 h0).nn;omega
  obtain⟨b,h1,h2⟩:=isFrom_eq (l:=l) (F:=F) hn hl
  rw[if_neg (by simp[h0]),h1,oB]
  cases b with
  | true=>exact⟨0,O,fun h=>absurd h0 h,fun _ h=>absurd (h2.1 O) h,fun _ _=>rfl⟩
  | false=>exact⟨1,O,fun h=>absurd h0 h,fun _ _=>rfl,fun _ h=>by have:=h2.2 h;cases this⟩
 ·rw[if_pos (by simp[h0])]
  exact⟨_,O,fun _=>O,fun h=>absurd h h0,fun h=>absurd h h0⟩
noncomputable def askS (l:TL) (F:List Int):Int:=@ite _ (kz l=0) (inferInstance) (@ite _ (IsFrom l F) (Classical.propDecidable _) 0 1) (kz l)
theorem asked_S {l:TL} {F:List Int} (hl:F.length<1000000000):cy l F=some (askS l F):=by
 obtain⟨e,h1,h2,h3,h4⟩:=asked_eq (l:=l) hl
 rw[h1]
 unfold askS
 by_cases h0:kz l=0
 ·rw[if_pos h0]
  by_cases hf:IsFrom l F
  ·rw[if_pos hf,h4 h0 hf]
  ·rw[if_neg hf,h3 h0 hf]
 ·rw[if_neg h0,h2 h0]
theorem askS_0 {l:TL} {F:List Int}:askS l F=0↔OkL l∧IsFrom l F:=by
 unfold askS
 rw[←sE]
 by_cases h0:kz l=0
 ·rw[if_pos h0]
  by_cases hf:IsFrom l F
  ·rw[if_pos hf];simp[h0,hf]
  ·rw[if_neg hf];simp[hf]
 ·rw[if_neg h0];simp[h0]
theorem ask0 {l:TL} (h:Small l) {F:List Int} (hf:IsFrom l F):cy l F=some 0:=by
 have:=hf.len h
 rw[asked_S (by omega),askS_0.2 ⟨h.ok,hf⟩]
theorem Surely_ok {l:TL} (h:Small l) {F:List Int} (hf:IsFrom l F):∃L,eC l F=some (L,0)∧StrictI L∧∀q,q∈L↔SureP l F q:=by
 obtain⟨m,h1,h2,h3⟩:=sure_eq h hf.2.2 (hf.len h)
 refine⟨iC m,?_,(eI m).1,fun q=>by rw[(eI m).2,h2.get]⟩
 unfold eC
 rw[ask0 h hf,oB,if_neg (by simp),h1,oB,tA h (fun p hp=>(h2.key p hp).1) h3]
 rfl
theorem Possibly_ok {l:TL} (h:Small l) {F:List Int} (hf:IsFrom l F):∃L,dh l F=some (L,0)∧StrictI L∧∀q,q∈L↔PossP l F q:=by
 obtain⟨m,h1,h2,h3⟩:=qD h hf.2.2 (hf.len h)
 refine⟨iC m,?_,(eI m).1,fun q=>by rw[(eI m).2,h2.get]⟩
 unfold dh
 rw[ask0 h hf,oB,if_neg (by simp),h1,oB,tA h (fun p hp=>(h2.key p hp).1) h3]
 rfl
noncomputable def cm (l:TL) (F:List Int) (q:Int) (c:List Int):Bool:=@decide (Comes (EC l c) F q) (Classical.propDecidable _)
theorem cm_iff {l:TL} {F:List Int} {q:Int} {c:List Int}:cm l F q c=true↔Comes (EC l c) F q:=by unfold cm;simp
theorem w64_nat {n:Nat} (h:n≤9223372036854775807):w64 (n:Int)=(n:Int):=gK (by omega) (by omega)
theorem few_eq {l:TL} (hl:l.fC.length≤9223372036854775807):∃b,iO l=some b∧(b=true→OkL l→Small l):=by
 unfold iO
 have key:∃t,aH (fH l) (false,1,0)=some t∧((∃x,t=.inl (false,x))∨∃x,t=.inr x):=by
  refine gT (body:=fH l) (fun s=>s.1=false∧0≤s.2.1∧s.2.1≤10000∧0≤s.2.2∧s.2.2≤(l.fC.length:Int)) (fun s t=>(∃x,t=.inl (false,x))∨∃x,t=.inr x) (fun s=>((l.fC.length:Int)-s.2.2).toNat) (fun s hs=>?_) _ ⟨O,by decide,by decide,by decide,by dsimp only;omega⟩
  obtain⟨b,n,i⟩:=s
  obtain⟨h1,h2,h3,h4,h5⟩:=hs
  dsimp only at h1 h2 h3 h4 h5 ⊢
  subst h1
  unfold fH;dsimp only
  by_cases hi:i<(l.fC.length:Int)
  ·rw[dY hi,gPo ⟨h4,hi⟩]
   by_cases h6:6<(((rdL l.fC i).fO.length:Nat):Int)
   ·rw[dY h6]
    exact .inr ⟨_,O,.inl ⟨_,O⟩⟩
   ·rw[da h6]
    have hm0:0≤n*(max 1 (((rdL l.fC i).fO.length:Nat):Int)):=Int.mul_nonneg h2 (by omega)
    have hm1:n*(max 1 (((rdL l.fC i).fO.length:Nat):Int))≤10000*6:=Int.mul_le_mul h3 (by omega) (by omega) (by omega)
    rw[gK (x:=n*(max 1 (((rdL l.fC i).fO.length:Nat):Int))) (by omega) (by omega),gK (x:=i+1) (by omega) (by omega)]
    refine .inl ⟨_,O,⟨O,?_,?_,?_,?_⟩,?_,fun t ht=>ht⟩ <;> dsimp only <;> omega
  ·rw[da hi]
   exact .inr ⟨_,O,.inr ⟨_,O⟩⟩
 obtain⟨t,h1,h2⟩:=key
 rw[h1,oB]
 rcases h2 with⟨x,rfl⟩|⟨x,rfl⟩
 ·exact⟨false,O,fun h=>(by cases h)⟩
 ·refine⟨_,O,fun h hok=>?_⟩
  have hn:=hok.nn
  have hc:=hok.nc
  simp only[Bool.and_eq_true,Bool.or_eq_true,decide_eq_true_eq]at h
  exact⟨hok,by omega,by omega⟩
theorem head_true:fR=some true:=pv 100 _ (by kernel_rfl)
def pick (l:TL) (c:List Int) (i:Nat):TH:=(oO l i).getD (c.getD i 0).toNat default
theorem pB {l:TL} {c:List Int} (hc:c∈sCs l) {h:TH}:h∈EC l c↔∃i,i<l.fC.length∧pick l c i=h:=by
 unfold EC Ed
 rw[qE]
 have hm:=(li.1 hc).2
 constructor
 ·rintro⟨i,k,hi,hk,hs,e⟩
  refine⟨i,hi,?_⟩
  unfold sC at hs
  rw[jI]at hs
  have:c.getD i 0=(k:Int):=by simpa using hs
  unfold pick
  rw[this]
  exact e
 ·rintro⟨i,hi,e⟩
  obtain⟨h1,h2⟩:=hm i hi
  refine⟨i,(c.getD i 0).toNat,hi,by omega,?_,e⟩
  unfold sC
  rw[jI,Int.toNat_of_nonneg h1]
  exact beq_self_eq_true _
structure Sub (m l:TL):Prop where
 len:m.fC.length=l.fC.length
 into:∀c∈sCs m,∃d∈sCs l,∀i,i<l.fC.length→pick m c i=pick l d i
theorem EC_pick {m l:TL} (hlen:m.fC.length=l.fC.length) {c d:List Int} (hc:c∈sCs m) (hd:d∈sCs l) (h:∀i,i<l.fC.length→pick m c i=pick l d i) (F:List Int) (q:Int):Comes (EC m c) F q↔Comes (EC l d) F q:=by
 refine⟨Comes.mono (fun x hx=>?_) (fun x hx=>hx),Comes.mono (fun x hx=>?_) (fun x hx=>hx)⟩
 ·obtain⟨i,hi,e⟩:=(pB hc).1 hx
  exact(pB hd).2 ⟨i,by omega,by rw[←h i (by omega)];exact e⟩
 ·obtain⟨i,hi,e⟩:=(pB hd).1 hx
  exact(pB hc).2 ⟨i,by omega,by rw[h i hi];exact e⟩
theorem Sub.sure {m l:TL} (h:Sub m l) {F:List Int} {q:Int} (hs:SureP l F q):SureP m F q:=fun c hc=>by
 obtain⟨d,hd,he⟩:=h.into c hc
 exact(EC_pick h.len hc hd he F q).2 (hs d hd)
theorem Sub.poss {m l:TL} (h:Sub m l) {F:List Int} {q:Int} (hs:PossP m F q):PossP l F q:=by
 obtain⟨c,hc,hq⟩:=hs
 obtain⟨d,hd,he⟩:=h.into c hc
 exact⟨d,hd,(EC_pick h.len hc hd he F q).1 hq⟩
theorem tR {s:List TH} (h:s.length≤1000000000):bL s=some s:=by
 unfold bL
 rw[gPo (by omega)];rfl
theorem copied_eq {l:TL} (hn:l.fNo.length≤1000000000) (hc:l.fC.length≤1000000000) (ho:∀c∈l.fC,c.fO.length≤1000000000):eB l=some l:=by
 unfold eB cg bc
 rw[gPo (by omega),gPo (by omega),oB,oB]
 simp only[List.nil_append]
 have hrun:=jF (body:=cP l.fC) (fun k=>((k:Int),l.fC)) l.fC.length (t:=((l.fC.length:Int),l.fC)) (fun k hk=>by
  unfold cP;dsimp only
  rw[dY (by omega),gPo (by omega),aV hk,tR (ho _ (List.getElem_mem hk)),oB,gPo (by omega),a7 (by omega),Int.toNat_natCast]
  have:l.fC.set k (TC.mk l.fC[k].fID l.fC[k].fO)=l.fC:=by
   rw[pd];exact List.set_getElem_self hk
  rw[this]) (by
  unfold cP;dsimp only
  rw[da (by omega)])
 have e0:aH (cP l.fC) (0,l.fC)=_:=hrun
 rw[e0]
 rfl
theorem OkL.copied {l:TL} (h:OkL l):eB l=some l:=copied_eq (by have:=h.nn;omega) (by have:=h.nc;omega) (fun c hc=>by have:=(h.claims c hc).2.1.2;omega)
theorem pK {l:TL} (h:Small l) {L:List Int} (hs:StrictI L) (hm:∀x∈L,x∈IDs l):L.length≤12:=by
 have:=kP hs.nodup hm
 have:=h.n12
 unfold IDs at *
 rw[List.length_map]at *
 omega
theorem Comes_id {l:TL} (h:OkL l) {F:List Int} (hF:∀x∈F,x∈IDs l) {s:Nat→Nat→Bool} {q:Int} (hq:Comes (Ed l s) F q):q∈IDs l:=by
 cases hq with
 | base hx=>exact hF _ hx
 | step _ hx=>exact(qt h (Nat.le_refl _) hx).2.1
theorem PossP.id {l:TL} (h:OkL l) {F:List Int} (hF:∀x∈F,x∈IDs l) {q:Int} (hq:PossP l F q):q∈IDs l:=by
 obtain⟨c,_,h2⟩:=hq
 exact Comes_id h hF h2
theorem SureP.poss {l:TL} (h:OkL l) {F:List Int} {q:Int} (hq:SureP l F q):PossP l F q:=⟨_,sL h,hq _ (sL h)⟩
structure Two (l:TL) (F A B:List Int):Prop where
 sur:eC l F=some (A,0)
 pos:dh l F=some (B,0)
 a:∀q,q∈A↔SureP l F q
 b:∀q,q∈B↔PossP l F q
 sa:StrictI A
 sb:StrictI B
 la:A.length≤12
 lb:B.length≤12
theorem two {l:TL} (h:Small l) {F:List Int} (hf:IsFrom l F):∃A B,Two l F A B:=by
 obtain⟨A,a1,a2,a3⟩:=Surely_ok h hf
 obtain⟨B,b1,b2,b3⟩:=Possibly_ok h hf
 exact⟨A,B,a1,b1,a3,b3,a2,b2,pK h a2 (fun x hx=>(((a3 x).1 hx).poss h.ok).id h.ok hf.2.2),pK h b2 (fun x hx=>((b3 x).1 hx).id h.ok hf.2.2)⟩
theorem rin_eq (n lo hi:Int):jJ n lo hi=some (decide (lo≤n∧n≤hi)):=by unfold jJ;rw[Bool.decide_and]
theorem lT {l:TL} (hl:l.fNo.length<1000000000) (id:Int):ef l id=some (co l id):=by
 unfold ef
 have:=bk (body:=gy l id) (fun k=>((0:Int),(k:Int))) l.fNo.length (fun k=>if((l.fNo.getD k default).fID==id)=true then some (Sum.inl ((k:Int),(k:Int)))else none) (t0:=.inr (0,(l.fNo.length:Int))) (fun k hk=>by
  unfold gy;dsimp only
  rw[dY (by omega),gPo (by omega),aV hk,bB hk,a7 (by omega)]
  cases (l.fNo[k].fID==id) <;> rfl) (by
  unfold gy;dsimp only
  rw[da (by omega)])
 have h0:aH (gy l id) (0,0)=_:=this
 rw[h0,oB]
 exact nl l.fNo (fun n=>n.fID==id)
theorem tJ {l:TL} (hl:l.fC.length<1000000000) (id:Int):jD l id=some (jb l id):=by
 unfold jD
 have:=bk (body:=fS l id) (fun k=>((0:Int),(k:Int))) l.fC.length (fun k=>if((l.fC.getD k default).fID==id)=true then some (Sum.inl ((k:Int),(k:Int)))else none) (t0:=.inr (0,(l.fC.length:Int))) (fun k hk=>by
  unfold fS;dsimp only
  rw[dY (by omega),gPo (by omega),aV hk,bB hk,a7 (by omega)]
  cases (l.fC[k].fID==id) <;> rfl) (by
  unfold fS;dsimp only
  rw[da (by omega)])
 have h0:aH (fS l id) (0,0)=_:=this
 rw[h0,oB]
 exact nl l.fC (fun n=>n.fID==id)
theorem hop_eq (a b:TH):((a.fFrom==b.fFrom)&&(a.fTo==b.fTo))=decide (a=b):=by
 rw[Bool.eq_iff_iff]
 simp only[Bool.and_eq_true,beq_iff_eq,decide_eq_true_eq]
 cases a
 cases b
 simp
theorem rtwice {x:TC} {i:Nat} (hi:i<x.fO.length) (hl:x.fO.length≤4):(x.fO[i]∈x.fO.take i→∃k:Int,aH (dJ x (false,(i:Int))) (false,0)=some (.inl (false,k)))∧(x.fO[i]∉x.fO.take i→∃k:Int,aH (dJ x (false,(i:Int))) (false,0)=some (.inr (false,k))):=by
 have:=bk (body:=dJ x (false,(i:Int))) (fun k=>(false,(k:Int))) i (fun k=>if x.fO.getD k default=x.fO[i]then some (Sum.inl (false,(k:Int)))else none) (t0:=.inr (false,(i:Int))) (fun k hk=>by
  have hk':k<x.fO.length:=by omega
  unfold dJ;dsimp only
  rw[dY (by omega),gPo (by omega),gPo (by omega),aV hk',aV hi,hop_eq,bB hk',a7 (by omega)]
  by_cases e:x.fO[k]=x.fO[i]
  ·rw[if_pos (decide_eq_true e),if_pos e]
  ·rw[if_neg (by simp[e]),if_neg e]) (by
  unfold dJ;dsimp only
  rw[da (by omega)])
 have h0:aH (dJ x (false,(i:Int))) (false,0)=_:=this
 rw[h0]
 rcases bA (R:=fun k=>if x.fO.getD k default=x.fO[i]then some (Sum.inl (false,(k:Int)):(Bool × Int) ⊕ (Bool × Int))else none) (n:=i) (.inr (false,(i:Int)))with⟨hn,h2⟩|⟨k,t,hk,hR,hj,h2⟩
 ·rw[h2]
  refine⟨fun hm=>?_,fun _=>⟨_,O⟩⟩
  obtain⟨j,hj,e⟩:=List.mem_take_iff_getElem.1 hm
  have:=hn j (by omega)
  rw[bB (by omega),if_pos e]at this
  cases this
 ·rw[h2]
  have hq:x.fO.getD k default=x.fO[i]:=by
   by_cases hq:x.fO.getD k default=x.fO[i]
   ·exact hq
   ·rw[if_neg hq]at hR;cases hR
  rw[if_pos hq]at hR
  cases hR
  refine⟨fun _=>⟨_,O⟩,fun hm=>?_⟩
  rw[bB (by omega)]at hq
  exact absurd (List.mem_take_iff_getElem.2 ⟨k,by omega,hq⟩) hm
theorem rclaim_eq {l:TL} (hl:l.fNo.length<1000000000) (x:TC):k8 l x=some (decide (jw l x)):=by
 unfold k8
 rw[rin_eq,oB]
 by_cases h1:1≤x.fID∧x.fID≤1099511627776
 ·rw[decide_eq_true h1,if_neg (by simp),rin_eq,oB,oB]
  by_cases h2:1≤x.fO.length∧x.fO.length≤4
  ·have h2':(1:Int)≤((x.fO.length:Nat):Int)∧((x.fO.length:Nat):Int)≤4:=by omega
   rw[decide_eq_true h2',if_neg (by simp)]
   have hrun:=bk (body:=fJ l x) (fun k=>(false,(k:Int))) x.fO.length (fun k=>if nE l x.fO k then none else some (Sum.inl (false,(k:Int)))) (t0:=.inr (false,(x.fO.length:Int))) (fun k hk=>by
    have ba:co l x.fO[k].fFrom<(l.fNo.length:Int):=gr _ _
    have bb:co l x.fO[k].fTo<(l.fNo.length:Int):=gr _ _
    obtain⟨tw1,tw2⟩:=rtwice hk h2.2
    have hO:nE l x.fO k↔(0≤co l x.fO[k].fFrom∧0≤co l x.fO[k].fTo∧lvI l x.fO[k].fFrom<lvI l x.fO[k].fTo)∧x.fO[k]∉x.fO.take k:=by unfold nE;rw[bB hk]
    unfold fJ;dsimp only
    rw[dY (by omega),gPo (by omega),aV hk,lT hl,oB,gPo (by omega),lT hl,oB]
    by_cases hab:co l x.fO[k].fFrom<0∨co l x.fO[k].fTo<0
    ·rw[if_pos (by simpa using hab),oB,if_pos O,if_neg (fun h=>by have:=(hO.1 h).1;omega)]
    ·rw[if_neg (by simpa using hab),gPo (by omega),gPo (by omega),oB]
     by_cases hlv:lvI l x.fO[k].fFrom<lvI l x.fO[k].fTo
     ·have hlv':¬((rdL l.fNo (co l x.fO[k].fTo)).fLevel≤(rdL l.fNo (co l x.fO[k].fFrom)).fLevel):=by unfold lvI at hlv;omega
      rw[da hlv']
      by_cases hm:x.fO[k]∈x.fO.take k
      ·obtain⟨q,e⟩:=tw1 hm
       rw[e,oB,if_neg (fun h=>(hO.1 h).2 hm)]
      ·obtain⟨q,e⟩:=tw2 hm
       rw[e,oB,if_pos (hO.2 ⟨⟨by omega,by omega,hlv⟩,hm⟩),a7 (by omega)]
     ·have hlv':(rdL l.fNo (co l x.fO[k].fTo)).fLevel≤(rdL l.fNo (co l x.fO[k].fFrom)).fLevel:=by unfold lvI at hlv;omega
      rw[dY hlv',if_neg (fun h=>hlv (hO.1 h).1.2.2)]) (by
    unfold fJ;dsimp only
    rw[da (by omega)])
   have h0:aH (fJ l x) (false,0)=_:=hrun
   rw[h0,oB]
   rcases bA (R:=fun k=>if nE l x.fO k then none else some (Sum.inl (false,(k:Int)):(Bool × Int) ⊕ (Bool × Int))) (n:=x.fO.length) (.inr (false,(x.fO.length:Int)))with⟨hn,h3⟩|⟨k,t,hk,hR,hj,h3⟩
   ·rw[h3]
    have:jw l x:=⟨h1,h2,fun k hk=>by
     have:=hn k hk
     split at this
     ·assumption
     ·cases this⟩
    rw[decide_eq_true this]
   ·rw[h3]
    have hno:¬nE l x.fO k:=fun h=>by rw[if_pos h]at hR;cases hR
    rw[if_neg hno]at hR
    cases hR
    have:¬jw l x:=fun h=>hno (h.2.2 k hk)
    rw[decide_eq_false this]
  ·have h2':¬((1:Int)≤((x.fO.length:Nat):Int)∧((x.fO.length:Nat):Int)≤4):=by omega
   have:¬jw l x:=fun h=>h2 h.2.1
   rw[decide_eq_false h2',decide_eq_false this]
   rfl
 ·have:¬jw l x:=fun h=>h1 h.1
  rw[decide_eq_false h1,decide_eq_false this]
  rfl
theorem tw {l:TL} (hc:l.fC.length≤80) (ho:∀k,k<l.fC.length→(oO l k).length≤4):g5 l=some (nx l l.fC.length):=by
 unfold g5
 have hrun:=jF (body:=fU l) (fun k=>(nx l k,(k:Int))) l.fC.length (t:=(nx l l.fC.length,(l.fC.length:Int))) (fun k hk=>by
  have hw:=cntI_w (l:=l) (k:=k) (ho k hk)
  unfold fU;dsimp only
  rw[dY (by omega),gPo (by omega),aV hk,a7 (by omega)]
  rw[bB hk]at hw
  rw[hw]
  show some (Sum.inl (min (nx l k*(l.fC[k].fO.length:Int)) 4097,((k+1:Nat):Int)))=some (Sum.inl (min (nx l k*((l.fC.getD k default).fO.length:Int)) 4097,((k+1:Nat):Int)))
  rw[bB hk]) (by
  unfold fU;dsimp only
  rw[da (by omega)])
 have h0:aH (fU l) (1,0)=_:=hrun
 rw[h0]
 rfl
theorem rCheck_eq (l:TL):kT l=some (kz l):=by
 unfold kT kz
 by_cases h0:60<l.fNo.length∨80<l.fC.length
 ·have h0':(decide (60<((l.fNo.length:Nat):Int))||decide (80<((l.fC.length:Nat):Int)))=true:=by
   rw[Bool.or_eq_true,decide_eq_true_eq,decide_eq_true_eq]
   omega
  rw[if_pos h0,if_pos h0']
 ·rw[if_neg h0,if_neg (by simp;omega)]
  have hn:l.fNo.length<1000000000:=by omega
  have hc:l.fC.length<1000000000:=by omega
  have hrun:=bk (body:=fY l) (fun k=>((0:Int),(k:Int))) l.fNo.length (fun k=>(errN l k).map fun e=>Sum.inl (e,(k:Int))) (t0:=.inr (0,(l.fNo.length:Int))) (fun k hk=>by
   unfold fY;dsimp only
   rw[dY (by omega),gPo (by omega)]
   simp only[aV hk,rin_eq,lT hn,oB,a7 (show k<9223372036854775807 by omega)]
   unfold errN qC
   rw[bB hk]
   by_cases h1:1≤l.fNo[k].fID∧l.fNo[k].fID≤1099511627776
   ·by_cases h2:0≤l.fNo[k].fLevel∧l.fNo[k].fLevel≤9
    ·by_cases h3:0≤l.fNo[k].fCost∧l.fNo[k].fCost≤1073741824
     ·by_cases h4:co l l.fNo[k].fID<(k:Int)
      ·simp[h1,h2,h3,h4]
      ·simp[h1,h2,h3,h4]
     ·simp[h1,h2,h3]
    ·simp[h1,h2]
   ·simp[h1]) (by
   unfold fY;dsimp only
   rw[da (by omega)])
  have e0:aH (fY l) (0,0)=_:=hrun
  rw[e0,oB,kH (errN l) (fun k e=>Sum.inl (e,(k:Int))),lR (errN l)]
  cases hN:(List.range l.fNo.length).findSome? fun k=>(errN l k).map fun t=>(k,t)with
  | some p=>rfl
  | none =>
   dsimp only[Option.map_none]
   have hrun2:=bk (body:=fK l) (fun k=>((0:Int),(k:Int))) l.fC.length (fun k=>(tV l k).map fun e=>Sum.inl (e,(k:Int))) (t0:=.inr (0,(l.fC.length:Int))) (fun k hk=>by
    unfold fK;dsimp only
    rw[dY (by omega),gPo (by omega),aV hk,pd,rclaim_eq hn,oB,a7 (by omega)]
    unfold tV
    rw[bB hk]
    by_cases h2:jw l l.fC[k]
    ·rw[decide_eq_true h2,if_neg (by simp),gPo (by omega),tJ hc,oB,if_pos h2]
     by_cases h4:jb l l.fC[k].fID<(k:Int)
     ·rw[dY h4,if_pos h4];rfl
     ·rw[da h4,if_neg h4];rfl
    ·rw[decide_eq_false h2,if_pos (by rfl),if_neg h2];rfl) (by
    unfold fK;dsimp only
    rw[da (by omega)])
   have e1:aH (fK l) (0,0)=_:=hrun2
   rw[e1,oB,kH (tV l) (fun k e=>Sum.inl (e,(k:Int))),lR (tV l)]
   cases hC:(List.range l.fC.length).findSome? fun k=>(tV l k).map fun t=>(k,t)with
   | some p=>rfl
   | none =>
    have hC':=List.findSome?_eq_none_iff.1 hC
    dsimp only[Option.map_none]
    rw[tw (by omega) (fun k hk=>by
     have:=hC' k (List.mem_range.2 hk)
     unfold tV at this
     rw[bB hk]at this
     unfold oO
     rw[bB hk]
     by_cases h2:jw l l.fC[k]
     ·exact h2.2.1.2
     ·rw[if_neg h2]at this;cases this),oB]
    by_cases h5:4096<nx l l.fC.length
    ·rw[if_pos (decide_eq_true h5),if_pos h5]
    ·rw[if_neg (by rw[decide_eq_false h5];simp),if_neg h5]
theorem has_eq {L:List Int} (hl:L.length<1000000000) (n:Int):lp L n=some (decide (n∈L)):=by
 unfold lp
 have hrun:=bk (body:=ij L n) (fun k=>(false,(k:Int))) L.length (fun k=>if L.getD k 0=n then some (Sum.inl (true,(k:Int)))else none) (t0:=.inr (false,(L.length:Int))) (fun k hk=>by
  unfold ij;dsimp only
  have eg:L.getD k 0=L[k]:=by rw[List.getD_eq_getElem?_getD,List.getElem?_eq_getElem hk];rfl
  rw[dY (by omega),gPo (by omega),aV hk,eg,a7 (by omega)]
  by_cases e:L[k]=n <;> simp[e]) (by
  unfold ij;dsimp only
  rw[da (by omega)])
 have h0:aH (ij L n) (false,0)=_:=hrun
 rw[h0,oB]
 rcases bA (R:=fun k=>if L.getD k 0=n then some (Sum.inl (true,(k:Int)):(Bool × Int) ⊕ (Bool × Int))else none) (n:=L.length) (.inr (false,(L.length:Int)))with⟨hn,h2⟩|⟨k,t,hk,hR,hj,h2⟩
 ·rw[h2]
  have:n∉L:=fun hm=>by
   obtain⟨k,hk,e⟩:=List.mem_iff_getElem.1 hm
   have:=hn k hk
   rw[List.getD_eq_getElem?_getD,List.getElem?_eq_getElem hk]at this
   simp[e]at this
  simp[this]
 ·rw[h2]
  have hq:L.getD k 0=n:=by
   by_cases hq:L.getD k 0=n
   ·exact hq
   ·rw[if_neg hq]at hR;cases hR
  rw[if_pos hq]at hR
  cases hR
  have:n∈L:=by
   rw[List.getD_eq_getElem?_getD,List.getElem?_eq_getElem hk]at hq
   rw[←hq]
   exact List.getElem_mem hk
  simp[this]
def pM:List Nat→Nat→List Int
 | [],_=>[]
 | k::ks,n=>((n % k:Nat):Int)::pM ks (n / k)
theorem numS_len:∀(ks:List Nat) (n:Nat),(pM ks n).length=ks.length
 | [],_=>rfl
 | k::ks,n=>by simp[pM,numS_len ks]
theorem numS_mem:∀(ks:List Nat) (n:Nat),(∀k∈ks,0<k)→pM ks n∈pP ks
 | [],n,_=>by simp[pM,pP]
 | k::ks,n,h=>by
  simp only[pM,pP,List.mem_flatMap,List.mem_range,List.mem_map]
  exact⟨n % k,Nat.mod_lt _ (h k (by simp)),pM ks (n / k),numS_mem ks _ (fun x hx=>h x (by simp[hx])),O⟩
theorem tB:∀(ks:List Nat) (c:List Int),c∈pP ks→∃n,n<i9 ks∧pM ks n=c
 | [],c,h=>by
  simp[pP]at h
  subst h
  exact⟨0,by simp[i9],O⟩
 | k::ks,c,h=>by
  simp only[pP,List.mem_flatMap,List.mem_range,List.mem_map]at h
  obtain⟨i,hi,d,hd,rfl⟩:=h
  obtain⟨n,hn,rfl⟩:=tB ks d hd
  refine⟨i+k*n,?_,?_⟩
  ·show i+k*n<k*i9 ks
   have:k*(n+1)≤k*i9 ks:=Nat.mul_le_mul_left _ hn
   rw[Nat.mul_succ]at this
   omega
  ·show((((i+k*n) % k:Nat):Int)::pM ks ((i+k*n) / k))=_
   rw[Nat.add_mul_mod_self_left,Nat.mod_eq_of_lt hi,Nat.add_mul_div_left _ _ (by omega),Nat.div_eq_of_lt hi,Nat.zero_add]
theorem numS_take {ks:List Nat}:∀(i n:Nat),i<ks.length→∃v:Nat,pM (ks.take (i+1)) n=pM (ks.take i) n++[((v % ks.getD i 0:Nat):Int)]∧v=n / i9 (ks.take i):=by
 induction ks with
 | nil=>intro i n h;simp at h
 | cons k ks ih =>
  intro i n h
  cases i with
  | zero=>exact⟨n,by simp[pM],by simp[i9]⟩
  | succ i =>
   obtain⟨v,h1,h2⟩:=ih i (n / k) (by simpa using h)
   refine⟨v,?_,?_⟩
   ·rw[List.take_succ_cons,List.take_succ_cons]
    show _::pM (ks.take (i+1)) (n / k)=_
    rw[h1]
    rfl
   ·rw[h2,List.take_succ_cons,Nat.div_div_eq_div_mul]
    rfl
theorem numbered_eq {l:TL} (h:OkL l) (m:Nat) (hm:m≤1000000):gS l (m:Int)=some (pM (sKs l) m):=by
 have hc:=h.nc
 unfold gS
 have hrun:=jF (body:=dK l) (fun i=>(((m / i9 ((sKs l).take i):Nat):Int),(i:Int),pM ((sKs l).take i) m)) l.fC.length (t:=(((m / i9 ((sKs l).take l.fC.length):Nat):Int),(l.fC.length:Int),pM ((sKs l).take l.fC.length) m)) (fun i hi=>by
  have hlt:i<(sKs l).length:=by rw[rW];exact hi
  have ho:(((rdL l.fC (i:Int)).fO.length:Nat):Int)=((oO l i).length:Int):=by rw[aV hi];unfold oO;rw[bB hi]
  have hp:=sA h i hi
  have hnl:=numS_len ((sKs l).take i) m
  have htl:((sKs l).take i).length≤80:=by rw[List.length_take,rW];omega
  obtain⟨v,h1,h2⟩:=numS_take i m hlt
  have e:(sKs l)[i]=(oO l i).length:=by
   rw[←tt l hi,List.getD_eq_getElem?_getD,List.getElem?_eq_getElem hlt];rfl
  have hd:m / i9 ((sKs l).take i)≤m:=Nat.div_le_self _ _
  have hd2:m / i9 ((sKs l).take i) / (oO l i).length≤m / i9 ((sKs l).take i):=Nat.div_le_self _ _
  unfold dK;dsimp only
  rw[dY (by omega),gPo (by omega),ho,gPo (by omega),gPo (by omega),gPo (by omega),←Int.ofNat_tdiv,←Int.ofNat_tmod,w64_nat (by omega),a7 (by omega),h1,tt l hi,←h2,List.take_succ_eq_append_getElem hlt,qv,e]
  have e2:i9 [(oO l i).length]=(oO l i).length:=by simp[i9]
  rw[e2,←Nat.div_div_eq_div_mul,←h2]) (by
  unfold dK;dsimp only
  rw[da (by omega)])
 have e0:aH (dK l) ((m:Int),0,[])=some (((m / i9 ((sKs l).take l.fC.length):Nat):Int),(l.fC.length:Int),pM ((sKs l).take l.fC.length) m):=by
  have hh:=hrun
  rw[List.take_zero,show i9 []=1 from O,Nat.div_one]at hh
  exact hh
 rw[e0,oB]
 rw[←rW l,List.take_length]
theorem num_mem {l:TL} (h:OkL l) (m:Nat):pM (sKs l) m∈sCs l:=numS_mem _ _ (fun k hk=>by
 obtain⟨c,hc,rfl⟩:=List.mem_map.1 hk
 exact(h.claims c hc).2.1.1)
theorem num_onto {l:TL} {c:List Int} (hc:c∈sCs l):∃n,n<(sCs l).length∧pM (sKs l) n=c:=by
 unfold sCs
 rw[sO]
 exact tB _ _ hc
theorem sv {l:TL} (h:OkL l) {k:Nat} (hk:k<l.fNo.length):co l (l.fNo[k]).fID=(k:Int):=sK h.nd hk
theorem sg {l:TL} {q:Int} (hq:q∈IDs l):∃k,∃h:k<l.fNo.length,co l q=(k:Int)∧(l.fNo[k]).fID=q:=by
 have h0:=cQ.2 hq
 obtain⟨k,hk⟩:=Int.eq_ofNat_of_zero_le h0
 have hlt:k<l.fNo.length:=by have:=gr l.fNo (fun n=>n.fID==q);unfold co at hk;omega
 refine⟨k,hlt,hk,?_⟩
 have:=idxI_get (l:=l.fNo) (q:=fun n=>n.fID==q) (by unfold co at h0;exact h0)
 unfold co at hk
 rw[hk,aV hlt]at this
 simpa using this
theorem setB {X:List Bool} {j:Nat} (hj:j<X.length) (v:Bool) (k:Nat):rdL (X.set j v) (k:Int)=if k=j then v else rdL X (k:Int):=by
 unfold rdL
 rw[Int.toNat_natCast,List.getD_eq_getElem?_getD,List.getElem?_set]
 by_cases e:j=k
 ·subst e;simp[hj]
 ·rw[if_neg e,if_neg (fun h=>e h.symm),List.getD_eq_getElem?_getD]
def mapB (n:Nat) (g:Nat→Bool) (k:Nat) (v:Bool):List Bool:=(List.range k).map g++List.replicate (n-k) v
theorem tD {n k:Nat} (hk:k<n) (g:Nat→Bool) (v:Bool):(mapB n g k v).set k (g k)=mapB n g (k+1) v:=by
 unfold mapB
 rw[show n-k=(n-(k+1))+1 by omega,List.replicate_succ,nm _ _ _ _ _ (by simp),List.range_succ,List.map_append,List.append_assoc]
 rfl
theorem tk (n:Nat) (g:Nat→Bool) (v:Bool):mapB n g n v=(List.range n).map g:=by simp[mapB]
theorem tz (n:Nat) (g:Nat→Bool) (v:Bool):mapB n g 0 v=List.replicate n v:=by simp[mapB]
theorem rdL_map {n k:Nat} (hk:k<n) (g:Nat→Bool):rdL ((List.range n).map g) (k:Int)=g k:=by
 rw[aV (by simpa using hk)]
 simp
structure HoldsB (l:TL) (X:List Bool) (P:Int→Prop):Prop where
 len:X.length=l.fNo.length
 iff:∀k,(hk:k<l.fNo.length)→(rdL X (k:Int)=true↔P (l.fNo[k]).fID)
theorem HoldsB.at {l:TL} {X:List Bool} {P:Int→Prop} (h:HoldsB l X P) {q:Int} (hq:q∈IDs l):rdL X (co l q)=true↔P q:=by
 obtain⟨k,hk,e1,e2⟩:=sg hq
 rw[e1,h.iff k hk,e2]
theorem reached_eq {l:TL} (h:Small l) {F:List Int} (hF:∀x∈F,x∈IDs l) (hFl:F.length≤1000) {c:List Int} (hc:c∈sCs l):∃X,iQ l F c=some X∧HoldsB l X (Comes (EC l c) F):=by
 have h12:=h.n12
 have hc12:=h.c12
 obtain⟨hcl,hcr⟩:=li.1 hc
 have hE:∀x∈EC l c,x.fFrom∈IDs l∧x.fTo∈IDs l:=fun x hx=>by
  have:=qt h.ok (s:=sC c) (Nat.le_refl l.fC.length) (x:=x) hx
  exact⟨this.1,this.2.1⟩
 unfold iQ
 rw[gPo (by omega),Int.toNat_natCast]
 have e1:aH (eu l F) (0,List.replicate l.fNo.length false)=some ((l.fNo.length:Int),(List.range l.fNo.length).map fun k=>decide ((l.fNo.getD k default).fID∈F)):=by
  have:=jF (body:=eu l F) (fun k=>((k:Int),mapB l.fNo.length (fun k=>decide ((l.fNo.getD k default).fID∈F)) k false)) l.fNo.length (t:=((l.fNo.length:Int),mapB l.fNo.length (fun k=>decide ((l.fNo.getD k default).fID∈F)) l.fNo.length false)) (fun k hk=>by
   unfold eu;dsimp only
   rw[dY (by omega),gPo (by omega),aV hk,has_eq (by omega),oB,Int.toNat_natCast,gPo (by omega),a7 (by omega),Int.toNat_natCast]
   have:=tD hk (fun k=>decide ((l.fNo.getD k default).fID∈F)) false
   rw[bB hk]at this
   rw[this]) (by
   unfold eu;dsimp only
   rw[da (by omega)])
  rw[tk]at this
  have h0:=tz l.fNo.length (fun k=>decide ((l.fNo.getD k default).fID∈F)) false
  rw[←h0]
  exact this
 rw[e1,oB]
 dsimp only
 generalize hX0:(List.range l.fNo.length).map (fun k=>decide ((l.fNo.getD k default).fID∈F))=X0
 have hX0l:X0.length=l.fNo.length:=by subst hX0;simp
 have hX0g:∀k,(hk:k<l.fNo.length)→(rdL X0 (k:Int)=true↔(l.fNo[k]).fID∈F):=fun k hk=>by
  subst hX0
  rw[rdL_map hk,bB hk]
  simp
 -- one round
 have round:∀Y:List Bool,Y.length=l.fNo.length→(∀k,(hk:k<l.fNo.length)→rdL Y (k:Int)=true→Comes (EC l c) F (l.fNo[k]).fID)→∃t,aH (fD l c) (false,0,Y)=some t∧t.2.2.length=l.fNo.length∧(∀k,(hk:k<l.fNo.length)→rdL t.2.2 (k:Int)=true→Comes (EC l c) F (l.fNo[k]).fID)∧(∀k:Nat,rdL Y (k:Int)=true→rdL t.2.2 (k:Int)=true)∧((t.1=false∧t.2.2=Y∧∀i,i<l.fC.length→rdL Y (co l (pick l c i).fFrom)=true→rdL Y (co l (pick l c i).fTo)=true)∨(t.1=true∧t.2.2.count false<Y.count false)):=by
  intro Y hYl hYs
  refine gT (body:=fD l c) (fun s=>∃i:Nat,s.2.1=(i:Int)∧i≤l.fC.length∧s.2.2.length=l.fNo.length∧(∀k,(hk:k<l.fNo.length)→rdL s.2.2 (k:Int)=true→Comes (EC l c) F (l.fNo[k]).fID)∧(∀k:Nat,rdL Y (k:Int)=true→rdL s.2.2 (k:Int)=true)∧((s.1=false∧s.2.2=Y∧∀j,j<i→rdL Y (co l (pick l c j).fFrom)=true→rdL Y (co l (pick l c j).fTo)=true)∨(s.1=true∧s.2.2.count false<Y.count false))) (fun s t=>t.2.2.length=l.fNo.length∧(∀k,(hk:k<l.fNo.length)→rdL t.2.2 (k:Int)=true→Comes (EC l c) F (l.fNo[k]).fID)∧(∀k:Nat,rdL Y (k:Int)=true→rdL t.2.2 (k:Int)=true)∧((t.1=false∧t.2.2=Y∧∀i,i<l.fC.length→rdL Y (co l (pick l c i).fFrom)=true→rdL Y (co l (pick l c i).fTo)=true)∨(t.1=true∧t.2.2.count false<Y.count false))) (fun s=>((l.fC.length:Int)-s.2.1).toNat) (fun s hs=>?_) _ ⟨0,O,by omega,hYl,hYs,fun k hk=>hk,.inl ⟨O,O,fun j hj=>by omega⟩⟩
  obtain⟨ag,ii,X⟩:=s
  obtain⟨i,i1,i2,i3,i4,i5,i6⟩:=hs
  dsimp only at i1 i3 i4 i5 i6 ⊢
  subst i1
  unfold fD;dsimp only
  by_cases hi:i<l.fC.length
  ·obtain⟨r1,r2⟩:=hcr i hi
   have eo:(rdL l.fC (i:Int)).fO=oO l i:=by rw[aV hi];unfold oO;rw[bB hi]
   have ec:rdL c (i:Int)=c.getD i 0:=jI c i
   have ep:rdL (oO l i) (c.getD i 0)=pick l c i:=by
    unfold pick rdL
    rfl
   have hin:pick l c i∈EC l c:=(pB hc).2 ⟨i,hi,O⟩
   obtain⟨m1,m2⟩:=hE _ hin
   obtain⟨a,ha,ea,ia⟩:=sg m1
   obtain⟨b,hb,eb,ib⟩:=sg m2
   rw[dY (by omega),gPo (by omega),gPo (by omega),eo,ec,gPo ⟨r1,r2⟩,ep,lT (by omega),oB,lT (by omega),oB,Int.toNat_natCast,ea,eb,gPo (by omega),a7 (by omega),Int.toNat_natCast]
   by_cases hxa:rdL X (a:Int)=true
   ·rw[if_pos hxa,gPo (by omega),oB]
    by_cases hxb:rdL X (b:Int)=true
    ·rw[if_neg (by simp[hxb])]
     refine .inl ⟨_,O,⟨i+1,O,by omega,i3,i4,i5,?_⟩,by dsimp only;omega,fun t ht=>ht⟩
     rcases i6 with⟨z1,z2,z3⟩|z
     ·refine .inl ⟨z1,z2,fun j hj=>?_⟩
      by_cases e:j=i
      ·subst e;rw[ea,eb];intro _;rw[←z2];exact hxb
      ·exact z3 j (by omega)
     ·exact .inr z
    ·have hxb':rdL X (b:Int)=false:=by simpa using hxb
     rw[if_pos (by simp[hxb']),gPo (by omega)]
     have hbl:b<X.length:=by omega
     have hbx:X[b]=false:=by rw[←aV hbl];exact hxb'
     refine .inl ⟨_,O,⟨i+1,O,by omega,by dsimp only;rw[List.length_set];exact i3,fun k hk hg=>?_,fun k hk=>?_,.inr ⟨O,?_⟩⟩,by dsimp only;omega,fun t ht=>ht⟩
     ·dsimp only at hg
      rw[setB hbl]at hg
      by_cases e:k=b
      ·subst e
       rw[ib]
       refine .step ?_ hin
       rw[←ia]
       exact i4 a ha hxa
      ·rw[if_neg e]at hg
       exact i4 k hk hg
     ·dsimp only
      rw[setB hbl]
      by_cases e:k=b
      ·rw[if_pos e]
      ·rw[if_neg e];exact i5 k hk
     ·dsimp only
      have hcs:(X.set b true).count false<X.count false:=by
       have hp:0<X.count false:=List.count_pos_iff.2 (by rw[←hbx];exact List.getElem_mem hbl)
       rw[List.count_set hbl,hbx]
       simp
       omega
      rcases i6 with⟨z1,z2,z3⟩|z
      ·rw[z2]at hcs;rw[z2];exact hcs
      ·omega
   ·rw[if_neg hxa,oB,if_neg (by simp)]
    refine .inl ⟨_,O,⟨i+1,O,by omega,i3,i4,i5,?_⟩,by dsimp only;omega,fun t ht=>ht⟩
    rcases i6 with⟨z1,z2,z3⟩|z
    ·refine .inl ⟨z1,z2,fun j hj=>?_⟩
     by_cases e:j=i
     ·subst e;rw[ea];intro hh;rw[←z2]at hh;exact absurd hh hxa
     ·exact z3 j (by omega)
    ·exact .inr z
  ·rw[da (by omega)]
   refine .inr ⟨_,O,i3,i4,i5,?_⟩
   rcases i6 with⟨z1,z2,z3⟩|z
   ·exact .inl ⟨z1,z2,fun j hj=>z3 j (by omega)⟩
   ·exact .inr z
 have fin:∃t,aH (fI l c) (true,X0)=some t∧t.2.length=l.fNo.length∧(∀k,(hk:k<l.fNo.length)→rdL t.2 (k:Int)=true→Comes (EC l c) F (l.fNo[k]).fID)∧(∀k:Nat,rdL X0 (k:Int)=true→rdL t.2 (k:Int)=true)∧∀i,i<l.fC.length→rdL t.2 (co l (pick l c i).fFrom)=true→rdL t.2 (co l (pick l c i).fTo)=true:=by
  refine gT (body:=fI l c) (fun s=>s.2.length=l.fNo.length∧(∀k,(hk:k<l.fNo.length)→rdL s.2 (k:Int)=true→Comes (EC l c) F (l.fNo[k]).fID)∧(∀k:Nat,rdL X0 (k:Int)=true→rdL s.2 (k:Int)=true)∧(s.1=false→∀i,i<l.fC.length→rdL s.2 (co l (pick l c i).fFrom)=true→rdL s.2 (co l (pick l c i).fTo)=true)) (fun s t=>t.2.length=l.fNo.length∧(∀k,(hk:k<l.fNo.length)→rdL t.2 (k:Int)=true→Comes (EC l c) F (l.fNo[k]).fID)∧(∀k:Nat,rdL X0 (k:Int)=true→rdL t.2 (k:Int)=true)∧∀i,i<l.fC.length→rdL t.2 (co l (pick l c i).fFrom)=true→rdL t.2 (co l (pick l c i).fTo)=true) (fun s=>2*s.2.count false+(if s.1=true then 1 else 0)) (fun s hs=>?_) _ ⟨hX0l,fun k hk hg=>.base ((hX0g k hk).1 hg),fun k hk=>hk,fun hf=>by cases hf⟩
  obtain⟨ag,X⟩:=s
  obtain⟨i1,i2,i3,i4⟩:=hs
  dsimp only at i1 i2 i3 i4 ⊢
  unfold fI;dsimp only
  cases ag with
  | false =>
   rw[if_neg (by simp)]
   exact .inr ⟨_,O,i1,i2,i3,i4 O⟩
  | true =>
   rw[if_pos O]
   obtain⟨t,t1,t2,t3,t4,t5⟩:=round X i1 i2
   rw[t1,oB]
   rcases t5 with⟨z1,z2,z3⟩|⟨z1,z2⟩
   ·refine .inl ⟨_,O,⟨t2,t3,fun k hk=>t4 k (i3 k hk),fun _=>by dsimp only;rw[z2];exact z3⟩,?_,fun t ht=>ht⟩
    dsimp only
    rw[z1,z2]
    simp
   ·refine .inl ⟨_,O,⟨t2,t3,fun k hk=>t4 k (i3 k hk),fun hf=>?_⟩,?_,fun t ht=>ht⟩
    ·dsimp only at hf;rw[z1]at hf;cases hf
    ·dsimp only
     rw[z1]
     simp
     omega
 obtain⟨t,t1,t2,t3,t4,t5⟩:=fin
 rw[t1]
 refine⟨t.2,O,t2,fun k hk=>⟨t3 k hk,fun hq=>?_⟩⟩
 have key:∀q,Comes (EC l c) F q→rdL t.2 (co l q)=true:=by
  intro q hq
  induction hq with
  | base hx =>
   obtain⟨j,hj,e1,e2⟩:=sg (hF _ hx)
   rw[e1]
   exact t4 j ((hX0g j hj).2 (by rw[e2];exact hx))
  | @step x _ hx ih =>
   obtain⟨i,hi,e⟩:=(pB hc).1 hx
   have:=t5 i hi
   rw[e]at this
   exact this ih
 have:=key _ hq
 rwa [sv h.ok hk]at this
theorem rcnt {l:TL} (h:OkL l):g5 l=some ((sCs l).length:Int):=by
 rw[tw h.nc (fun k hk=>(lr h hk).1.2),Cs_cnt h]
theorem both_eq {l:TL} (h:Small l) {F:List Int} (hF:∀x∈F,x∈IDs l) (hFl:F.length≤1000):∃A B,ms l F=some (A,B)∧HoldsB l A (SureP l F)∧HoldsB l B (PossP l F):=by
 have h12:=h.n12
 have hlen:=Cs_len h.ok
 unfold ms
 rw[gPo (by omega),gPo (by omega),Int.toNat_natCast]
 have e1:aH (gH l) (0,List.replicate l.fNo.length false)=some ((l.fNo.length:Int),(List.range l.fNo.length).map fun k=>true):=by
  have:=jF (body:=gH l) (fun k=>((k:Int),mapB l.fNo.length (fun _=>true) k false)) l.fNo.length (t:=((l.fNo.length:Int),mapB l.fNo.length (fun _=>true) l.fNo.length false)) (fun k hk=>by
   unfold gH;dsimp only
   rw[dY (by omega),Int.toNat_natCast,gPo (by omega),a7 (by omega),Int.toNat_natCast]
   have:=tD hk (fun _=>true) false
   rw[this]) (by
   unfold gH;dsimp only
   rw[da (by omega)])
  rw[tk]at this
  have h0:=tz l.fNo.length (fun _=>true) false
  rw[←h0]
  exact this
 rw[e1,oB]
 dsimp only
 have fin:∃t,aH (iN l F) (0,(List.range l.fNo.length).map (fun k=>true),List.replicate l.fNo.length false)=some t∧HoldsB l t.2.1 (fun q=>∀m,m<(sCs l).length→Comes (EC l (pM (sKs l) m)) F q)∧HoldsB l t.2.2 (fun q=>∃m,m<(sCs l).length∧Comes (EC l (pM (sKs l) m)) F q):=by
  refine gT (body:=iN l F) (fun s=>∃n:Nat,s.1=(n:Int)∧n≤(sCs l).length∧HoldsB l s.2.1 (fun q=>∀m,m<n→Comes (EC l (pM (sKs l) m)) F q)∧HoldsB l s.2.2 (fun q=>∃m,m<n∧Comes (EC l (pM (sKs l) m)) F q)) (fun s t=>HoldsB l t.2.1 (fun q=>∀m,m<(sCs l).length→Comes (EC l (pM (sKs l) m)) F q)∧HoldsB l t.2.2 (fun q=>∃m,m<(sCs l).length∧Comes (EC l (pM (sKs l) m)) F q)) (fun s=>(((sCs l).length:Int)-s.1).toNat) (fun s hs=>?_) _ ⟨0,O,by omega,⟨by simp,fun k hk=>by dsimp only;rw[rdL_map hk];exact⟨fun _ m hm=>by omega,fun _=>O⟩⟩,⟨by simp,fun k hk=>by dsimp only;rw[aV (by simpa using hk)];simp⟩⟩
  obtain⟨ni,A,B⟩:=s
  obtain⟨n,i1,i2,i3,i4⟩:=hs
  dsimp only at i1 i3 i4 ⊢
  subst i1
  unfold iN;dsimp only
  rw[rcnt h.ok,oB]
  by_cases hn:n<(sCs l).length
  ·obtain⟨X,x1,x2⟩:=reached_eq h hF hFl (num_mem h.ok n)
   rw[dY (by omega),numbered_eq h.ok n (by omega),oB,x1,oB]
   have hxl:=x2.len
   have hal:=i3.len
   have hbl:=i4.len
   have hin:∃u,aH (iE l X) (0,A,B)=some u∧u.2.1.length=l.fNo.length∧u.2.2.length=l.fNo.length∧∀k:Nat,k<l.fNo.length→rdL u.2.1 (k:Int)=(rdL A (k:Int)&&rdL X (k:Int))∧rdL u.2.2 (k:Int)=(rdL B (k:Int)||rdL X (k:Int)):=by
    refine gT (body:=iE l X) (fun s=>∃i:Nat,s.1=(i:Int)∧i≤l.fNo.length∧s.2.1.length=l.fNo.length∧s.2.2.length=l.fNo.length∧∀k:Nat,k<l.fNo.length→rdL s.2.1 (k:Int)=(if k<i then rdL A (k:Int)&&rdL X (k:Int)else rdL A (k:Int))∧rdL s.2.2 (k:Int)=(if k<i then rdL B (k:Int)||rdL X (k:Int)else rdL B (k:Int))) (fun s u=>u.2.1.length=l.fNo.length∧u.2.2.length=l.fNo.length∧∀k:Nat,k<l.fNo.length→rdL u.2.1 (k:Int)=(rdL A (k:Int)&&rdL X (k:Int))∧rdL u.2.2 (k:Int)=(rdL B (k:Int)||rdL X (k:Int))) (fun s=>((l.fNo.length:Int)-s.1).toNat) (fun s hs=>?_) _ ⟨0,O,by omega,hal,hbl,fun k hk=>by simp⟩
    obtain⟨ii,A',B'⟩:=s
    obtain⟨i,j1,j2,j3,j4,j5⟩:=hs
    dsimp only at j1 j3 j4 j5 ⊢
    subst j1
    unfold iE;dsimp only
    by_cases hi:i<l.fNo.length
    ·obtain⟨ga,gb⟩:=j5 i hi
     rw[if_neg (by omega)]at ga gb
     rw[hxl,dY (by omega),Int.toNat_natCast,gPo (by omega),ga,gb]
     have ea:(if rdL A (i:Int)=true then ac ((0:Int)≤(i:Int)∧(i:Int)<((l.fNo.length:Nat):Int)) (some (rdL X (i:Int)))else some false)=some (rdL A (i:Int)&&rdL X (i:Int)):=by
      rw[gPo (by omega)]
      cases rdL A (i:Int) <;> simp
     have eb:(if rdL B (i:Int)=true then some true else ac ((0:Int)≤(i:Int)∧(i:Int)<((l.fNo.length:Nat):Int)) (some (rdL X (i:Int))))=some (rdL B (i:Int)||rdL X (i:Int)):=by
      rw[gPo (by omega)]
      cases rdL B (i:Int) <;> simp
     rw[ea,oB,gPo (by omega),gPo (by omega),eb,oB,gPo (by omega),a7 (by omega),Int.toNat_natCast]
     refine .inl ⟨_,O,⟨i+1,O,by omega,by dsimp only;rw[List.length_set];exact j3,by dsimp only;rw[List.length_set];exact j4,fun k hk=>?_⟩,by dsimp only;omega,fun u hu=>hu⟩
     dsimp only
     rw[setB (by omega),setB (by omega)]
     obtain⟨g1,g2⟩:=j5 k hk
     by_cases e:k=i
     ·subst e
      rw[if_pos O,if_pos O,if_pos (by omega),if_pos (by omega)]
      exact⟨O,O⟩
     ·rw[if_neg e,if_neg e,g1,g2]
      by_cases hki:k<i
      ·rw[if_pos hki,if_pos hki,if_pos (by omega),if_pos (by omega)]
       exact⟨O,O⟩
      ·rw[if_neg hki,if_neg hki,if_neg (by omega),if_neg (by omega)]
       exact⟨O,O⟩
    ·rw[hxl,da (by omega)]
     refine .inr ⟨_,O,j3,j4,fun k hk=>?_⟩
     obtain⟨g1,g2⟩:=j5 k hk
     rw[if_pos (by omega)]at g1 g2
     exact⟨g1,g2⟩
   obtain⟨u,u1,u2,u3,u4⟩:=hin
   rw[u1,oB,a7 (by omega)]
   refine .inl ⟨_,O,⟨n+1,O,by omega,⟨u2,fun k hk=>?_⟩,⟨u3,fun k hk=>?_⟩⟩,by dsimp only;omega,fun t ht=>ht⟩
   ·dsimp only
    rw[(u4 k hk).1,Bool.and_eq_true,i3.iff k hk,x2.iff k hk]
    refine⟨fun⟨a,b⟩ m hm=>?_,fun a=>⟨fun m hm=>a m (by omega),a n (by omega)⟩⟩
    by_cases e:m=n
    ·subst e;exact b
    ·exact a m (by omega)
   ·dsimp only
    rw[(u4 k hk).2,Bool.or_eq_true,i4.iff k hk,x2.iff k hk]
    refine⟨fun a=>?_,fun⟨m,hm,a⟩=>?_⟩
    ·rcases a with⟨m,hm,a⟩|a
     ·exact⟨m,by omega,a⟩
     ·exact⟨n,by omega,a⟩
    ·by_cases e:m=n
     ·subst e;exact .inr a
     ·exact .inl ⟨m,by omega,a⟩
  ·rw[da (by omega)]
   have e:n=(sCs l).length:=by omega
   subst e
   exact .inr ⟨_,O,i3,i4⟩
 obtain⟨t,t1,t2,t3⟩:=fin
 rw[t1]
 refine⟨_,_,O,⟨t2.len,fun k hk=>(t2.iff k hk).trans ⟨fun a c hc=>?_,fun a m hm=>a _ (num_mem h.ok m)⟩⟩,⟨t3.len,fun k hk=>(t3.iff k hk).trans ⟨fun⟨m,hm,a⟩=>⟨_,num_mem h.ok m,a⟩,fun⟨c,hc,a⟩=>?_⟩⟩⟩
 ·obtain⟨m,hm,rfl⟩:=num_onto hc
  exact a m hm
 ·obtain⟨m,hm,rfl⟩:=num_onto hc
  exact⟨m,hm,a⟩
theorem put_eq {L:List Int} (hl:L.length≤1000000) (hs:StrictI L) {n:Int} (hn:n∉L):∃R,rn L n=some R∧StrictI R∧(∀q,q∈R↔q=n∨q∈L)∧R.length=L.length+1:=by
 unfold rn
 have key:∃t,aH (lP L n) ((L.length:Nat):Int)=some t∧∃k:Nat,t=(k:Int)∧k≤L.length∧(∀j,(hj:j<L.length)→k≤j→n<L[j])∧(∀h0:0<k,(h1:k≤L.length)→L[k-1]'(by omega)≤n):=by
  refine gT (body:=lP L n) (fun s=>∃k:Nat,s=(k:Int)∧k≤L.length∧∀j,(hj:j<L.length)→k≤j→n<L[j]) (fun s t=>∃k:Nat,t=(k:Int)∧k≤L.length∧(∀j,(hj:j<L.length)→k≤j→n<L[j])∧(∀h0:0<k,(h1:k≤L.length)→L[k-1]'(by omega)≤n)) (fun s=>s.toNat) (fun s hs=>?_) _ ⟨L.length,O,Nat.le_refl _,fun j hj h=>by omega⟩
  obtain⟨k,rfl,i2,i3⟩:=hs
  unfold lP
  by_cases h0:0<k
  ·have ew:w64 ((k:Int)-1)=((k-1:Nat):Int):=by rw[gK (by omega) (by omega)];omega
   have hlt:k-1<L.length:=by omega
   rw[dY (by omega),ew,gPo (by omega),aV hlt,oB]
   by_cases hc:n<L[k-1]
   ·rw[if_pos (decide_eq_true hc)]
    refine .inl ⟨_,O,⟨k-1,O,by omega,fun j hj h=>?_⟩,by omega,fun t ht=>ht⟩
    by_cases e:j=k-1
    ·subst e;exact hc
    ·exact i3 j hj (by omega)
   ·rw[if_neg (by simp[hc])]
    exact .inr ⟨_,O,k,O,i2,i3,fun _ _=>by omega⟩
  ·rw[da (by omega),oB,if_neg (by simp)]
   exact .inr ⟨_,O,k,O,i2,i3,fun h=>absurd h h0⟩
 obtain⟨t,t1,k,rfl,k2,k3,k4⟩:=key
 rw[t1,oB,gPo (by omega),Int.toNat_natCast,gPo (by omega),gPo (by omega),gPo (by omega),gPo (by omega)]
 refine⟨_,O,?_,fun q=>?_,?_⟩
 ·rw[List.nil_append,List.append_assoc]
  unfold StrictI at hs ⊢
  have hpw:=List.pairwise_iff_getElem.1 hs
  rw[List.pairwise_append]
  refine⟨hs.sublist (List.take_sublist _ _),?_,fun a ha b hb=>?_⟩
  ·rw[List.singleton_append,List.pairwise_cons]
   refine⟨fun b hb=>?_,hs.sublist (List.drop_sublist _ _)⟩
   obtain⟨j,hj,rfl⟩:=List.mem_iff_getElem.1 hb
   rw[List.getElem_drop]
   rw[List.length_drop]at hj
   exact k3 _ (by omega) (by omega)
  ·obtain⟨j,hj,rfl⟩:=List.mem_take_iff_getElem.1 ha
   have hlt:L[j]'(by omega)<n:=by
    have h1:=k4 (by omega) k2
    have hne:L[j]'(by omega)≠n:=fun e=>hn (e▸List.getElem_mem _)
    by_cases e:j=k-1
    ·subst e;omega
    ·have:=hpw j (k-1) (by omega) (by omega) (by omega)
     omega
   rw[List.singleton_append]at hb
   rcases List.mem_cons.1 hb with rfl|hb
   ·exact hlt
   ·obtain⟨i,hi,rfl⟩:=List.mem_iff_getElem.1 hb
    rw[List.getElem_drop]
    rw[List.length_drop]at hi
    have:=k3 (k+i) (by omega) (by omega)
    omega
 ·rw[List.nil_append,List.append_assoc,List.mem_append,List.mem_append,List.mem_singleton]
  have hsplit:=List.take_append_drop k L
  have:q∈L↔q∈L.take k∨q∈L.drop k:=by
   rw[←List.mem_append,hsplit]
  rw[this]
  exact⟨fun h=>by rcases h with h|h|h;exact .inr (.inl h);exact .inl h;exact .inr (.inr h),fun h=>by rcases h with h|h|h;exact .inr (.inl h);exact .inl h;exact .inr (.inr h)⟩
 ·simp
  omega
theorem putLoop {l:TL} (h:OkL l) (P:Nat→Prop) [∀k,Decidable (P k)] {body:(Int × List Int)→Option ((Int × List Int) ⊕ (Int × List Int))} (hb:∀k,(hk:k<l.fNo.length)→∀L:List Int,body ((k:Int),L)=if P k then(rn L (l.fNo[k]).fID).bind fun y=>some (.inl (((k+1:Nat):Int),y))else some (.inl (((k+1:Nat):Int),L))) (hs:∀L:List Int,body ((l.fNo.length:Int),L)=some (.inr ((l.fNo.length:Int),L))) :
  ∃t,aH body (0,[])=some t∧StrictI t.2∧(∀q,q∈t.2↔∃k,∃hk:k<l.fNo.length,P k∧(l.fNo[k]).fID=q)∧t.2.length≤l.fNo.length:=by
 have hnn:=h.nn
 refine gT (body:=body) (fun s=>∃k:Nat,s.1=(k:Int)∧k≤l.fNo.length∧StrictI s.2∧(∀q,q∈s.2↔∃j,∃hj:j<l.fNo.length,j<k∧P j∧(l.fNo[j]).fID=q)∧s.2.length≤k) (fun s t=>StrictI t.2∧(∀q,q∈t.2↔∃k,∃hk:k<l.fNo.length,P k∧(l.fNo[k]).fID=q)∧t.2.length≤l.fNo.length) (fun s=>((l.fNo.length:Int)-s.1).toNat) (fun s hs'=>?_) _ ⟨0,O,by omega,List.Pairwise.nil,fun q=>by simp,by simp⟩
 obtain⟨ki,L⟩:=s
 obtain⟨k,i1,i2,i3,i4,i5⟩:=hs'
 dsimp only at i1 i3 i4 i5 ⊢
 subst i1
 by_cases hk:k<l.fNo.length
 ·rw[hb k hk L]
  by_cases hP:P k
  ·have hnot:(l.fNo[k]).fID∉L:=fun hm=>by
    obtain⟨j,hj,hjk,_,e⟩:=(i4 _).1 hm
    have a1:=sv h hj
    have a2:=sv h hk
    rw[e,a2]at a1
    omega
   obtain⟨R,r1,r2,r3,r4⟩:=put_eq (by omega) i3 hnot
   rw[if_pos hP,r1,oB]
   refine .inl ⟨_,O,⟨k+1,O,by omega,r2,fun q=>?_,by dsimp only;omega⟩,by dsimp only;omega,fun t ht=>ht⟩
   dsimp only
   rw[r3,i4]
   constructor
   ·rintro(rfl|⟨j,hj,a,b⟩)
    ·exact⟨k,hk,by omega,hP,O⟩
    ·exact⟨j,hj,by omega,b⟩
   ·rintro⟨j,hj,a,b,e⟩
    by_cases ej:j=k
    ·subst ej;exact .inl e.symm
    ·exact .inr ⟨j,hj,by omega,b,e⟩
  ·rw[if_neg hP]
   refine .inl ⟨_,O,⟨k+1,O,by omega,i3,fun q=>?_,by dsimp only;omega⟩,by dsimp only;omega,fun t ht=>ht⟩
   dsimp only
   rw[i4]
   constructor
   ·rintro⟨j,hj,a,b⟩
    exact⟨j,hj,by omega,b⟩
   ·rintro⟨j,hj,a,b,e⟩
    by_cases ej:j=k
    ·subst ej;exact absurd b hP
    ·exact⟨j,hj,by omega,b,e⟩
 ·have e:k=l.fNo.length:=by omega
  subst e
  rw[hs L]
  refine .inr ⟨_,O,i3,fun q=>?_,i5⟩
  dsimp only
  rw[i4]
  exact⟨fun⟨j,hj,_,b⟩=>⟨j,hj,b⟩,fun⟨j,hj,b⟩=>⟨j,hj,hj,b⟩⟩
theorem rising_eq {F:List Int} (hl:F.length<1000000000):∃b,jO F=some b∧(b=true↔StrictI F):=by
 unfold jO
 rcases F with _|⟨x,T⟩
 ·refine⟨true,?_,fun _=>List.Pairwise.nil,fun _=>O⟩
  have:aH (dj []) (false,1)=some (.inr (false,1)):=by
   refine bV ?_
   unfold dj;dsimp only
   rw[da (by simp)]
  rw[this]
  rfl
 ·generalize hF:x::T=F at hl ⊢
  have hpos:0<F.length:=by subst hF;simp
  have hrun:=bk (body:=dj F) (fun k=>(false,((k+1:Nat):Int))) (F.length-1) (fun k=>if F.getD k 0<F.getD (k+1) 0 then none else some (Sum.inl (false,((k+1:Nat):Int)))) (t0:=.inr (false,(F.length:Int))) (fun k hk=>by
   have eg:F.getD k 0=F[k]'(by omega):=by rw[List.getD_eq_getElem?_getD,List.getElem?_eq_getElem (by omega)];rfl
   have eg1:F.getD (k+1) 0=F[k+1]'(by omega):=by rw[List.getD_eq_getElem?_getD,List.getElem?_eq_getElem (by omega)];rfl
   have ew:w64 (((k+1:Nat):Int)-1)=(k:Int):=by rw[gK (by omega) (by omega)];omega
   unfold dj;dsimp only
   rw[dY (by omega),gPo (by omega),ew,gPo (by omega),aV (show k+1<F.length by omega),aV (show k<F.length by omega),a7 (by omega),eg,eg1]
   by_cases e:F[k]'(by omega)<F[k+1]'(by omega)
   ·rw[da (by omega),if_pos e]
   ·rw[dY (by omega),if_neg e]) (by
   unfold dj;dsimp only
   rw[show F.length-1+1=F.length by omega,da (by omega)])
  have h0:aH (dj F) (false,1)=_:=hrun
  rw[h0,oB]
  rcases bA (R:=fun k=>if F.getD k 0<F.getD (k+1) 0 then none else some (Sum.inl (false,((k+1:Nat):Int)):(Bool × Int) ⊕ (Bool × Int))) (n:=F.length-1) (.inr (false,(F.length:Int)))with⟨hn,h2⟩|⟨k,t,hk,hR,hj,h2⟩
  ·rw[h2]
   refine⟨true,O,fun _=>rT (fun k hk=>?_),fun _=>O⟩
   have:=hn k (by omega)
   rw[List.getD_eq_getElem?_getD,List.getD_eq_getElem?_getD,List.getElem?_eq_getElem (show k<F.length by omega),List.getElem?_eq_getElem hk]at this
   split at this
   ·assumption
   ·cases this
  ·rw[h2]
   have hq:¬F.getD k 0<F.getD (k+1) 0:=fun hq=>by rw[if_pos hq]at hR;cases hR
   rw[if_neg hq]at hR
   cases hR
   refine⟨false,O,fun h=>(by cases h),fun hs=>(hq ?_).elim⟩
   rw[List.getD_eq_getElem?_getD,List.getD_eq_getElem?_getD,List.getElem?_eq_getElem (show k<F.length by omega),List.getElem?_eq_getElem (show k+1<F.length by omega)]
   exact List.pairwise_iff_getElem.1 hs k (k+1) (by omega) (by omega) (by omega)
theorem rnodes_eq {l:TL} (hn:l.fNo.length<1000000000) {F:List Int} (hl:F.length<1000000000):∃b,ls l F=some b∧(b=true↔IsFrom l F):=by
 unfold ls
 have hrun:=bk (body:=fP l F) (fun k=>(false,(k:Int))) F.length (fun k=>if co l (F.getD k 0)<0 then some (Sum.inl (false,(k:Int)))else none) (t0:=.inr (false,(F.length:Int))) (fun k hk=>by
  have eg:F.getD k 0=F[k]:=by rw[List.getD_eq_getElem?_getD,List.getElem?_eq_getElem hk];rfl
  unfold fP;dsimp only
  rw[dY (by omega),gPo (by omega),aV hk,lT hn,oB,eg,a7 (by omega)]
  by_cases e:co l F[k]<0
  ·rw[dY e,if_pos e]
  ·rw[da e,if_neg e]) (by
  unfold fP;dsimp only
  rw[da (by omega)])
 have h0:aH (fP l F) (false,0)=_:=hrun
 rw[h0,oB]
 rcases bA (R:=fun k=>if co l (F.getD k 0)<0 then some (Sum.inl (false,(k:Int)):(Bool × Int) ⊕ (Bool × Int))else none) (n:=F.length) (.inr (false,(F.length:Int)))with⟨hno,h2⟩|⟨k,t,hk,hR,hj,h2⟩
 ·rw[h2]
  have hall:∀x∈F,x∈IDs l:=fun x hx=>by
   obtain⟨k,hk,rfl⟩:=List.mem_iff_getElem.1 hx
   have:=hno k hk
   rw[List.getD_eq_getElem?_getD,List.getElem?_eq_getElem hk]at this
   split at this
   ·cases this
   ·rename_i hh
    exact cQ.1 (by simp only[Option.getD_some]at hh;omega)
  dsimp only
  by_cases h0:0<F.length
  ·obtain⟨b,b1,b2⟩:=rising_eq hl
   rw[dY (by omega),b1]
   exact⟨b,O,b2.trans ⟨fun h=>⟨h0,h,hall⟩,fun h=>h.2.1⟩⟩
  ·rw[da (by omega)]
   exact⟨false,O,fun h=>(by cases h),fun h=>absurd h.1 h0⟩
 ·rw[h2]
  have hq:co l (F.getD k 0)<0:=by
   by_cases hq:co l (F.getD k 0)<0
   ·exact hq
   ·rw[if_neg hq]at hR;cases hR
  rw[if_pos hq]at hR
  cases hR
  refine⟨false,O,fun h=>(by cases h),fun h=>?_⟩
  rw[List.getD_eq_getElem?_getD,List.getElem?_eq_getElem hk]at hq
  have:=cQ.2 (h.2.2 _ (List.getElem_mem hk))
  simp only[Option.getD_some]at hq
  omega
theorem From_eq {l:TL} {F:List Int} (hl:F.length<1000000000):ml l F=some (askS l F):=by
 unfold ml
 rw[rCheck_eq,oB]
 unfold askS
 by_cases h0:kz l=0
 ·obtain⟨b,b1,b2⟩:=rnodes_eq (l:=l) (F:=F) (by have:=(sE.1 h0).nn;omega) hl
  rw[if_pos h0,if_pos (by simp[h0]),b1,oB,oB]
  cases b with
  | true=>rw[if_neg (by simp),if_pos (b2.1 O),h0]
  | false=>rw[if_pos (by rfl),if_neg (fun h=>by have:=b2.2 h;cases this)]
 ·rw[if_neg h0,if_neg (by simp[h0]),oB,if_neg (by simp)]
def mX (l:TL) (c:List Int) (k:Nat):Prop:=0≤c.getD k 0∧c.getD k 0≤((oO l k).length:Int)-1
instance (l:TL) (c:List Int) (k:Nat):Decidable (mX l c k):=by unfold mX;infer_instance
theorem case_ret {l:TL} {c:List Int} (he:c.length=l.fC.length):(match ((List.range c.length).findSome? fun k=>if mX l c k then none else some (Sum.inl (false,(k:Int)):(Bool × Int) ⊕ (Bool × Int))).getD (.inr (false,(c.length:Int)))with|.inl u=>some u.1|.inr _=>some true)=some (decide (c∈sCs l)):=by
 rcases bA (R:=fun k=>if mX l c k then none else some (Sum.inl (false,(k:Int)):(Bool × Int) ⊕ (Bool × Int))) (n:=c.length) (.inr (false,(c.length:Int)))with⟨hn,h2⟩|⟨k,t,hk,hR,hj,h2⟩
 ·rw[h2]
  have:c∈sCs l:=li.2 ⟨he,fun i hi=>by
   have:=hn i (by omega)
   split at this
   ·rename_i hh
    unfold mX at hh
    omega
   ·cases this⟩
  rw[decide_eq_true this]
 ·rw[h2]
  have hq:¬mX l c k:=fun hq=>by rw[if_pos hq]at hR;cases hR
  rw[if_neg hq]at hR
  cases hR
  have:c∉sCs l:=fun hm=>hq (by
   have:=(li.1 hm).2 k (by omega)
   unfold mX
   omega)
  rw[decide_eq_false this]
theorem isCase_eq {l:TL} (hc:OkL l) {c:List Int}:gw l c=some (decide (c∈sCs l)):=by
 have hnc:=hc.nc
 unfold gw
 by_cases he:c.length=l.fC.length
 ·rw[if_neg (by simp[he])]
  have hrun:=bk (body:=er l c) (fun k=>(false,(k:Int))) c.length (fun k=>if mX l c k then none else some (Sum.inl (false,(k:Int)))) (t0:=.inr (false,(c.length:Int))) (fun k hk=>by
   have ho:(rdL l.fC (k:Int)).fO=oO l k:=by rw[aV (by omega)];unfold oO;rw[bB (by omega)]
   have hle:=(lr hc (i:=k) (by omega)).1
   have eg:rdL c (k:Int)=c.getD k 0:=jI c k
   unfold er;dsimp only
   rw[dY (by omega),gPo (by omega),gPo (by omega),ox,oB,ho,eg,gK (by omega) (by omega),a7 (by omega)]
   by_cases e:mX l c k
   ·have e':0≤c.getD k 0∧c.getD k 0≤((oO l k).length:Int)-1:=e
    rw[if_pos e,decide_eq_true e',if_neg (by simp)]
   ·have e':¬(0≤c.getD k 0∧c.getD k 0≤((oO l k).length:Int)-1):=e
    rw[if_neg e,decide_eq_false e',if_pos (by rfl)]) (by
   unfold er;dsimp only
   rw[da (by omega)])
  have h0:aH (er l c) (false,0)=_:=hrun
  rw[h0,oB]
  exact case_ret he
 ·rw[if_pos (by simp;omega)]
  have:c∉sCs l:=fun hm=>he (li.1 hm).1
  rw[decide_eq_false this]
theorem right_eq {l:TL} (hc:OkL l) {c:List Int}:lA l c=some (decide (c∈sCs l)):=by
 have hnc:=hc.nc
 unfold lA
 by_cases he:c.length=l.fC.length
 ·rw[if_neg (by simp[he])]
  have hrun:=bk (body:=f6 l c) (fun k=>(false,(k:Int))) c.length (fun k=>if mX l c k then none else some (Sum.inl (false,(k:Int)))) (t0:=.inr (false,(c.length:Int))) (fun k hk=>by
   have ho:(rdL l.fC (k:Int)).fO=oO l k:=by rw[aV (by omega)];unfold oO;rw[bB (by omega)]
   have hle:=(lr hc (i:=k) (by omega)).1
   have eg:rdL c (k:Int)=c.getD k 0:=jI c k
   unfold f6;dsimp only
   rw[dY (by omega),gPo (by omega),gPo (by omega),rin_eq,oB,ho,eg,gK (by omega) (by omega),a7 (by omega)]
   by_cases e:mX l c k
   ·have e':0≤c.getD k 0∧c.getD k 0≤((oO l k).length:Int)-1:=e
    rw[if_pos e,decide_eq_true e',if_neg (by simp)]
   ·have e':¬(0≤c.getD k 0∧c.getD k 0≤((oO l k).length:Int)-1):=e
    rw[if_neg e,decide_eq_false e',if_pos (by rfl)]) (by
   unfold f6;dsimp only
   rw[da (by omega)])
  have h0:aH (f6 l c) (false,0)=_:=hrun
  rw[h0,oB]
  exact case_ret he
 ·rw[if_pos (by simp;omega)]
  have:c∉sCs l:=fun hm=>he (li.1 hm).1
  rw[decide_eq_false this]
def cidI (l:TL) (i:Nat):Int:=(l.fC.getD i default).fID
def sX (l:TL) (c:List Int) (x:Int→Bool):Nat→Nat→Bool:=fun i k=>sC c i k && !(x (cidI l i))
def EX' (l:TL) (c:List Int) (x:Int→Bool):List TH:=Ed l (sX l c x)
def Open (l:TL) (F:List Int) (to:Int) (x:Int→Bool):Prop:=∃c∈sCs l,Comes (EX' l c x) F to
theorem mem_EX {l:TL} {c:List Int} (hc:c∈sCs l) {x:Int→Bool} {h:TH}:h∈EX' l c x↔∃i,i<l.fC.length∧x (cidI l i)=false∧pick l c i=h:=by
 unfold EX' Ed sX
 rw[qE]
 have hm:=(li.1 hc).2
 constructor
 ·rintro⟨i,k,hi,hk,hs,e⟩
  rw[Bool.and_eq_true]at hs
  refine⟨i,hi,by simpa using hs.2,?_⟩
  have hs1:=hs.1
  unfold sC at hs1
  rw[jI]at hs1
  have:c.getD i 0=(k:Int):=by simpa using hs1
  unfold pick
  rw[this]
  exact e
 ·rintro⟨i,hi,hx,e⟩
  obtain⟨h1,h2⟩:=hm i hi
  refine⟨i,(c.getD i 0).toNat,hi,by omega,?_,e⟩
  unfold sC
  rw[jI,Int.toNat_of_nonneg h1,beq_self_eq_true,hx]
  rfl
theorem Open.mono {l:TL} {F:List Int} {to:Int} {x y:Int→Bool} (h:∀q,y q=true→x q=true) (ho:Open l F to x):Open l F to y:=by
 obtain⟨c,hc,hq⟩:=ho
 refine⟨c,hc,Comes.mono (fun e he=>?_) (fun z hz=>hz) hq⟩
 obtain⟨i,hi,hx,e⟩:=(mem_EX hc).1 he
 refine(mem_EX hc).2 ⟨i,hi,?_,e⟩
 cases hy:y (cidI l i)
 ·rfl
 ·rw[h _ hy]at hx;cases hx
def CIDs (l:TL):List Int:=l.fC.map (·.fID)
theorem bool_decb {P Q:Prop} [Decidable P] [Decidable Q] (h:P↔Q):decide P=decide Q:=by
 by_cases hp:P
 ·rw[decide_eq_true hp,decide_eq_true (h.1 hp)]
 ·rw[decide_eq_false hp,decide_eq_false (fun hq=>hp (h.2 hq))]
theorem IndexInt_eq {s:List Int} (hl:s.length<1000000000) (v:Int):bY s v=some (ry s (fun x=>v==x)):=by
 unfold bY
 have:=bk (body:=bh s v) (fun k=>((0:Int),(k:Int))) s.length (fun k=>if(v==s.getD k default)=true then some (Sum.inl ((k:Int),(k:Int)))else none) (t0:=.inr (0,(s.length:Int))) (fun k hk=>by
  unfold bh;dsimp only
  rw[dY (by omega),gPo (by omega),aV hk,bB hk,a7 (by omega)]
  cases (v==s[k]) <;> rfl) (by
  unfold bh;dsimp only
  rw[da (by omega)])
 have h0:aH (bh s v) (0,0)=_:=this
 rw[h0,oB]
 exact nl s (fun x=>v==x)
theorem mF {s:List Int} (hl:s.length<1000000000) (v:Int):aL s v=some (decide (v∈s)):=by
 unfold aL
 rw[IndexInt_eq hl,oB]
 refine congrArg some (bool_decb ?_)
 rw[lE]
 simp
theorem rX {l:TL} (h:Small l) {F:List Int} (hf:IsFrom l F) {to:Int} (ht:to∈IDs l):aZ l F to=some 0:=by
 have hn:l.fNo.length<1000000000:=by have:=h.n12;omega
 have hi:0≤co l to:=cQ.2 ht
 unfold aZ
 rw[ask0 h hf,oB,if_neg (by simp),mZ hn,oB,da (by omega)]
structure CutOf (l:TL) (F:List Int) (to:Int) (C:List Int):Prop where
 st:StrictI C
 sub:∀x∈C,x∈CIDs l
 len:C.length≤12
 cut:¬Open l F to (fun q=>decide (q∈C))
 min:∀x∈C,Open l F to (fun q=>decide (q∈C∧q≠x))
theorem To_both {l:TL} {F:List Int} (hl:F.length≤1000) (to:Int):∃e,aZ l F to=some e∧nh l F to=some e∧(e=0↔OkL l∧IsFrom l F∧to∈IDs l):=by
 unfold aZ nh
 rw[asked_S (by omega),From_eq (by omega),oB,oB]
 by_cases ha:askS l F=0
 ·obtain⟨hok,hf⟩:=askS_0.1 ha
  have hn:l.fNo.length<1000000000:=by have:=hok.nn;omega
  rw[if_neg (by simp[ha]),if_pos (by simp[ha]),mZ hn,lT hn,oB,oB,oB]
  by_cases hi:co l to<0
  ·rw[dY hi,dY hi]
   exact⟨5,O,O,fun h=>(by cases h),fun h=>by have:=cQ.2 h.2.2;omega⟩
  ·rw[da hi,da hi,ha]
   exact⟨0,O,O,fun _=>⟨hok,hf,cQ.1 (by omega)⟩,fun _=>O⟩
 ·rw[if_pos (by simp[ha]),if_neg (by simp[ha]),oB,if_neg (by simp)]
  exact⟨_,O,O,fun h=>absurd h ha,fun h=>absurd (askS_0.2 ⟨h.1,h.2.1⟩) ha⟩
theorem qT {S T α:Type} {f:S→α→Option (S ⊕ T)} {s:S} (g:α→Bool) (t:α→T):∀{xs:List α},(∀x∈xs,f s x=if g x=true then some (.inr (t x))else some (.inl s))→(fz f xs s=some (.inl s)∧∀x∈xs,g x=false)∨∃x∈xs,g x=true∧fz f xs s=some (.inr (t x))
 | [],_=>.inl ⟨O,fun x hx=>by cases hx⟩
 | x::xs,h=>by
  have hx:=h x (by simp)
  cases hg:g x with
  | true =>
   rw[hg,if_pos O]at hx
   refine .inr ⟨x,by simp,hg,?_⟩
   unfold fz
   rw[hx]
  | false =>
   rw[hg,if_neg (by simp)]at hx
   rcases qT (f:=f) (s:=s) g t (xs:=xs) (fun y hy=>h y (by simp[hy]))with⟨a,c⟩|⟨y,hy,c,a⟩
   ·refine .inl ⟨?_,fun y hy=>?_⟩
    ·unfold fz;rw[hx];exact a
    ·rcases List.mem_cons.1 hy with rfl|hy
     ·exact hg
     ·exact c y hy
   ·refine .inr ⟨y,by simp[hy],c,?_⟩
    unfold fz;rw[hx];exact a
theorem find_eq {l:TL} (h:Small l) {F:List Int} (hf:IsFrom l F) {to:Int} (ht:to∈IDs l) (is:Bool):(g9 l F to is=some ([],false)∧∀c∈sCs l,cm l F to c≠is)∨∃c∈sCs l,cm l F to c=is∧g9 l F to is=some (c,true):=by
 have hfl:=hf.len h
 have hc12:=h.c12
 unfold g9 cv
 rw[oB,gPo (Cs_ok h.ok)]
 rcases qT (f:=jG l F to is) (s:=(false,[])) (fun c=>cm l F to c==is) (fun c=>(true,c)) (xs:=sCs l) (fun c hc=>by
  obtain⟨m,m1,m2,m3⟩:=n2 h hf.2.2 hfl hc
  have hcl:=(li.1 hc).1
  have e:aw false m to=cm l F to c:=by rw[Bool.eq_iff_iff,m2.get,cm_iff]
  unfold jG bM ff
  rw[oB,m1,oB,gPo (nD h.ok ht),e,gPo (by omega)]
  rfl)with⟨a,b⟩|⟨c,hc,b,a⟩
 ·rw[a]
  refine .inl ⟨O,fun c hc e=>?_⟩
  have:=b c hc
  rw[e]at this
  simp at this
 ·rw[a]
  exact .inr ⟨c,hc,by simpa using b,O⟩
theorem linkI_lt (l:TL) (id:Int):jb l id<(l.fC.length:Int):=gr _ _
def mn (l:TL) (c:List Int) (id:Int):TH:=pick l c (jb l id).toNat
def m9 (l:TL) (F c R:List Int) (k:Nat):Prop:=(0≤jb l (R.getD k 0)∧R.getD k 0∉R.take k)∧(if k=0 then(mn l c (R.getD k 0)).fFrom∈F else(mn l c (R.getD k 0)).fFrom=(mn l c (R.getD (k-1) 0)).fTo)
instance (l:TL) (F c R:List Int) (k:Nat):Decidable (m9 l F c R k):=by unfold m9;infer_instance
def atT (l:TL) (c R:List Int) (k:Nat):Int:=if k=0 then 0 else(mn l c (R.getD (k-1) 0)).fTo
def LeadsP (l:TL) (F:List Int) (to:Int) (c R:List Int):Prop:=c∈sCs l∧if R.length=0 then to∈F else(∀k,k<R.length→m9 l F c R k)∧atT l c R R.length=to
theorem qP {l:TL} {c:List Int} (hc:c∈sCs l) {id:Int} (h0:0≤jb l id):∃i:Nat,jb l id=(i:Int)∧i<l.fC.length∧mn l c id=pick l c i∧(0≤c.getD i 0∧c.getD i 0<((oO l i).length:Int))∧(rdL l.fC (i:Int)).fO=oO l i∧rdL c (i:Int)=c.getD i 0∧rdL (oO l i) (c.getD i 0)=mn l c id:=by
 obtain⟨hcl,hcr⟩:=li.1 hc
 obtain⟨i,hi⟩:=Int.eq_ofNat_of_zero_le h0
 have hlt:i<l.fC.length:=by have:=linkI_lt l id;omega
 have e:mn l c id=pick l c i:=by unfold mn;rw[hi];rfl
 exact⟨i,hi,hlt,e,hcr i hlt,by rw[aV hlt];unfold oO;rw[bB hlt],jI _ i,e.symm▸O⟩
theorem getD0 {L:List Int} {k:Nat} (h:k<L.length):L.getD k 0=L[k]:=by rw[List.getD_eq_getElem?_getD,List.getElem?_eq_getElem h];rfl
theorem tn {l:TL} {F c R:List Int} {to:Int} (h0:R.length≠0) {T:Type} (f:Nat→T) (n:Nat) (hn:n=R.length):(∀k,k<n→(if m9 l F c R k then none else some (f k))=none)↔∀k,k<R.length→m9 l F c R k:=by
 subst hn
 refine⟨fun h k hk=>?_,fun h k hk=>if_pos (h k hk)⟩
 have:=h k hk
 split at this
 ·assumption
 ·cases this
theorem leads_iff {l:TL} (h:Small l) {F:List Int} (hFl:F.length≤1000) (to:Int) {t:TTrace} (ht:t.fC.length≤1000):∃b,jP l F to t=some b∧(b=true↔LeadsP l F to t.fCase t.fC):=by
 have hc12:=h.c12
 unfold jP LeadsP
 rw[isCase_eq h.ok,oB]
 by_cases hc:t.fCase∈sCs l
 ·obtain⟨hcl,hcr⟩:=li.1 hc
  rw[decide_eq_true hc,if_neg (by simp)]
  by_cases h0:t.fC.length=0
  ·rw[if_pos (by simp[h0]),mF (by omega),oB,if_pos h0]
   exact⟨_,O,by simp[hc]⟩
  ·rw[if_neg (by simp;intro e;exact h0 (by rw[e];rfl)),if_neg h0]
   have hrun:=bk (body:=fg l F t) (fun k=>(false,atT l t.fCase t.fC k,(k:Int))) t.fC.length (fun k=>if m9 l F t.fCase t.fC k then none else some (.inl (false,atT l t.fCase t.fC k,(k:Int)))) (t0:=.inr (false,atT l t.fCase t.fC t.fC.length,(t.fC.length:Int))) (fun k hk=>by
    unfold fg;dsimp only
    have eg:t.fC.getD k 0=t.fC[k]:=getD0 hk
    rw[dY (by omega),gPo (by omega),aV hk,qL (by omega),oB,Int.toNat_natCast]
    by_cases hneg:jb l t.fC[k]<0
    ·rw[dY hneg,oB,if_pos O,if_neg (fun h=>by have:=h.1.1;rw[eg]at this;omega)]
    ·obtain⟨i,hi,hlt,e1,⟨r1,r2⟩,ho,ec,ep⟩:=qP hc (id:=t.fC[k]) (by omega)
     rw[da hneg,gPo (by omega),mF (by rw[List.length_take];omega),oB,oB]
     by_cases hd:t.fC[k]∈t.fC.take k
     ·rw[if_pos (by simp[hd]),if_neg (fun h=>h.1.2 (by rw[eg];exact hd))]
     ·rw[if_neg (by simp[hd]),hi,gPo (by omega),gPo (by omega),ho,ec,gPo ⟨r1,r2⟩,ep,a7 (by omega)]
      have base:0≤jb l (t.fC.getD k 0)∧t.fC.getD k 0∉t.fC.take k:=by rw[eg];exact⟨by omega,hd⟩
      by_cases hk0:k=0
      ·subst hk0
       rw[if_pos (by rfl),mF (by omega),oB,oB]
       by_cases hf:(mn l t.fCase t.fC[0]).fFrom∈F
       ·rw[if_neg (by simp[hf]),if_pos ⟨base,by rw[if_pos O,eg];exact hf⟩]
        unfold atT
        rw[if_neg (by omega),Nat.add_sub_cancel,eg]
       ·rw[if_pos (by simp[hf]),if_neg (fun h=>hf (by have:=h.2;rw[if_pos O,eg]at this;exact this))]
      ·rw[if_neg (by simp;omega),oB]
       have ea:atT l t.fCase t.fC k=(mn l t.fCase (t.fC.getD (k-1) 0)).fTo:=by unfold atT;rw[if_neg hk0]
       have ea2:atT l t.fCase t.fC (k+1)=(mn l t.fCase t.fC[k]).fTo:=by unfold atT;rw[if_neg (by omega),Nat.add_sub_cancel,eg]
       by_cases hf:(mn l t.fCase t.fC[k]).fFrom=atT l t.fCase t.fC k
       ·rw[if_neg (by simp[hf]),if_pos ⟨base,by rw[if_neg hk0,eg,←ea];exact hf⟩,ea2]
       ·rw[if_pos (by simp[hf];omega),if_neg (fun h=>hf (by have:=h.2;rw[if_neg hk0,eg,←ea]at this;exact this))]) (by
    unfold fg;dsimp only
    rw[da (by omega)])
   have h00:aH (fg l F t) (false,0,0)=_:=hrun
   rw[h00,oB]
   rcases bA (R:=fun k=>if m9 l F t.fCase t.fC k then none else some (Sum.inl (false,atT l t.fCase t.fC k,(k:Int)):(Bool × Int × Int) ⊕ (Bool × Int × Int))) (n:=t.fC.length) (.inr (false,atT l t.fCase t.fC t.fC.length,(t.fC.length:Int)))with⟨hn,h2⟩|⟨k,u,hk,hR,hj,h2⟩
   ·rw[h2]
    have hall:=(tn (to:=to) h0 _ _ O).1 hn
    refine⟨_,O,?_⟩
    dsimp only
    rw[beq_iff_eq]
    exact⟨fun e=>⟨hc,hall,e⟩,fun e=>e.2.2⟩
   ·rw[h2]
    have hno:¬m9 l F t.fCase t.fC k:=fun h=>by rw[if_pos h]at hR;cases hR
    rw[if_neg hno]at hR
    cases hR
    exact⟨false,O,fun h=>(by cases h),fun h=>absurd (h.2.1 k hk) hno⟩
 ·rw[decide_eq_false hc,if_pos (by rfl)]
  exact⟨false,O,fun h=>(by cases h),fun h=>absurd h.1 hc⟩
theorem LeadsP.comes {l:TL} {F:List Int} {to:Int} {c R:List Int} (h:LeadsP l F to c R) {E:List TH} (hE:∀id∈R,0≤jb l id→mn l c id∈E):Comes E F to:=by
 obtain⟨hc,h⟩:=h
 by_cases h0:R.length=0
 ·rw[if_pos h0]at h
  exact .base h
 ·rw[if_neg h0]at h
  obtain⟨hs,ha⟩:=h
  have key:∀k,k<R.length→Comes E F (mn l c (R.getD k 0)).fTo:=by
   intro k
   induction k with
   | zero =>
    intro hk
    obtain⟨⟨a,b⟩,d⟩:=hs 0 hk
    rw[if_pos O]at d
    exact .step (.base d) (hE _ (by rw[getD0 hk];exact List.getElem_mem hk) a)
   | succ k ih =>
    intro hk
    obtain⟨⟨a,b⟩,d⟩:=hs (k+1) hk
    rw[if_neg (by omega),Nat.add_sub_cancel]at d
    have:=ih (by omega)
    rw[←d]at this
    exact .step this (hE _ (by rw[getD0 hk];exact List.getElem_mem hk) a)
  have:=key (R.length-1) (by omega)
  unfold atT at ha
  rw[if_neg h0]at ha
  rw[←ha]
  exact this
theorem hopT_EC {l:TL} {c:List Int} (hc:c∈sCs l) {id:Int} (h0:0≤jb l id):mn l c id∈EC l c:=by
 obtain⟨i,hi,hlt,e,_⟩:=qP hc h0
 exact(pB hc).2 ⟨i,hlt,e.symm⟩
theorem LeadsP.reached {l:TL} {F:List Int} {to:Int} {c R:List Int} (h:LeadsP l F to c R):Comes (EC l c) F to:=h.comes (fun id _ h0=>hopT_EC h.1 h0)
inductive Ch (l:TL) (c:List Int):Int→List Int→Int→Prop
 | nil (a:Int):Ch l c a [] a
 | cons {id:Int} {R:List Int} {to:Int}:0≤jb l id→Ch l c (mn l c id).fTo R to→Ch l c (mn l c id).fFrom (id::R) to
theorem Ch.lead {l:TL} {c R:List Int} {a to:Int} (h:Ch l c a R to):(∀k,k<R.length→0≤jb l (R.getD k 0)∧(mn l c (R.getD k 0)).fFrom=if k=0 then a else(mn l c (R.getD (k-1) 0)).fTo)∧(if R.length=0 then a=to else(mn l c (R.getD (R.length-1) 0)).fTo=to):=by
 induction h with
 | nil a=>exact⟨fun k hk=>by simp at hk,O⟩
 | @cons id R to h0 _ ih =>
  refine⟨fun k hk=>?_,?_⟩
  ·cases k with
   | zero=>exact⟨h0,O⟩
   | succ k =>
    have:=ih.1 k (by simpa using hk)
    refine⟨this.1,?_⟩
    rw[if_neg (by omega),Nat.add_sub_cancel]
    cases k with
    | zero=>rw[if_pos O]at this;exact this.2
    | succ k=>rw[if_neg (by omega),Nat.add_sub_cancel]at this;exact this.2
  ·rw[if_neg (by simp)]
   have h2:=ih.2
   by_cases hr:R.length=0
   ·have:R=[]:=List.eq_nil_of_length_eq_zero hr
    subst this
    exact h2
   ·rw[if_neg hr]at h2
    rw[←h2]
    obtain⟨n,hn⟩:∃n,R.length=n+1:=⟨R.length-1,by omega⟩
    rw[List.length_cons,hn]
    rfl
theorem notin_take {R:List Int} (h:R.Nodup) {k:Nat} (hk:k<R.length):R.getD k 0∉R.take k:=by
 rw[getD0 hk]
 intro hm
 have e:R=R.take k++R[k]::R.drop (k+1):=by rw[←List.drop_eq_getElem_cons hk,List.take_append_drop]
 rw[e,List.nodup_append]at h
 exact h.2.2 _ hm _ List.mem_cons_self O
theorem Ch.leads {l:TL} {F c R:List Int} {a to:Int} (hc:c∈sCs l) (h:Ch l c a R to) (hn:R.Nodup) (ha:a∈F):LeadsP l F to c R:=by
 obtain⟨h1,h2⟩:=h.lead
 refine⟨hc,?_⟩
 by_cases h0:R.length=0
 ·rw[if_pos h0]at h2 ⊢
  rw[←h2];exact ha
 ·rw[if_neg h0]at h2 ⊢
  refine⟨fun k hk=>⟨⟨(h1 k hk).1,notin_take hn hk⟩,?_⟩,?_⟩
  ·have:=(h1 k hk).2
   by_cases hk0:k=0
   ·rw[if_pos hk0]at this ⊢
    rw[this];exact ha
   ·rw[if_neg hk0]at this ⊢
    exact this
  ·unfold atT
   rw[if_neg h0]
   exact h2
theorem lv_rg {l:TL} (h:OkL l) {q:Int} (hq:q∈IDs l):0≤lvI l q:=by
 unfold lvI
 exact(h.nodes _ (idxI_mem (cQ.2 hq))).2.1.1
theorem mw {l:TL} (h:OkL l) {i:Nat} (hi:i<l.fC.length):jb l (l.fC[i]).fID=(i:Int):=sK h.cd hi
theorem rdL_set {X:List Int} {j:Nat} (hj:j<X.length) (v:Int) (k:Nat):rdL (X.set j v) (k:Int)=if k=j then v else rdL X (k:Int):=by
 unfold rdL
 rw[Int.toNat_natCast,List.getD_eq_getElem?_getD,List.getElem?_set]
 by_cases e:j=k
 ·subst e;simp[hj]
 ·rw[if_neg e,if_neg (fun h=>e h.symm),List.getD_eq_getElem?_getD]
theorem Reverse_eq {L:List Int} (hl:L.length≤1000):cV L=some L.reverse:=by
 unfold cV
 have e0:w64 (((L.length:Nat):Int)-1)=(L.length:Int)-1:=gK (by omega) (by omega)
 have key:∃u,aH (ci L) (0,(L.length:Int)-1,L)=some u∧u.2.2.length=L.length∧∀p:Nat,p<L.length→rdL u.2.2 (p:Int)=rdL L ((L.length-1-p:Nat):Int):=by
  refine gT (body:=ci L) (fun s=>∃i:Nat,s.1=(i:Int)∧s.2.1=(L.length:Int)-1-(i:Int)∧2*i≤L.length∧s.2.2.length=L.length∧∀p:Nat,p<L.length→rdL s.2.2 (p:Int)=if p<i∨L.length<p+i+1 then rdL L ((L.length-1-p:Nat):Int)else rdL L (p:Int)) (fun s u=>u.2.2.length=L.length∧∀p:Nat,p<L.length→rdL u.2.2 (p:Int)=rdL L ((L.length-1-p:Nat):Int)) (fun s=>((L.length:Int)-s.1).toNat) (fun s hs=>?_) _ ⟨0,O,by dsimp only;omega,by omega,O,fun p hp=>by rw[if_neg (by omega)]⟩
  obtain⟨a,b,X⟩:=s
  obtain⟨i,i1,i2,i3,i4,i5⟩:=hs
  dsimp only at i1 i2 i4 i5 ⊢
  subst i1 i2
  unfold ci;dsimp only
  by_cases hc:(i:Int)<(L.length:Int)-1-(i:Int)
  ·obtain⟨j,hj⟩:∃j:Nat,j=L.length-1-i:=⟨_,O⟩
   have hji:(L.length:Int)-1-(i:Int)=(j:Int):=by omega
   rw[dY hc,hji,gPo (by omega),gPo (by omega),gPo (by omega),gPo (by omega),a7 (by omega),gK (x:=(j:Int)-1) (by omega) (by omega),Int.toNat_natCast,Int.toNat_natCast]
   have ri:=i5 i (by omega)
   have rj:=i5 j (by omega)
   rw[if_neg (by omega)]at ri rj
   refine .inl ⟨_,O,⟨i+1,O,by dsimp only;omega,by omega,by dsimp only;rw[List.length_set,List.length_set];exact i4,fun p hp=>?_⟩,by dsimp only;omega,fun u hu=>hu⟩
   dsimp only
   rw[rdL_set (by rw[List.length_set];omega),rdL_set (by omega),ri,rj]
   by_cases e1:p=j
   ·subst e1
    rw[if_pos O,if_pos (by omega),show L.length-1-p=i by omega]
   ·rw[if_neg e1]
    by_cases e2:p=i
    ·subst e2
     rw[if_pos O,if_pos (by omega),show L.length-1-p=j by omega]
    ·rw[if_neg e2,i5 p hp]
     by_cases e3:p<i∨L.length<p+i+1
     ·rw[if_pos e3,if_pos (by omega)]
     ·rw[if_neg e3,if_neg (by omega)]
  ·rw[da hc]
   refine .inr ⟨_,O,i4,fun p hp=>?_⟩
   dsimp only
   rw[i5 p hp]
   by_cases e3:p<i∨L.length<p+i+1
   ·rw[if_pos e3]
   ·rw[if_neg e3,show L.length-1-p=p by omega]
 obtain⟨u,u1,u2,u3⟩:=key
 rw[e0,u1,oB]
 refine congrArg some (List.ext_getElem (by rw[u2,List.length_reverse]) (fun p h1 h2=>?_))
 have h3:=u3 p (by omega)
 rw[aV h1,aV (by omega)]at h3
 rw[h3,List.getElem_reverse]
theorem walk_eq {l:TL} (h:Small l) {F:List Int} (hf:IsFrom l F) {to:Int} {c:List Int} (hc:c∈sCs l) (hq:Comes (EC l c) F to):∃R,k7 l F to c=some R∧LeadsP l F to c R∧R.length≤12:=by
 have hfl:=hf.len h
 have hc12:=h.c12
 obtain⟨hcl,hcr⟩:=li.1 hc
 obtain⟨m,m1,m2,m3⟩:=n2 h hf.2.2 hfl hc
 have hRl:∀R:List Int,R.Nodup→(∀id∈R,0≤jb l id)→R.length≤12:=fun R hn hm=>by
  have:=kP hn (l2:=l.fC.map (·.fID)) (fun x hx=>tN.1 (hm x hx))
  rw[List.length_map]at this
  omega
 unfold k7 bM
 rw[oB,m1,oB]
 have key:∃u,aH (gV l F c m) (to,[])=some u∧u.1∈F∧Ch l c u.1 u.2.reverse to∧u.2.Nodup∧∀id∈u.2,0≤jb l id:=by
  refine gT (body:=gV l F c m) (fun s=>Comes (EC l c) F s.1∧Ch l c s.1 s.2.reverse to∧s.2.Nodup∧∀id∈s.2,0≤jb l id∧lvI l s.1<lvI l (mn l c id).fTo) (fun s u=>u.1∈F∧Ch l c u.1 u.2.reverse to∧u.2.Nodup∧∀id∈u.2,0≤jb l id) (fun s=>(lvI l s.1).toNat) (fun s hs=>?_) _ ⟨hq,.nil _,by simp,fun id hi=>(by cases hi)⟩
  obtain⟨at',out⟩:=s
  obtain⟨i1,i2,i3,i4⟩:=hs
  dsimp only at i1 i2 i3 i4 ⊢
  unfold gV;dsimp only
  rw[mF (by omega),oB]
  by_cases hF:at'∈F
  ·rw[if_neg (by simp[hF])]
   exact .inr ⟨_,O,hF,i2,i3,fun id hi=>(i4 id hi).1⟩
  ·have hix:=og (l:=l.fC) (f:=fun x20=>gx x20 c l at' m) (q:=fun x=>((mn l c x.fID).fTo==at')&&aw false m (mn l c x.fID).fFrom) (by omega) (fun x hx=>by
    obtain⟨i,hi,rfl⟩:=List.mem_iff_getElem.1 hx
    obtain⟨i',hi',hlt,e,⟨r1,r2⟩,ho,ec,ep⟩:=qP hc (id:=l.fC[i].fID) (by rw[mw h.ok hi];omega)
    have:i'=i:=by rw[mw h.ok hi]at hi';omega
    subst this
    rw[aV hi]at ho
    unfold gx
    rw[qL (by omega),oB,mw h.ok hi,gPo (by omega),ec,ho,gPo ⟨r1,r2⟩,ep]
    have hfr:cX (mn l c l.fC[i'].fID).fFrom=true:=by
     refine nD h.ok ?_
     have:=hopT_EC hc (id:=l.fC[i'].fID) (by rw[mw h.ok hi];omega)
     exact(qt h.ok (s:=sC c) (Nat.le_refl _) this).1
    by_cases e1:(mn l c l.fC[i'].fID).fTo=at'
    ·rw[if_pos (by simp[e1]),gPo hfr,oB]
     simp[e1]
    ·rw[if_neg (by simp[e1]),oB]
     simp[e1])
   have hex:0≤ry l.fC (fun x=>((mn l c x.fID).fTo==at')&&aw false m (mn l c x.fID).fFrom):=by
    refine lE.2 ?_
    cases i1 with
    | base hx=>exact absurd hx hF
    | @step e hcm hh =>
     obtain⟨i,hi,rfl⟩:=(pB hc).1 hh
     refine⟨l.fC[i],List.getElem_mem hi,?_⟩
     have e:mn l c l.fC[i].fID=pick l c i:=by unfold mn;rw[mw h.ok hi];rfl
     rw[e,Bool.and_eq_true]
     exact⟨by simp,(m2.get _).2 hcm⟩
   have hget:=idxI_get hex
   have hlt:=gr l.fC (fun x=>((mn l c x.fID).fTo==at')&&aw false m (mn l c x.fID).fFrom)
   obtain⟨i,hi⟩:=Int.eq_ofNat_of_zero_le hex
   rw[hi]at hget hlt
   have hil:i<l.fC.length:=by omega
   rw[aV hil,Bool.and_eq_true,m2.get]at hget
   obtain⟨g1,g2⟩:=hget
   have g1':(mn l c l.fC[i].fID).fTo=at':=by simpa using g1
   have hl0:0≤jb l l.fC[i].fID:=by rw[mw h.ok hil];omega
   obtain⟨i',hi',_,e,⟨r1,r2⟩,ho,ec,ep⟩:=qP hc hl0
   have:i'=i:=by rw[mw h.ok hil]at hi';omega
   subst this
   have hE:=qt h.ok (s:=sC c) (Nat.le_refl _) (hopT_EC hc hl0)
   have hol:=hRl out i3 (fun id hid=>(i4 id hid).1)
   rw[if_pos (by simp[hF]),hix,oB,hi,gPo (by omega),gPo (by omega),gPo (by omega),gPo (by omega),ho,ec,gPo ⟨r1,r2⟩,ep,aV hil]
   have hlv:=lv_rg h.ok hE.1
   have hlt2:=hE.2.2
   rw[g1']at hlt2
   refine .inl ⟨_,O,⟨g2,?_,?_,fun id hid=>?_⟩,?_,fun u hu=>hu⟩
   ·dsimp only
    rw[List.reverse_append]
    exact .cons hl0 (by rw[g1'];exact i2)
   ·dsimp only
    rw[List.nodup_append]
    refine⟨i3,by simp,fun a ha b hb e=>?_⟩
    rw[List.mem_singleton.1 hb]at e
    subst e
    have:=(i4 _ ha).2
    rw[g1']at this
    omega
   ·dsimp only at hid ⊢
    rcases List.mem_append.1 hid with hid|hid
    ·have:=i4 id hid
     exact⟨this.1,by omega⟩
    ·rw[List.mem_singleton.1 hid]
     exact⟨hl0,by rw[g1'];exact hlt2⟩
   ·dsimp only
    omega
 obtain⟨u,u1,u2,u3,u4,u5⟩:=key
 have hul:=hRl u.2 u4 u5
 rw[u1,oB,Reverse_eq (by omega),oB]
 exact⟨_,O,u3.leads hc (List.pairwise_reverse.2 (u4.imp (fun h=>h.symm))) u2,by rw[List.length_reverse];exact hul⟩
theorem to_err {l:TL} {F:List Int} {to e:Int} (h:aZ l F to=some e) (he:e≠0):ik l F to=some (⟨[],[]⟩,e)∧pD l F to=some ([],e)∧(∀t,bu l F to t=some e)∧∀c,mo l F to c=some e:=by
 refine⟨?_,?_,fun t=>?_,fun c=>?_⟩
 ·unfold ik
  rw[h,oB,if_pos (by simp[he])]
 ·unfold pD
  rw[h,oB,if_pos (by simp[he])]
 ·unfold bu
  rw[h,oB,if_pos (by simp[he])]
 ·unfold mo
  rw[h,oB,if_pos (by simp[he])]
theorem Way_ok {l:TL} (h:Small l) {F:List Int} (hf:IsFrom l F) {to:Int} (ht:to∈IDs l):(ik l F to=some (⟨[],[]⟩,5)∧¬PossP l F to)∨∃t,ik l F to=some (t,0)∧LeadsP l F to t.fCase t.fC∧t.fC.length≤12:=by
 unfold ik
 rw[rX h hf ht,oB,if_neg (by simp)]
 rcases find_eq h hf ht true with⟨a,b⟩|⟨c,hc,b,a⟩
 ·rw[a,oB,if_pos (by rfl)]
  exact .inl ⟨O,fun⟨c,hc,hq⟩=>b c hc (cm_iff.2 hq)⟩
 ·obtain⟨R,r1,r2,r3⟩:=walk_eq h hf hc (cm_iff.1 b)
  rw[a,oB,if_neg (by simp),r1,oB]
  exact .inr ⟨⟨c,R⟩,O,r2,r3⟩
theorem Possible_eq {l:TL} (h:Small l) {F:List Int} (hf:IsFrom l F) {to:Int} (ht:to∈IDs l):∃b,gW l F to=some b∧(b=true↔PossP l F to):=by
 have hfl:=hf.len h
 have h12:=h.n12
 obtain⟨A,B,e,hA,hB⟩:=both_eq h hf.2.2 (by omega)
 have hBl:=hB.len
 have hi:0≤co l to:=cQ.2 ht
 have hi2:co l to<(l.fNo.length:Int):=gr _ _
 unfold gW
 rw[e,oB,lT (by omega),oB,gPo (by dsimp only;omega)]
 exact⟨_,O,hB.at ht⟩
theorem rdup {t:TTrace} (ht:t.fC.length≤1000) {k:Nat} (hk:k<t.fC.length) {a b:Int}:∃out,aH (fv t (a,b,(k:Int))) (0,0)=some out∧(match out with
  | .inl u=>u.1=8∧t.fC[k]∈t.fC.take k
  | .inr u=>u.1=0∧t.fC[k]∉t.fC.take k) :=
 gT (body:=fv t (a,b,(k:Int)))
  (fun s=>∃j:Nat,s=(0,(j:Int))∧j≤k∧∀i,(hi:i<t.fC.length)→i<j→t.fC[i]≠t.fC[k])
  (fun _ out=>match out with
   | .inl u=>u.1=8∧t.fC[k]∈t.fC.take k
   | .inr u=>u.1=0∧t.fC[k]∉t.fC.take k)
  (fun s=>k-s.2.toNat) (by
   rintro _ ⟨j,rfl,hj,hall⟩
   unfold fv;dsimp only
   rcases Nat.lt_or_ge j k with hlt|hge
   ·rw[dY (by omega),gPo (by omega),gPo (by omega),aV (show j<t.fC.length by omega),aV hk,a7 (by omega)]
    by_cases e:t.fC[j]=t.fC[k]
    ·rw[if_pos (by simpa using e)]
     refine .inr ⟨_,O,O,List.mem_take_iff_getElem.2 ⟨j,by omega,e⟩⟩
    ·rw[if_neg (by simpa using e)]
     refine .inl ⟨_,O,⟨j+1,O,hlt,fun i hi h=>?_⟩,by dsimp only;omega,fun t h=>h⟩
     by_cases e2:i=j
     ·subst e2;exact e
     ·exact hall i hi (by omega)
   ·rw[da (by omega)]
    refine .inr ⟨_,O,O,fun hm=>?_⟩
    obtain⟨i,hi,e⟩:=List.mem_take_iff_getElem.1 hm
    exact hall i (by omega) (by omega) e) (0,0) ⟨0,O,Nat.zero_le _,fun i hi h=>by omega⟩
theorem sG {l:TL} (h:Small l) {F:List Int} (hf:IsFrom l F) {to:Int} (hto:to∈IDs l) {t:TTrace} (ht:t.fC.length≤1000):∃b:Bool,bK l F to t=some (if b=true then 0 else 8)∧(b=true↔LeadsP l F to t.fCase t.fC):=by
 have hc12:=h.c12
 have hFl:=hf.len h
 obtain⟨e0,_,eT,hT⟩:=To_both (l:=l) (F:=F) (by omega) to
 have:e0=0:=hT.2 ⟨h.ok,hf,hto⟩
 subst this
 unfold bK LeadsP
 rw[eT,oB,if_neg (by simp),right_eq h.ok,oB]
 by_cases hc:t.fCase∈sCs l
 ·obtain⟨hcl,hcr⟩:=li.1 hc
  rw[decide_eq_true hc,if_neg (by simp)]
  by_cases h0:t.fC.length=0
  ·have h00:aH (cq l F t) (0,0,0)=some (.inr (0,0,0)):=bV (by
    unfold cq;dsimp only
    rw[da (by omega)])
   rw[h00,oB]
   dsimp only
   rw[if_pos (by simp[h0]),has_eq (by omega),oB,oB,if_pos h0]
   have e:decide ((0:Int)<((t.fC.length:Nat):Int))=false:=decide_eq_false (by omega)
   rw[e]
   by_cases hm:to∈F
   ·exact⟨true,by simp[hm],fun _=>⟨hc,hm⟩,fun _=>O⟩
   ·exact⟨false,by simp[hm],fun h=>(by cases h),fun h=>absurd h.2 hm⟩
  ·rw[if_neg h0]
   have hrun:=bk (body:=cq l F t) (fun k=>(0,atT l t.fCase t.fC k,(k:Int))) t.fC.length (fun k=>if m9 l F t.fCase t.fC k then none else some (.inl (8,atT l t.fCase t.fC k,(k:Int)))) (t0:=.inr (0,atT l t.fCase t.fC t.fC.length,(t.fC.length:Int))) (fun k hk=>by
    unfold cq;dsimp only
    have eg:t.fC.getD k 0=t.fC[k]:=getD0 hk
    rw[dY (by omega),gPo (by omega),aV hk,tJ (by omega),oB]
    by_cases hneg:jb l t.fC[k]<0
    ·rw[dY hneg,if_neg (fun h=>by have:=h.1.1;rw[eg]at this;omega)]
    ·obtain⟨i,hi,hlt,e1,⟨r1,r2⟩,ho,ec,ep⟩:=qP hc (id:=t.fC[k]) (by omega)
     rw[da hneg,hi,gPo (by omega),gPo (by omega),ho,ec,gPo ⟨r1,r2⟩,ep,a7 (by omega)]
     obtain⟨out,hout,hdup⟩:=rdup ht hk (a:=0) (b:=atT l t.fCase t.fC k)
     have base:0≤jb l (t.fC.getD k 0):=by rw[eg];omega
     have ea2:atT l t.fCase t.fC (k+1)=(mn l t.fCase t.fC[k]).fTo:=by unfold atT;rw[if_neg (by omega),Nat.add_sub_cancel,eg]
     by_cases hk0:k=0
     ·subst hk0
      rw[if_pos (by rfl),has_eq (by omega),oB,oB]
      have e2:((!decide ((mn l t.fCase t.fC[0]).fFrom∈F))||(decide ((0:Int)<((0:Nat):Int))&&((mn l t.fCase t.fC[0]).fFrom !=atT l t.fCase t.fC 0))) = !decide ((mn l t.fCase t.fC[0]).fFrom∈F):=by
       have:decide ((0:Int)<((0:Nat):Int))=false:=rfl
       rw[this,Bool.false_and,Bool.or_false]
      rw[e2]
      by_cases hq:(mn l t.fCase t.fC[0]).fFrom∈F
      ·rw[if_neg (by simp[hq]),hout,oB]
       rcases out with u|u
       ·dsimp only at hdup ⊢
        rw[hdup.1,if_neg (fun h=>h.1.2 (by rw[eg];exact hdup.2))]
       ·dsimp only at hdup ⊢
        rw[hdup.1,if_pos ⟨⟨base,by rw[eg];exact hdup.2⟩,by rw[if_pos O,eg];exact hq⟩,ea2]
      ·rw[if_pos (by simp[hq]),if_neg (fun h=>hq (by have:=h.2;rw[if_pos O,eg]at this;exact this))]
     ·rw[if_neg (by simp;omega),oB]
      have ea:atT l t.fCase t.fC k=(mn l t.fCase (t.fC.getD (k-1) 0)).fTo:=by unfold atT;rw[if_neg hk0]
      have e2:(false||(decide ((0:Int)<(k:Int))&&((mn l t.fCase t.fC[k]).fFrom !=atT l t.fCase t.fC k))) = !((mn l t.fCase t.fC[k]).fFrom==atT l t.fCase t.fC k):=by
       have:decide ((0:Int)<(k:Int))=true:=decide_eq_true (by omega)
       rw[this,Bool.false_or,Bool.true_and]
       rfl
      rw[e2]
      by_cases hq:(mn l t.fCase t.fC[k]).fFrom=atT l t.fCase t.fC k
      ·rw[if_neg (by simp[hq]),hout,oB]
       rcases out with u|u
       ·dsimp only at hdup ⊢
        rw[hdup.1,if_neg (fun h=>h.1.2 (by rw[eg];exact hdup.2))]
       ·dsimp only at hdup ⊢
        rw[hdup.1,if_pos ⟨⟨base,by rw[eg];exact hdup.2⟩,by rw[if_neg hk0,eg,←ea];exact hq⟩,ea2]
      ·rw[if_pos (by simp[hq]),if_neg (fun h=>hq (by have:=h.2;rw[if_neg hk0,eg,←ea]at this;exact this))]) (by
    unfold cq;dsimp only
    rw[da (by omega)])
   have h00:aH (cq l F t) (0,0,0)=_:=hrun
   rw[h00,oB]
   rcases bA (R:=fun k=>if m9 l F t.fCase t.fC k then none else some (Sum.inl (8,atT l t.fCase t.fC k,(k:Int)):(Int × Int × Int) ⊕ (Int × Int × Int))) (n:=t.fC.length) (.inr (0,atT l t.fCase t.fC t.fC.length,(t.fC.length:Int)))with⟨hn,h2⟩|⟨k,u,hk,hR,hj,h2⟩
   ·rw[h2]
    have hall:=(tn (to:=to) h0 _ _ O).1 hn
    dsimp only
    rw[if_neg (by simp;intro e;exact h0 (by rw[e];rfl)),oB]
    have e:decide ((0:Int)<((t.fC.length:Nat):Int))=true:=decide_eq_true (by omega)
    rw[e]
    by_cases he:atT l t.fCase t.fC t.fC.length=to
    ·exact⟨true,by simp[he],fun _=>⟨hc,hall,he⟩,fun _=>O⟩
    ·exact⟨false,by simp[he],fun h=>(by cases h),fun h=>absurd h.2.2 he⟩
   ·rw[h2]
    have hno:¬m9 l F t.fCase t.fC k:=fun h=>by rw[if_pos h]at hR;cases hR
    rw[if_neg hno]at hR
    cases hR
    exact⟨false,O,fun h=>(by cases h),fun h=>absurd (h.2.1 k hk) hno⟩
 ·rw[decide_eq_false hc,if_pos (by rfl)]
  exact⟨false,O,fun h=>(by cases h),fun h=>absurd h.1 hc⟩
theorem te {l:TL} (h:Small l) {F:List Int} (hf:IsFrom l F) {to:Int} (ht:to∈IDs l) {t:TTrace} (htl:t.fC.length≤1000):∃b:Bool,bu l F to t=some (if b=true then 0 else 8)∧(b=true↔LeadsP l F to t.fCase t.fC):=by
 have hfl:=hf.len h
 obtain⟨b,b1,b2⟩:=leads_iff h (F:=F) (by omega) to htl
 unfold bu
 rw[rX h hf ht,oB,if_neg (by simp),b1,oB]
 cases b with
 | true=>exact⟨true,O,b2⟩
 | false=>exact⟨false,O,b2⟩
theorem mH {l:TL} (hfew:OkL l→Small l) {F:List Int} (hl:F.length≤30) (to:Int) {t:TTrace} (ht:t.fC.length≤1000):∃v,bu l F to t=some v∧bK l F to t=some v∧(OkL l→IsFrom l F→to∈IDs l→LeadsP l F to t.fCase t.fC→v=0):=by
 obtain⟨e,e1,e2,e3⟩:=To_both (l:=l) (F:=F) (by omega) to
 by_cases he:e=0
 ·obtain⟨hok,hf,hto⟩:=e3.1 he
  have hs:=hfew hok
  obtain⟨b,b1,b2⟩:=te hs hf hto ht
  obtain⟨c,c1,c2⟩:=sG hs hf hto ht
  have:b=c:=by rw[Bool.eq_iff_iff,b2,c2]
  subst this
  exact⟨_,b1,c1,fun _ _ _ hL=>if_pos (b2.2 hL)⟩
 ·refine⟨e,?_,?_,fun a b c _=>e3.2 ⟨a,b,c⟩⟩
  ·unfold bu
   rw[e1,oB,if_pos (by simp[he])]
  ·unfold bK
   rw[e2,oB,if_pos (by simp[he])]
theorem bent_ok {t:TTrace} (h1:t.fCase.length≤900) (h2:t.fC.length≤900) {a w n:Int} (ha:Rg_u8 a):∃y,eP t a w n=some y∧y.fC.length≤1000:=by
 unfold eP
 rw[gPo (by omega),gPo (by omega)]
 have ha1:0≤a:=ha.1
 have ha2:w64 a=a:=gK (by have:=ha.1;omega) (by have:=ha.2;omega)
 rw[ha2]
 split
 ·rename_i hc
  rw[Bool.and_eq_true,decide_eq_true_eq]at hc
  have hp:=hc.2
  have q1:=Int.tmod_nonneg (a:=a) (((0+t.fCase.length):Nat):Int) ha1
  have q2:=Int.tmod_lt_of_pos a hp
  rw[gPo (by omega),gPo ⟨q1,q2⟩,gPo ⟨q1,q2⟩]
  exact⟨_,O,by simp;omega⟩
 ·split
  ·rename_i hc
   rw[Bool.and_eq_true,decide_eq_true_eq]at hc
   rw[gPo (by omega)]
   exact⟨_,O,by simp;omega⟩
  ·split
   ·rw[gPo (by omega)]
    exact⟨_,O,by simp;omega⟩
   ·exact⟨_,O,by simp;omega⟩
theorem RecallWays_true (p0:TL) (p1:List Int) (p2:Int) (p3:TTrace) (p4 p5 p6:Int) (h0:TLineage_rg p0) (h1:kg Rg_i64 p1) (h2:Rg_i64 p2) (h3:TTrace_rg p3) (h4:Rg_u8 p4) (h5:Rg_u8 p5) (h6:Rg_i64 p6):fe p0 p1 p2 p3 p4 p5 p6=some true:=by
 unfold fe
 obtain⟨b,hb,hfew⟩:=few_eq h0.2.1
 rw[head_true,oB,hb,oB]
 by_cases hg:b=true∧p1.length≤30∧p3.fCase.length≤100∧p3.fC.length≤100
 ·obtain⟨rfl,hl,hl3,hl4⟩:=hg
  rw[if_neg (by simp;omega)]
  have hfew':=hfew O
  obtain⟨v,v1,v2,_⟩:=mH hfew' hl p2 (t:=p3) (by omega)
  have hw0:w64 0=0:=rfl
  have tail:∀(X:TTrace),X.fCase.length≤900→X.fC.length≤900→∃y w,eP X p4 p5 p6=some y∧bu p0 p1 p2 y=some w∧bK p0 p1 p2 y=some w:=fun X hX1 hX2=>by
   obtain⟨y,y1,y2⟩:=bent_ok (t:=X) hX1 hX2 (a:=p4) (w:=p5) (n:=p6) h4
   obtain⟨w,w1,w2,_⟩:=mH hfew' hl p2 (t:=y) y2
   exact⟨y,w,y1,w1,w2⟩
  obtain⟨e,e1,e2,e3⟩:=To_both (l:=p0) (F:=p1) (by omega) p2
  by_cases he:e=0
  ·subst he
   obtain⟨hok,hf,hto⟩:=e3.1 O
   have hs:=hfew' hok
   obtain⟨m,m1,m2⟩:=Possible_eq hs hf hto
   rw[e2]
   rcases Way_ok hs hf hto with⟨a,c⟩|⟨X,a,c,d⟩
   ·have hm:m=false:=by cases m;rfl;exact absurd (m2.1 O) c
    obtain⟨y,z,y1,z1,z2⟩:=tail ⟨[],[]⟩ (by simp) (by simp)
    rw[a,m1,hm]
    simp[y1,z1,z2,v1,v2,hw0]
   ·have hm:m=true:=m2.2 ⟨_,c.1,c.reached⟩
    obtain⟨w,w1,w2,w3⟩:=mH hfew' hl p2 (t:=X) (by omega)
    have hw:w=0:=w3 hok hf hto c
    obtain⟨k1,k2⟩:=li.1 c.1
    have:=hs.c12
    obtain⟨y,z,y1,z1,z2⟩:=tail X (by omega) (by omega)
    rw[a,m1,hm]
    simp[y1,z1,z2,v1,v2,w2,hw]
  ·obtain⟨r1,r2,r3,r4⟩:=to_err e1 he
   obtain⟨y,z,y1,z1,z2⟩:=tail ⟨[],[]⟩ (by simp) (by simp)
   rw[e2,r1]
   simp[y1,z1,z2,v1,v2,hw0,he]
 ·rw[if_pos]
  cases b
  ·rfl
  ·rcases Nat.lt_or_ge 30 p1.length with h|h
   ·simp;omega
   ·rcases Nat.lt_or_ge 100 p3.fCase.length with k1|k1
    ·simp;omega
    ·rcases Nat.lt_or_ge 100 p3.fC.length with k2|k2
     ·simp;omega
     ·exact absurd ⟨O,h,k1,k2⟩ hg
end Go.Proofs.YtbblpokfbmekfaaGreat
