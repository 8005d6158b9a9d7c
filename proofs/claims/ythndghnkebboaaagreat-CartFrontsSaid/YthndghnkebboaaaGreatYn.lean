import Derived.Test.YthndghnkebboaaaGreatP
import Derived.Test.YthndghnkebboaaaGreatGz
import Derived.Test.YthndghnkebboaaaGreatGy
set_option linter.unusedSimpArgs false
set_option linter.unusedVariables false
namespace Go.Proofs.YthndghnkebboaaaGreat
theorem sX {S T:Type} {body:S→Option (S ⊕ T)} (st:Nat→S):∀(n:Nat),(∀k,k<n→body (st k)=some (.inl (st (k+1))))→aJ body (st 0)=aJ body (st n)
 | 0,_=>rfl
 | n+1,h=>by rw[sX st n (fun k hk=>h k (by omega)),je (h n (by omega))]
theorem kD {S T:Type} {body:S→Option (S ⊕ T)} (st:Nat→S) (n:Nat) {t:T} (h:∀k,k<n→body (st k)=some (.inl (st (k+1)))) (hs:body (st n)=some (.inr t)):aJ body (st 0)=some t:=by
 rw[sX st n h,eC hs]
theorem hU {S T:Type} {body:S→Option (S ⊕ T)} (st:Nat→S) (n:Nat) (R:Nat→Option T) {t0:T} (h:∀k,k<n→body (st k)=some (match R k with|none=>.inl (st (k+1))|some t=>.inr t)) (hs:body (st n)=some (.inr t0)) :
  aJ body (st 0)=some (((List.range n).findSome? R).getD t0):=by
 have key:∀c k,k+c=n→aJ body (st k)=some (((List.range' k c).findSome? R).getD t0):=by
  intro c
  induction c with
  | zero =>
   intro k hk
   have:k=n:=by omega
   subst this
   rw[eC hs]
   rfl
  | succ c ih =>
   intro k hk
   have hb:=h k (by omega)
   rw[List.range'_succ]
   cases hR:R k with
   | none =>
    rw[hR]at hb
    rw[je hb,ih (k+1) (by omega)]
    simp[hR]
   | some t =>
    rw[hR]at hb
    rw[eC hb]
    simp[hR]
 have:=key n 0 (by omega)
 rw[this,List.range_eq_range']
theorem dl {α:Type} {p:Prop} [Decidable p] {x y:α} (h:p):(if decide p=true then x else y)=x:=by rw[if_pos (decide_eq_true h)]
theorem cN {α:Type} {p:Prop} [Decidable p] {x y:α} (h:¬p):(if decide p=true then x else y)=y:=by rw[if_neg (by rw[decide_eq_false h];exact Bool.false_ne_true)]
theorem aU {α:Type} [Inhabited α] {xs:List α} {k:Nat} (h:k<xs.length):rdL xs (k:Int)=xs[k]:=by
 unfold rdL
 rw[Int.toNat_natCast,List.getD_eq_getElem?_getD,List.getElem?_eq_getElem h]
 rfl
theorem aZ {k:Nat} (h:k<9223372036854775807):w64 ((k:Int)+1)=((k+1:Nat):Int):=by
 rw[bV (by omega) (by omega)];rfl
theorem jU {T:Type} {R:Nat→Option T} {n:Nat} (t0:T):((∀k,k<n→R k=none)∧((List.range n).findSome? R).getD t0=t0)∨∃k t,k<n∧R k=some t∧(∀j,j<k→R j=none)∧((List.range n).findSome? R).getD t0=t:=by
 induction n with
 | zero=>exact .inl ⟨fun k hk=>by omega,E⟩
 | succ n ih =>
  rw[List.range_succ,List.findSome?_append]
  rcases ih with⟨h1,h2⟩|⟨k,t,hk,hR,hj,h2⟩
  ·have h3:(List.range n).findSome? R=none:=List.findSome?_eq_none_iff.2 (fun x hx=>h1 x (List.mem_range.1 hx))
   rw[h3]
   cases hR:R n with
   | none=>exact .inl ⟨fun k hk=>by
    rcases Nat.lt_or_ge k n with h|h
    ·exact h1 k h
    ·rw[show k=n by omega];exact hR,by simp[hR]⟩
   | some t=>exact .inr ⟨n,t,by omega,hR,h1,by simp[hR]⟩
  ·refine .inr ⟨k,t,by omega,hR,hj,?_⟩
   have h3:((List.range n).findSome? R)=some t:=by
    cases hf:(List.range n).findSome? R with
    | none=>have:=List.findSome?_eq_none_iff.1 hf k (List.mem_range.2 hk);rw[hR]at this;cases this
    | some u=>rw[hf]at h2;exact congrArg some h2
   rw[h3]
   rfl
theorem sA {T:Type} {R:Nat→Option T} {n:Nat} {t0:T} (h:∀k,k<n→R k=none):((List.range n).findSome? R).getD t0=t0:=by
 rw[List.findSome?_eq_none_iff.2 (fun x hx=>h x (List.mem_range.1 hx))];rfl
theorem sM {T:Type} {R:Nat→Option T} {n:Nat} {t0 t:T} (k:Nat) (hk:k<n) (hR:R k=some t) (hj:∀j,j<k→R j=none):((List.range n).findSome? R).getD t0=t:=by
 rcases jU (R:=R) (n:=n) t0 with⟨h,_⟩|⟨k',t',hk',hR',hj',h⟩
 ·rw[h k hk]at hR;cases hR
 ·rcases Nat.lt_trichotomy k k' with h' | h' | h'
  ·rw[hj' k h']at hR;cases hR
  ·subst h';rw[hR]at hR';cases hR';exact h
  ·rw[hj k' h']at hR';cases hR'
def ng {α:Type} [Inhabited α] (l:List α) (q:α→Bool):Int:=((List.range l.length).findSome? fun k=>if q (l.getD k default)=true then some (k:Int)else none).getD (-1)
theorem eP {α:Type} [Inhabited α] {l:List α} {k:Nat} (h:k<l.length):l.getD k default=l[k]:=by
 rw[List.getD_eq_getElem?_getD,List.getElem?_eq_getElem h];rfl
theorem j4 {α:Type} [Inhabited α] (l:List α) (q:α→Bool):((∀x∈l,q x=false)∧ng l q = -1)∨∃k,∃h:k<l.length,q l[k]=true∧(∀j,(hj:j<k)→q (l[j]'(by omega))=false)∧ng l q=(k:Int):=by
 unfold ng
 rcases jU (R:=fun k=>if q (l.getD k default)=true then some (k:Int)else none) (n:=l.length) (-1)with⟨h,h2⟩|⟨k,t,hk,hR,hj,h2⟩
 ·refine .inl ⟨fun x hx=>?_,h2⟩
  obtain⟨k,hk,rfl⟩:=List.mem_iff_getElem.1 hx
  have:=h k hk
  rw[eP hk]at this
  cases hq:q l[k]
  ·rfl
  ·rw[hq]at this;simp at this
 ·rw[eP hk]at hR
  cases hq:q l[k]with
  | false=>rw[hq]at hR;simp at hR
  | true =>
   rw[hq]at hR
   simp only[if_true]at hR
   refine .inr ⟨k,hk,hq,fun j hj'=>?_,h2.trans (Option.some.inj hR).symm⟩
   have:=hj j hj'
   rw[eP (by omega)]at this
   cases hq':q (l[j]'(by omega))
   ·rfl
   ·rw[hq']at this;simp at this
theorem m7 {α:Type} [Inhabited α] (l:List α) (q:α→Bool):(match ((List.range l.length).findSome? (fun k=>if q (l.getD k default)=true then some (Sum.inl ((k:Int),(k:Int)):(Int × Int) ⊕ (Int × Int))else none)).getD (.inr (0,(l.length:Int)))with|.inl u=>some u.1|.inr _=>some (-1))=some (ng l q):=by
 unfold ng
 rcases jU (R:=fun k=>if q (l.getD k default)=true then some (Sum.inl ((k:Int),(k:Int)):(Int × Int) ⊕ (Int × Int))else none) (n:=l.length) (.inr (0,(l.length:Int)))with⟨hn,h2⟩|⟨k,t,hk,hR,hj,h2⟩
 ·rw[h2,sA (fun k hk=>by have:=hn k hk;split at this <;> simp_all)]
 ·rw[h2]
  have hq:q (l.getD k default)=true:=by
   by_cases hq:q (l.getD k default)=true
   ·exact hq
   ·rw[if_neg hq]at hR;cases hR
  rw[if_pos hq]at hR
  cases hR
  rw[sM k hk (by rw[if_pos hq]) (fun j hj'=>by have:=hj j hj';split at this <;> simp_all)]
theorem hZ {α:Type} [Inhabited α] {l:List α} {q:α→Bool}:0≤ng l q↔∃x∈l,q x=true:=by
 rcases j4 l q with⟨h,h2⟩|⟨k,hk,hq,_,h2⟩
 ·rw[h2]
  exact⟨fun h=>by omega,fun⟨x,hx,hq⟩=>by rw[h x hx]at hq;cases hq⟩
 ·rw[h2]
  exact⟨fun _=>⟨l[k],List.getElem_mem hk,hq⟩,fun _=>by omega⟩
theorem sE {α:Type} [Inhabited α] (l:List α) (q:α→Bool):ng l q<(l.length:Int):=by
 rcases j4 l q with⟨h,h2⟩|⟨k,hk,hq,_,h2⟩ <;> omega
theorem qQ {α:Type} [Inhabited α] {l:List α} {q:α→Bool} (h:0≤ng l q):rdL l (ng l q)∈l:=by
 rcases j4 l q with⟨_,h2⟩|⟨k,hk,hq,_,h2⟩
 ·omega
 ·rw[h2,aU hk];exact List.getElem_mem hk
theorem sB {α:Type} [Inhabited α] {l:List α} {f:α→Int} (hd:(l.map f).Nodup) {k:Nat} (hk:k<l.length):ng l (fun x=>f x==f l[k])=(k:Int):=by
 rcases j4 l (fun x=>f x==f l[k])with⟨h,_⟩|⟨j,hj,hq,_,h2⟩
 ·have:=h l[k] (List.getElem_mem hk);simp at this
 ·rw[h2]
  have he:f l[j]=f l[k]:=by simpa using hq
  have hpw:=List.pairwise_iff_getElem.1 hd
  rcases Nat.lt_trichotomy j k with h3|h3|h3
  ·have:=hpw j k (by simpa using hj) (by simpa using hk) h3
   simp only[List.getElem_map]at this
   exact absurd he this
  ·rw[h3]
  ·have:=hpw k j (by simpa using hk) (by simpa using hj) h3
   simp only[List.getElem_map]at this
   exact absurd he.symm this
theorem idxI_lt {α:Type} [Inhabited α] {l:List α} {f:α→Int} {k:Nat} (hk:k<l.length):ng l (fun x=>f x==f l[k])<(k:Int)↔∃j,∃h:j<k,f (l[j]'(by omega))=f l[k]:=by
 rcases j4 l (fun x=>f x==f l[k])with⟨h,_⟩|⟨j,hj,hq,hm,h2⟩
 ·have:=h l[k] (List.getElem_mem hk);simp at this
 ·rw[h2]
  have he:f l[j]=f l[k]:=by simpa using hq
  refine⟨fun h=>⟨j,by omega,he⟩,fun⟨i,hi,hie⟩=>?_⟩
  rcases Nat.lt_or_ge j k with h3|h3
  ·omega
  ·exfalso
   have:=hm i (by omega)
   rw[hie]at this
   simp at this
theorem lE {α:Type} [Inhabited α] {l:List α} {f:α→Int}:(∀k,(hk:k<l.length)→¬ng l (fun x=>f x==f l[k])<(k:Int))↔(l.map f).Nodup:=by
 refine⟨fun h=>?_,fun h k hk=>by rw[sB h hk];omega⟩
 rw[List.Nodup,List.pairwise_iff_getElem]
 intro i j hi hj hij
 simp only[List.length_map]at hi hj
 simp only[List.getElem_map]
 intro e
 exact h j hj ((idxI_lt hj).2 ⟨i,hij,e⟩)
theorem TSpan_eta (x:TSpan):TSpan.mk x.fLo x.fHi=x:=rfl
theorem TOrder_eta (x:TO):TO.mk x.fID x.fH x.fD x.fW=x:=rfl
theorem TBay_eta (x:TBay):TBay.mk x.fID x.fHour x.fD=x:=rfl
theorem g0 (x:TT):TT.mk x.fID x.fFrom x.fTo x.fLong x.fToll x.fK=x:=rfl
theorem rp {l:List TT} {f:TT→Option Bool} {q:TT→Bool} (hl:l.length<1000000000) (h:∀x∈l,f x=some (q x)):bE l f=some (ng l q):=by
 unfold bE
 have:=hU (body:=bl l f) (fun k=>((0:Int),(k:Int))) l.length (fun k=>if q (l.getD k default)=true then some (Sum.inl ((k:Int),(k:Int)))else none) (t0:=.inr (0,(l.length:Int))) (fun k hk=>by
  have c1:decide ((k:Int)<((l.length:Nat):Int))=true:=decide_eq_true (by omega)
  have c2:(0:Int)≤(k:Int)∧(k:Int)<((l.length:Nat):Int):=by omega
  unfold bl;dsimp only
  simp only[c1,if_true,gPo c2,aU hk,g0,h _ (List.getElem_mem hk),oB,eP hk,aZ (show k<9223372036854775807 by omega)]
  cases q l[k] <;> rfl) (by
  unfold bl;dsimp only
  rw[cN (by omega)])
 have h0:aJ (bl l f) (0,0)=_:=this
 rw[h0,oB]
 exact m7 l q
theorem sh {l:List Int} {f:Int→Option Bool} {q:Int→Bool} (hl:l.length<1000000000) (h:∀x∈l,f x=some (q x)):bG l f=some (ng l q):=by
 unfold bG
 have:=hU (body:=bw l f) (fun k=>((0:Int),(k:Int))) l.length (fun k=>if q (l.getD k default)=true then some (Sum.inl ((k:Int),(k:Int)))else none) (t0:=.inr (0,(l.length:Int))) (fun k hk=>by
  have c1:decide ((k:Int)<((l.length:Nat):Int))=true:=decide_eq_true (by omega)
  have c2:(0:Int)≤(k:Int)∧(k:Int)<((l.length:Nat):Int):=by omega
  unfold bw;dsimp only
  simp only[c1,if_true,gPo c2,aU hk,h _ (List.getElem_mem hk),oB,eP hk,aZ (show k<9223372036854775807 by omega)]
  cases q l[k] <;> rfl) (by
  unfold bw;dsimp only
  rw[cN (by omega)])
 have h0:aJ (bw l f) (0,0)=_:=this
 rw[h0,oB]
 exact m7 l q
theorem jl (n lo hi:Int):bq n lo hi=some (decide (lo≤n∧n≤hi)):=by unfold bq;rw[Bool.decide_and]
theorem nm (n:Int):dq n=some (decide (0≤n∧n≤16384)):=by unfold dq;rw[jl];rfl
theorem g5 (n lo hi:Int):bb n lo hi=some (decide (lo≤n∧n≤hi)):=by unfold bb;rw[Bool.decide_and]
theorem m3 (n:Int):dk n=some (decide (0≤n∧n≤16384)):=by unfold dk;rw[g5];rfl
def bayI (y:TY) (id:Int):Int:=ng y.fB fun n=>n.fID==id
set_option linter.unusedSimpArgs false
open Classical
def sm:Nat→(Nat→Int)→Int
 | 0,_=>0
 | n+1,f=>sm n f+f n
theorem f7 {f g:Nat→Int}:∀{n:Nat},(∀i,i<n→f i=g i)→sm n f=sm n g
 | 0,_=>rfl
 | n+1,h=>by unfold sm;rw[f7 fun i hi=>h i (by omega),h n (by omega)]
theorem pV {f g:Nat→Int}:∀{n:Nat},(∀i,i<n→f i≤g i)→sm n f≤sm n g
 | 0,_=>Int.le_refl _
 | n+1,h=>by
  have h1:=pV (f:=f) (g:=g) (n:=n) fun i hi=>h i (by omega)
  have h2:=h n (by omega)
  unfold sm;omega
theorem sm_add (f g:Nat→Int):∀n,sm n (fun i=>f i+g i)=sm n f+sm n g
 | 0=>rfl
 | n+1=>by have:=sm_add f g n;unfold sm;dsimp only;omega
theorem sm_sub (f g:Nat→Int):∀n,sm n (fun i=>f i-g i)=sm n f-sm n g
 | 0=>rfl
 | n+1=>by have:=sm_sub f g n;unfold sm;dsimp only;omega
theorem qw:∀{n:Nat} {f:Nat→Int},(∀i,i<n→f i=0)→sm n f=0
 | 0,_,_=>rfl
 | n+1,f,h=>by have h1:=qw (n:=n) (f:=f) fun i hi=>h i (by omega);have h2:=h n (by omega);unfold sm;omega
theorem mF {n:Nat} {f:Nat→Int} (h:∀i,i<n→0≤f i):0≤sm n f:=by
 have:=pV (f:=fun _=>0) h
 rwa [qw (f:=fun _=>0) fun _ _=>E]at this
theorem oT {f g:Nat→Int} {k:Nat}:∀{n:Nat},k<n→(∀i,i<n→i≠k→g i=f i)→sm n g=sm n f-f k+g k
 | 0,h,_=>by omega
 | n+1,h,he=>by
  unfold sm
  rcases Nat.lt_or_ge k n with hk|hk
  ·have:=oT hk (fun i hi=>he i (by omega))
   have h2:=he n (by omega) (by omega)
   omega
  ·have hkn:k=n:=by omega
   subst hkn
   rw[f7 (f:=g) (g:=f) fun i hi=>he i (by omega) (by omega)]
   omega
theorem sm_lt {f g:Nat→Int} {n k:Nat} (hk:k<n) (h:∀i,i<n→f i≤g i) (hlt:f k<g k):sm n f<sm n g:=by
 have h1:sm n (fun i=>if i=k then f k else g i)≤sm n g:=pV fun i hi=>by
  split
  ·rename_i e;subst e;omega
  ·exact Int.le_refl _
 have h2:sm n f≤sm n (fun i=>if i=k then f k else g i):=pV fun i hi=>by
  split
  ·rename_i e;subst e;exact Int.le_refl _
  ·exact h i hi
 have h3:=oT (f:=g) (g:=fun i=>if i=k then f k else g i) hk (fun i _ hi=>by simp only[if_neg hi])
 simp only[if_pos]at h3
 omega
theorem min_ex {P:Nat→Prop} {f:Nat→Int} (hf:∀k,0≤f k):∀(m k:Nat),P k→f k≤(m:Int)→∃k,P k∧∀k',P k'→f k≤f k'
 | 0,k,hk,hm=>⟨k,hk,fun k' _=>by have:=hf k';omega⟩
 | m+1,k,hk,hm=>by
  by_cases h:∃k',P k'∧f k'≤(m:Int)
  ·obtain⟨k',h1,h2⟩:=h
   exact min_ex hf m k' h1 h2
  ·refine⟨k,hk,fun k' hk'=>?_⟩
   have:¬f k'≤(m:Int):=fun hc=>h ⟨k',hk',hc⟩
   omega
structure Mat (S:Nat→Nat→Prop) (h:Nat→Option Nat):Prop where
 suit:∀k o,h k=some o→S o k
 inj:∀k k' o,h k=some o→h k'=some o→k=k'
def Dom (h:Nat→Option Nat) (o:Nat):Prop:=∃k,h k=some o
def ov (g:Nat→Int):Option Nat→Int
 | none=>0
 | some o=>g o
structure Fit (S:Nat→Nat→Prop) (nB nO:Nat):Prop where
 bay:∀o k,S o k→k<nB
 ord:∀o k,S o k→o<nO
theorem bij_aux {nO:Nat} {h:Nat→Option Nat} {g:Nat→Int} (hi:∀k k' o,h k=some o→h k'=some o→k=k') (ho:∀k o,h k=some o→o<nO):∀n,sm n (fun k=>ov g (h k))=sm nO (fun o=>if ∃k,k<n∧h k=some o then g o else 0)
 | 0=>by
  rw[qw (n:=nO) fun o _=>if_neg (fun⟨k,hk,_⟩=>by omega)]
  rfl
 | n+1=>by
  have ih:=bij_aux (nO:=nO) (g:=g) hi ho n
  show sm n (fun k=>ov g (h k))+ov g (h n)=_
  rw[ih]
  cases hn:h n with
  | none =>
   show _+(0:Int)=_
   rw[Int.add_zero]
   refine f7 fun o _=>?_
   have:(∃k,k<n∧h k=some o)↔(∃k,k<n+1∧h k=some o):=⟨fun⟨k,hk,e⟩=>⟨k,by omega,e⟩,fun⟨k,hk,e⟩=>⟨k,by
    rcases Nat.lt_or_ge k n with h' | h'
    ·exact⟨h',e⟩
    ·have:k=n:=by omega
     subst this;rw[hn]at e;cases e⟩⟩
   by_cases hc:∃k,k<n∧h k=some o
   ·rw[if_pos hc,if_pos (this.1 hc)]
   ·rw[if_neg hc,if_neg (fun hh=>hc (this.2 hh))]
  | some x =>
   have hx:=ho n x hn
   have hnx:¬∃k,k<n∧h k=some x:=fun⟨k,hk,e⟩=>by have:=hi k n x e hn;omega
   have e:=oT (f:=fun o=>if ∃k,k<n∧h k=some o then g o else 0) (g:=fun o=>if ∃k,k<n+1∧h k=some o then g o else 0) hx (fun o _ hne=>by
    have:(∃k,k<n∧h k=some o)↔(∃k,k<n+1∧h k=some o):=⟨fun⟨k,hk,e⟩=>⟨k,by omega,e⟩,fun⟨k,hk,e⟩=>⟨k,by
     rcases Nat.lt_or_ge k n with h' | h'
     ·exact⟨h',e⟩
     ·have:k=n:=by omega
      subst this;rw[hn]at e;cases e;exact absurd E hne⟩⟩
    by_cases hc:∃k,k<n∧h k=some o
    ·simp only[if_pos hc,if_pos (this.1 hc)]
    ·simp only[if_neg hc,if_neg (fun hh=>hc (this.2 hh))])
   rw[e]
   simp only[if_neg hnx,if_pos (show ∃k,k<n+1∧h k=some x from⟨n,by omega,hn⟩)]
   show _+g x=_
   omega
theorem bij {S:Nat→Nat→Prop} {nB nO:Nat} (hF:Fit S nB nO) {h:Nat→Option Nat} (hM:Mat S h) (g:Nat→Int):sm nB (fun k=>ov g (h k))=sm nO (fun o=>if Dom h o then g o else 0):=by
 rw[bij_aux (nO:=nO) (g:=g) hM.inj (fun k o e=>hF.ord o k (hM.suit k o e)) nB]
 refine f7 fun o _=>?_
 have:(∃k,k<nB∧h k=some o)↔Dom h o:=⟨fun⟨k,_,e⟩=>⟨k,e⟩,fun⟨k,e⟩=>⟨k,hF.bay o k (hM.suit k o e),e⟩⟩
 by_cases hc:Dom h o
 ·rw[if_pos hc,if_pos (this.2 hc)]
 ·rw[if_neg hc,if_neg (fun hh=>hc (this.1 hh))]
noncomputable def off (p:Prop):Int:=if p then 0 else 1
theorem off_t {p:Prop} (h:p):off p=0:=if_pos h
theorem off_f {p:Prop} (h:¬p):off p=1:=if_neg h
theorem oK (p:Prop):(p∧off p=0)∨(¬p∧off p=1):=by
 by_cases h:p
 ·exact .inl ⟨h,off_t h⟩
 ·exact .inr ⟨h,off_f h⟩
noncomputable def unt (nB:Nat) (T:Nat→Prop):Int:=sm nB fun k=>off (T k)
theorem jZ (nB:Nat) (T:Nat→Prop):0≤unt nB T:=mF fun i _=>by rcases oK (T i)with⟨_,h⟩|⟨_,h⟩ <;> omega
theorem off_mono {p q:Prop} (h:p→q):off q≤off p:=by
 rcases oK p with⟨h1,e1⟩|⟨h1,e1⟩ <;> rcases oK q with⟨h2,e2⟩|⟨h2,e2⟩ <;> first|omega|exact absurd (h h1) h2
theorem unt_le {nB:Nat} {T T':Nat→Prop} (h:∀k,T k→T' k):unt nB T'≤unt nB T:=pV fun k _=>off_mono (h k)
theorem sk {nB:Nat} {T:Nat→Prop} {k:Nat} (hk:k<nB) (h1:¬T k):unt nB (fun j=>T j∨j=k)=unt nB T-1:=by
 have h0:sm nB (fun j=>off (T j∨j=k))=sm nB (fun j=>off (T j))-off (T k)+off (T k∨k=k):=oT (f:=fun j=>off (T j)) (g:=fun j=>off (T j∨j=k)) hk (fun i _ hi=>by
  by_cases h:T i
  ·rw[off_t h,off_t (.inl h)]
  ·rw[off_f h,off_f fun hh=>hh.elim h hi])
 rw[off_f h1,off_t (Or.inr E)]at h0
 show sm nB (fun j=>off (T j∨j=k))=sm nB (fun j=>off (T j))-1
 omega
structure MatX (S:Nat→Nat→Prop) (T:Nat→Prop) (h:Nat→Option Nat):Prop where
 suit:∀k o,¬T k→h k=some o→S o k
 inj:∀k k' o,¬T k→¬T k'→h k=some o→h k'=some o→k=k'
def DomX (T:Nat→Prop) (h:Nat→Option Nat) (o:Nat):Prop:=∃k,¬T k∧h k=some o
structure AugY (S:Nat→Nat→Prop) (T:Nat→Prop) (o:Nat) (h h':Nat→Option Nat):Prop where
 keep:∀k,T k→h' k=h k
 mat:MatX S T h'
 dom:∀x,DomX T h' x↔x=o∨DomX T h x
structure AugN (S:Nat→Nat→Prop) (T T':Nat→Prop) (o:Nat) (h:Nat→Option Nat):Prop where
 sub:∀k,T k→T' k
 shut:∀k,T' k→¬T k→∃x,h k=some x∧∀k',S x k'→T' k'
 own:∀k',S o k'→T' k'
theorem MatX.more {S:Nat→Nat→Prop} {T T':Nat→Prop} {h:Nat→Option Nat} (hM:MatX S T h) (hs:∀k,T k→T' k):MatX S T' h :=
 ⟨fun k o hk e=>hM.suit k o (fun ht=>hk (hs k ht)) e,fun k k' o hk hk' e e'=>hM.inj k k' o (fun ht=>hk (hs k ht)) (fun ht=>hk' (hs k' ht)) e e'⟩
theorem th {S:Nat→Nat→Prop} {T:Nat→Prop} {o k:Nat} {h:Nat→Option Nat} (hM:MatX S T h) (hk:¬T k) (hS:S o k) (hn:h k=none) (ho:¬DomX T h o):AugY S T o h (fun j=>if j=k then some o else h j) where
 keep:=fun j hj=>if_neg (fun(e:j=k)=>hk (e▸hj))
 mat:=by
  refine⟨fun j x hj e=>?_,fun j j' x hj hj' e e'=>?_⟩
  ·by_cases hjk:j=k
   ·subst hjk;simp only[if_pos E]at e;cases e;exact hS
   ·simp only[if_neg hjk]at e;exact hM.suit j x hj e
  ·by_cases hjk:j=k <;> by_cases hjk':j'=k
   ·rw[hjk,hjk']
   ·subst hjk
    simp only[if_pos E]at e
    simp only[if_neg hjk']at e'
    cases e
    exact absurd ⟨j',hj',e'⟩ ho
   ·subst hjk'
    simp only[if_pos E]at e'
    simp only[if_neg hjk]at e
    cases e'
    exact absurd ⟨j,hj,e⟩ ho
   ·simp only[if_neg hjk]at e
    simp only[if_neg hjk']at e'
    exact hM.inj j j' x hj hj' e e'
 dom:=fun x=>by
  refine⟨fun⟨j,hj,e⟩=>?_,fun hx=>?_⟩
  ·by_cases hjk:j=k
   ·simp only[if_pos hjk]at e;cases e;exact .inl E
   ·simp only[if_neg hjk]at e;exact .inr ⟨j,hj,e⟩
  ·rcases hx with rfl|⟨j,hj,e⟩
   ·exact⟨k,hk,if_pos E⟩
   ·refine⟨j,hj,?_⟩
    have:j≠k:=fun e'=>by subst e';rw[hn]at e;cases e
    simp only[if_neg this];exact e
theorem rN {S:Nat→Nat→Prop} {T:Nat→Prop} {o k x:Nat} {h h':Nat→Option Nat} (hM:MatX S T h) (hk:¬T k) (hS:S o k) (hx:h k=some x) (ho:¬DomX T h o) (hA:AugY S (fun j=>T j∨j=k) x h h'):AugY S T o h (fun j=>if j=k then some o else h' j):=by
 have hd:∀z,(∃j,¬(T j∨j=k)∧h' j=some z)↔DomX T h z:=fun z=>by
  refine(hA.dom z).trans ⟨fun hz=>?_,fun⟨j,hj,e⟩=>?_⟩
  ·rcases hz with rfl|⟨j,hj,e⟩
   ·exact⟨k,hk,hx⟩
   ·exact⟨j,fun ht=>hj (.inl ht),e⟩
  ·by_cases hjk:j=k
   ·subst hjk;rw[hx]at e;cases e;exact .inl E
   ·exact .inr ⟨j,fun ht=>ht.elim hj hjk,e⟩
 have hno:∀j,¬T j→j≠k→h' j≠some o:=fun j hj hjk e=>ho ((hd o).1 ⟨j,fun ht=>ht.elim hj hjk,e⟩)
 refine⟨fun j hj=>?_,⟨fun j z hj e=>?_,fun j j' z hj hj' e e'=>?_⟩,fun z=>⟨fun⟨j,hj,e⟩=>?_,fun hz=>?_⟩⟩
 ·have:j≠k:=fun e=>hk (e▸hj)
  simp only[if_neg this]
  exact hA.keep j (.inl hj)
 ·by_cases hjk:j=k
  ·subst hjk;simp only[if_pos E]at e;cases e;exact hS
  ·simp only[if_neg hjk]at e;exact hA.mat.suit j z (fun ht=>ht.elim hj hjk) e
 ·by_cases hjk:j=k <;> by_cases hjk':j'=k
  ·rw[hjk,hjk']
  ·simp only[if_pos hjk]at e
   simp only[if_neg hjk']at e'
   cases e
   exact absurd e' (hno j' hj' hjk')
  ·simp only[if_pos hjk']at e'
   simp only[if_neg hjk]at e
   cases e'
   exact absurd e (hno j hj hjk)
  ·simp only[if_neg hjk]at e
   simp only[if_neg hjk']at e'
   exact hA.mat.inj j j' z (fun ht=>ht.elim hj hjk) (fun ht=>ht.elim hj' hjk') e e'
 ·by_cases hjk:j=k
  ·simp only[if_pos hjk]at e;cases e;exact .inl E
  ·simp only[if_neg hjk]at e;exact .inr ((hd z).1 ⟨j,fun ht=>ht.elim hj hjk,e⟩)
 ·rcases hz with rfl|hz
  ·exact⟨k,hk,if_pos E⟩
  ·obtain⟨j,hj,e⟩:=(hd z).2 hz
   have hjk:j≠k:=fun e'=>hj (.inr e')
   exact⟨j,fun ht=>hj (.inl ht),by simp only[if_neg hjk];exact e⟩
theorem qM {S:Nat→Nat→Prop} {T T1:Nat→Prop} {o:Nat} {h h':Nat→Option Nat} (hM:MatX S T h) (hs:∀k,T k→T1 k) (ho:¬DomX T h o) (hA:AugY S T1 o h h'):AugY S T o h h':=by
 have hk1:∀k z,T1 k→¬T k→h' k=some z→∀k',¬T1 k'→h' k'=some z→False:=fun k z ht hn e k' ht' e'=>by
  rw[hA.keep k ht]at e
  rcases (hA.dom z).1 ⟨k',ht',e'⟩with rfl|⟨j,hj,ej⟩
  ·exact ho ⟨k,hn,e⟩
  ·have:=hM.inj k j z hn (fun t=>hj (hs j t)) e ej
   subst this
   exact hj ht
 refine⟨fun k hk=>hA.keep k (hs k hk),⟨fun k z hk e=>?_,fun k k' z hk hk' e e'=>?_⟩,fun z=>⟨fun⟨k,hk,e⟩=>?_,fun hz=>?_⟩⟩
 ·by_cases ht:T1 k
  ·rw[hA.keep k ht]at e;exact hM.suit k z hk e
  ·exact hA.mat.suit k z ht e
 ·by_cases ht:T1 k <;> by_cases ht':T1 k'
  ·rw[hA.keep k ht]at e;rw[hA.keep k' ht']at e';exact hM.inj k k' z hk hk' e e'
  ·exact(hk1 k z ht hk e k' ht' e').elim
  ·exact(hk1 k' z ht' hk' e' k ht e).elim
  ·exact hA.mat.inj k k' z ht ht' e e'
 ·by_cases ht:T1 k
  ·rw[hA.keep k ht]at e;exact .inr ⟨k,hk,e⟩
  ·rcases (hA.dom z).1 ⟨k,ht,e⟩with rfl|⟨j,hj,ej⟩
   ·exact .inl E
   ·exact .inr ⟨j,fun t=>hj (hs j t),ej⟩
 ·rcases hz with rfl|⟨k,hk,e⟩
  ·obtain⟨k,hk,e⟩:=(hA.dom z).2 (.inl E)
   exact⟨k,fun t=>hk (hs k t),e⟩
  ·by_cases ht:T1 k
   ·exact⟨k,hk,by rw[hA.keep k ht];exact e⟩
   ·obtain⟨j,hj,ej⟩:=(hA.dom z).2 (.inr ⟨k,ht,e⟩)
    exact⟨j,fun t=>hj (hs j t),ej⟩
theorem aug {S:Nat→Nat→Prop} {nB:Nat} (hB:∀o k,S o k→k<nB):∀(u:Nat) (T:Nat→Prop) (o:Nat) (h:Nat→Option Nat),unt nB T≤(u:Int)→MatX S T h→¬DomX T h o→(∃h',AugY S T o h h')∨∃T',AugN S T T' o h:=by
 intro u
 induction u with
 | zero =>
  intro T o h hu hM ho
  refine .inr ⟨T,fun _ h=>h,fun k h1 h2=>absurd h1 h2,fun k hS=>?_⟩
  by_cases hk:T k
  ·exact hk
  ·have h1:=sk (hB o k hS) hk
   have h2:=jZ nB (fun j=>T j∨j=k)
   omega
 | succ u ih =>
  intro T o h hu hM ho
  by_cases hex:∃k,¬T k∧S o k
  ·obtain⟨k,hk,hS⟩:=hex
   cases hn:h k with
   | none=>exact .inl ⟨_,th hM hk hS hn ho⟩
   | some x =>
    have h1:=sk (hB o k hS) hk
    have hM1:MatX S (fun j=>T j∨j=k) h:=hM.more fun j hj=>.inl hj
    have hx1:¬DomX (fun j=>T j∨j=k) h x:=fun⟨j,hj,e⟩=>hj (.inr (hM.inj j k x (fun t=>hj (.inl t)) hk e hn))
    rcases ih (fun j=>T j∨j=k) x h (by omega) hM1 hx1 with⟨h',hA⟩|⟨T',hA⟩
    ·exact .inl ⟨_,rN hM hk hS hn ho hA⟩
    ·have hu':unt nB T'≤(u:Int):=by have:=unt_le (nB:=nB) hA.sub;omega
     have hsub:∀j,T j→T' j:=fun j hj=>hA.sub j (.inl hj)
     rcases ih T' o h hu' (hM.more hsub) (fun⟨j,hj,e⟩=>ho ⟨j,fun t=>hj (hsub j t),e⟩)with⟨h',hA'⟩|⟨T'',hA'⟩
     ·exact .inl ⟨h',qM hM hsub ho hA'⟩
     ·refine .inr ⟨T'',fun j hj=>hA'.sub j (hsub j hj),fun j hj hnj=>?_,hA'.own⟩
      by_cases hj':T' j
      ·by_cases hjk:j=k
       ·subst hjk
        exact⟨x,hn,fun k' hk'=>hA'.sub k' (hA.own k' hk')⟩
       ·obtain⟨z,e,hz⟩:=hA.shut j hj' (fun t=>t.elim hnj hjk)
        exact⟨z,e,fun k' hk'=>hA'.sub k' (hz k' hk')⟩
      ·exact hA'.shut j hj hj'
  ·exact .inr ⟨T,fun _ h=>h,fun k h1 h2=>absurd h1 h2,fun k hS=>by
    by_cases hk:T k
    ·exact hk
    ·exact absurd ⟨k,hk,hS⟩ hex⟩
structure Shut (S:Nat→Nat→Prop) (C:Nat→Prop) (h:Nat→Option Nat):Prop where
 shut:∀k,C k→∃x,h k=some x∧∀k',S x k'→C k'
theorem Mat.x {S:Nat→Nat→Prop} {h:Nat→Option Nat} (hM:Mat S h):MatX S (fun _=>False) h:=⟨fun k o _ e=>hM.suit k o e,fun k k' o _ _ e e'=>hM.inj k k' o e e'⟩
theorem oZ {h:Nat→Option Nat} {o:Nat}:DomX (fun _=>False) h o↔Dom h o:=⟨fun⟨k,_,e⟩=>⟨k,e⟩,fun⟨k,e⟩=>⟨k,id,e⟩⟩
theorem AugY.mat0 {S:Nat→Nat→Prop} {o:Nat} {h h':Nat→Option Nat} (hA:AugY S (fun _=>False) o h h'):Mat S h':=⟨fun k o e=>hA.mat.suit k o id e,fun k k' o e e'=>hA.mat.inj k k' o id id e e'⟩
theorem AugY.dom0 {S:Nat→Nat→Prop} {o:Nat} {h h':Nat→Option Nat} (hA:AugY S (fun _=>False) o h h') (x:Nat):Dom h' x↔x=o∨Dom h x:=by rw[←oZ,←oZ];exact hA.dom x
theorem AugN.shut0 {S:Nat→Nat→Prop} {T':Nat→Prop} {o:Nat} {h:Nat→Option Nat} (hA:AugN S (fun _=>False) T' o h):Shut S T' h:=⟨fun k hk=>hA.shut k hk id⟩
theorem aug0 {S:Nat→Nat→Prop} {nB nO:Nat} (hF:Fit S nB nO) {h:Nat→Option Nat} (hM:Mat S h) {o:Nat} (ho:¬Dom h o):(∃h',Mat S h'∧∀x,Dom h' x↔x=o∨Dom h x)∨∃C,Shut S C h∧∀k,S o k→C k:=by
 rcases aug hF.bay (unt nB fun _=>False).toNat (fun _=>False) o h (by have:=jZ nB fun _=>False;omega) hM.x (fun hd=>ho (oZ.1 hd))with⟨h',hA⟩|⟨T',hA⟩
 ·exact .inl ⟨h',hA.mat0,hA.dom0⟩
 ·exact .inr ⟨T',hA.shut0,hA.own⟩
theorem filled {S:Nat→Nat→Prop} {nB nO:Nat} (hF:Fit S nB nO) {h h2:Nat→Option Nat} (hM:Mat S h) {C:Nat→Prop} (hC:Shut S C h) (hM2:Mat S h2) (hX:∀k x,C k→h k=some x→Dom h2 x):∀k,C k→∃x,h2 k=some x∧∃k1,C k1∧h k1=some x:=by
 let X:Nat→Prop:=fun x=>∃k1,C k1∧h k1=some x
 have e1:=bij hF hM (fun o=>if X o then 1 else 0)
 have e2:=bij hF hM2 (fun o=>if X o then 1 else 0)
 have e3:sm nO (fun o=>if Dom h o then(if X o then(1:Int)else 0)else 0)=sm nO (fun o=>if Dom h2 o then(if X o then(1:Int)else 0)else 0):=f7 fun o _=>by
  by_cases hx:X o
  ·obtain⟨k1,hk1,e⟩:=hx
   rw[if_pos ⟨k1,e⟩,if_pos (hX k1 o hk1 e)]
  ·simp only[if_neg hx]
   split <;> split <;> rfl
 have e4:∀k,ov (fun o=>if X o then(1:Int)else 0) (h k)=if C k then 1 else 0:=fun k=>by
  by_cases hk:C k
  ·obtain⟨x,e,_⟩:=hC.shut k hk
   rw[e,if_pos hk]
   exact if_pos ⟨k,hk,e⟩
  ·rw[if_neg hk]
   cases e:h k with
   | none=>rfl
   | some x=>exact if_neg fun⟨k1,hk1,e1⟩=>hk (hM.inj k1 k x e1 e▸hk1)
 have e5:∀k,ov (fun o=>if X o then(1:Int)else 0) (h2 k)≤ov (fun o=>if X o then(1:Int)else 0) (h k):=fun k=>by
  rw[e4]
  cases e:h2 k with
  | none=>show(0:Int)≤_;split <;> omega
  | some x =>
   show(if X x then(1:Int)else 0)≤_
   by_cases hx:X x
   ·obtain⟨k1,hk1,e1⟩:=hx
    obtain⟨x',e',hs⟩:=hC.shut k1 hk1
    rw[e1]at e';cases e'
    rw[if_pos (hs k (hM2.suit k x e)),if_pos (show X x from⟨k1,hk1,e1⟩)]
    omega
   ·rw[if_neg hx];split <;> omega
 intro k hk
 obtain⟨x0,e0,_⟩:=hC.shut k hk
 have hkB:k<nB:=hF.bay x0 k (hM.suit k x0 e0)
 by_cases hlt:ov (fun o=>if X o then(1:Int)else 0) (h2 k)<ov (fun o=>if X o then(1:Int)else 0) (h k)
 ·have:=sm_lt hkB (fun i _=>e5 i) hlt
  omega
 ·rw[e4,if_pos hk]at hlt
  cases e:h2 k with
  | none=>rw[e]at hlt;exact absurd (show(0:Int)<1 by omega) hlt
  | some x =>
   rw[e]at hlt
   by_cases hx:X x
   ·exact⟨x,E,hx⟩
   ·exfalso
    apply hlt
    show(if X x then(1:Int)else 0)<1
    rw[if_neg hx];omega
def Matchable (S:Nat→Nat→Prop) (A:Nat→Prop):Prop:=∃h,Mat S h∧∀x,Dom h x↔A x
theorem Matchable.sub {S:Nat→Nat→Prop} {A B:Nat→Prop} (hA:Matchable S A) (hB:∀x,B x→A x):Matchable S B:=by
 obtain⟨h,hM,hd⟩:=hA
 refine⟨fun k=>match h k with|none=>none|some x=>if B x then some x else none,⟨fun k o e=>?_,fun k k' o e e'=>?_⟩,fun x=>⟨fun⟨k,e⟩=>?_,fun hx=>?_⟩⟩
 ·cases hk:h k with
  | none=>simp only[hk]at e;cases e
  | some x =>
   simp only[hk]at e
   split at e
   ·cases e;exact hM.suit k _ hk
   ·cases e
 ·cases hk:h k with
  | none=>simp only[hk]at e;cases e
  | some x =>
   cases hk':h k' with
   | none=>simp only[hk']at e';cases e'
   | some x' =>
    simp only[hk]at e
    simp only[hk']at e'
    split at e
    ·split at e'
     ·cases e;cases e';exact hM.inj k k' _ hk hk'
     ·cases e'
    ·cases e
 ·cases hk:h k with
  | none=>simp only[hk]at e;cases e
  | some z =>
   simp only[hk]at e
   split at e
   ·cases e;assumption
   ·cases e
 ·obtain⟨k,e⟩:=(hd x).2 (hB x hx)
  exact⟨k,by simp only[e];exact if_pos hx⟩
set_option linter.unusedSimpArgs false
open Classical
def wor (nB:Nat) (w:Nat→Int) (h:Nat→Option Nat):Int:=sm nB fun k=>ov w (h k)
structure Opt (S:Nat→Nat→Prop) (w:Nat→Int) (nB:Nat) (V:Int):Prop where
 some:∃h,Mat S h∧wor nB w h=V
 most:∀h,Mat S h→wor nB w h≤V
theorem Opt.unique {S:Nat→Nat→Prop} {w:Nat→Int} {nB:Nat} {V V':Int} (h:Opt S w nB V) (h':Opt S w nB V'):V=V':=by
 obtain⟨a,ha,ea⟩:=h.some
 obtain⟨b,hb,eb⟩:=h'.some
 have h1:=h'.most a ha
 have h2:=h.most b hb
 omega
structure Cert (S:Nat→Nat→Prop) (w:Nat→Int) (L:Nat→Prop) (i:Nat):Prop where
 out:∃h C,Mat S h∧(∀x,Dom h x→L x)∧Shut S C h∧(∀k,S i k→C k)∧∀k x,C k→h k=some x→w i≤w x
theorem Cert.more {S:Nat→Nat→Prop} {w:Nat→Int} {L L':Nat→Prop} {i:Nat} (hc:Cert S w L i) (hs:∀x,L x→L' x):Cert S w L' i:=by
 obtain⟨h,C,h1,h2,h3,h4,h5⟩:=hc.out
 exact⟨h,C,h1,fun x hx=>hs x (h2 x hx),h3,h4,h5⟩
structure Greedy (S:Nat→Nat→Prop) (w:Nat→Int) (P L:Nat→Prop):Prop where
 can:Matchable S L
 sub:∀x,L x→P x
 cert:∀i,P i→¬L i→Cert S w L i
theorem Greedy.nil {S:Nat→Nat→Prop} {w:Nat→Int}:Greedy S w (fun _=>False) (fun _=>False):=⟨⟨fun _=>none,⟨fun _ _ e=>(by cases e),fun _ _ _ e=>(by cases e)⟩,fun x=>⟨fun⟨k,e⟩=>(by cases e),False.elim⟩⟩,fun _ h=>h,fun _ h=>h.elim⟩
theorem Greedy.no {S:Nat→Nat→Prop} {w:Nat→Int} {nB nO:Nat} (hF:Fit S nB nO) {P L:Nat→Prop} {i:Nat} (h:Greedy S w P L) (hw:∀x,P x→w i≤w x) (hm:¬Matchable S fun x=>L x∨x=i):Greedy S w (fun x=>P x∨x=i) L:=by
 have hi:¬L i:=fun hl=>hm (by
  obtain⟨m,hM,hd⟩:=h.can
  exact⟨m,hM,fun x=>(hd x).trans ⟨.inl,fun hx=>hx.elim id fun e=>e▸hl⟩⟩)
 refine⟨h.can,fun x hx=>.inl (h.sub x hx),fun j hj hn=>?_⟩
 rcases hj with hj|rfl
 ·exact h.cert j hj hn
 ·obtain⟨m,hM,hd⟩:=h.can
  rcases aug0 hF hM (o:=j) (fun hj=>hn ((hd j).1 hj))with⟨m',hM',hd'⟩|⟨C,hC,hs⟩
  ·exact absurd ⟨m',hM',fun x=>(hd' x).trans ⟨fun hx=>hx.elim .inr fun hx=>.inl ((hd x).1 hx),fun hx=>hx.elim (fun hl=>.inr ((hd x).2 hl)) .inl⟩⟩ hm
  ·exact⟨m,C,hM,fun x hx=>(hd x).1 hx,hC,hs,fun k x _ e=>hw x (h.sub x ((hd x).1 ⟨k,e⟩))⟩
inductive Way (S:Nat→Nat→Prop) (h:Nat→Option Nat) (k:Nat):Nat→Prop
 | refl:Way S h k k
 | step {k1 k2 x:Nat}:Way S h k k1→h k1=some x→S x k2→Way S h k k2
theorem Way.head {S:Nat→Nat→Prop} {h:Nat→Option Nat} {k k' k2 x:Nat} (e:h k=some x) (hs:S x k') (hw:Way S h k' k2):Way S h k k2:=by
 induction hw with
 | refl=>exact .step .refl e hs
 | step _ e1 s1 ih=>exact .step ih e1 s1
structure Prices (S:Nat→Nat→Prop) (w:Nat→Int) (nB nO:Nat) (h:Nat→Option Nat) (q u:Nat→Int):Prop where
 q0:∀k,0≤q k
 free:∀k,h k=none→q k=0
 held:∀k x,h k=some x→q k≤w x
 least:∀k x k',h k=some x→S x k'→q k≤q k'
 out:∀i k,i<nO→¬Dom h i→S i k→w i≤q k
 uset:∀k x,h k=some x→u x=w x-q k
 unot:∀i,¬Dom h i→u i=0
 total:wor nB w h=sm nB q+sm nO u
 less:∀k,∃h',Mat S h'∧h' k=none∧wor nB w h'=wor nB w h-q k
theorem Prices.u0 {S:Nat→Nat→Prop} {w:Nat→Int} {nB nO:Nat} {h:Nat→Option Nat} {q u:Nat→Int} (hp:Prices S w nB nO h q u) (i:Nat):0≤u i:=by
 by_cases hd:Dom h i
 ·obtain⟨k,e⟩:=hd
  have h1:=hp.uset k i e
  have h2:=hp.held k i e
  omega
 ·rw[hp.unot i hd];omega
theorem Prices.feas {S:Nat→Nat→Prop} {w:Nat→Int} {nB nO:Nat} {h:Nat→Option Nat} {q u:Nat→Int} (hF:Fit S nB nO) (hp:Prices S w nB nO h q u) {i k:Nat} (hs:S i k):w i≤q k+u i:=by
 by_cases hd:Dom h i
 ·obtain⟨k',e⟩:=hd
  have h1:=hp.uset k' i e
  have h2:=hp.least k' i k e hs
  omega
 ·rw[hp.unot i hd];have:=hp.out i k (hF.ord i k hs) hd hs;omega
theorem weak {S:Nat→Nat→Prop} {w:Nat→Int} {nB nO:Nat} (hF:Fit S nB nO) {q u:Nat→Int} (hq:∀k,k<nB→0≤q k) (hu:∀i,i<nO→0≤u i) (hf:∀i k,S i k→w i≤q k+u i) {h:Nat→Option Nat} (hM:Mat S h):wor nB w h≤sm nB (fun k=>if h k=none then 0 else q k)+sm nO u:=by
 have h1:wor nB w h≤sm nB (fun k=>(if h k=none then 0 else q k)+ov u (h k)):=pV fun k _=>by
  cases e:h k with
  | none=>simp[ov]
  | some x =>
   have:=hf x k (hM.suit k x e)
   simp only[ov,reduceCtorEq,if_false]
   exact this
 have h2:=sm_add (fun k=>if h k=none then 0 else q k) (fun k=>ov u (h k)) nB
 have h3:=bij hF hM u
 have h4:sm nO (fun o=>if Dom h o then u o else 0)≤sm nO u:=pV fun o ho=>by
  have:=hu o ho
  split
  ·exact Int.le_refl _
  ·exact this
 omega
theorem weak_but {S:Nat→Nat→Prop} {w:Nat→Int} {nB nO:Nat} (hF:Fit S nB nO) {q u:Nat→Int} (hq:∀k,k<nB→0≤q k) (hu:∀i,i<nO→0≤u i) (hf:∀i k,S i k→w i≤q k+u i) {h:Nat→Option Nat} (hM:Mat S h) {k:Nat} (hk:k<nB) (hn:h k=none):wor nB w h≤sm nB q-q k+sm nO u:=by
 have h1:=weak hF hq hu hf hM
 have h3:=oT (f:=q) (g:=fun j=>if j=k then 0 else q j) hk (fun i _ hi=>by simp only[if_neg hi])
 have h4:(if k=k then(0:Int)else q k)=0:=if_pos E
 rw[h4]at h3
 have h2:sm nB (fun j=>if h j=none then 0 else q j)≤sm nB (fun j=>if j=k then 0 else q j):=pV fun j hj=>by
  have:=hq j hj
  by_cases hjk:j=k
  ·subst hjk;simp[hn]
  ·simp only[if_neg hjk]
   split
   ·exact this
   ·exact Int.le_refl _
 omega
def freed (h:Nat→Option Nat) (k:Nat):Nat→Option Nat:=fun j=>if j=k then none else h j
theorem tE (h:Nat→Option Nat) (k:Nat):freed h k k=none:=if_pos E
theorem qA {h:Nat→Option Nat} {k j:Nat} (hj:j≠k):freed h k j=h j:=if_neg hj
theorem cV {h:Nat→Option Nat} {k j x:Nat} (e:freed h k j=some x):j≠k∧h j=some x:=by
 by_cases hj:j=k
 ·subst hj;rw[tE]at e;cases e
 ·rw[qA hj]at e;exact⟨hj,e⟩
theorem Mat.freed {S:Nat→Nat→Prop} {h:Nat→Option Nat} (hM:Mat S h) (k:Nat):Mat S (freed h k) :=
 ⟨fun j o e=>hM.suit j o (cV e).2,fun j j' o e e'=>hM.inj j j' o (cV e).2 (cV e').2⟩
theorem wor_freed {nB k:Nat} (hk:k<nB) (w:Nat→Int) (h:Nat→Option Nat):wor nB w (freed h k)=wor nB w h-ov w (h k):=by
 have:=oT (f:=fun j=>ov w (h j)) (g:=fun j=>ov w (freed h k j)) hk (fun i _ hi=>by simp only[qA hi])
 simp only[tE]at this
 have e:ov w none=0:=rfl
 rw[e]at this
 unfold wor
 omega
theorem wor_dom {S:Nat→Nat→Prop} {nB nO:Nat} (hF:Fit S nB nO) (w:Nat→Int) {h h':Nat→Option Nat} (hM:Mat S h) (hM':Mat S h') (hd:∀x,Dom h x↔Dom h' x):wor nB w h=wor nB w h':=by
 unfold wor
 rw[bij hF hM w,bij hF hM' w]
 refine f7 fun o _=>?_
 by_cases hc:Dom h o
 ·rw[if_pos hc,if_pos ((hd o).1 hc)]
 ·rw[if_neg hc,if_neg fun hh=>hc ((hd o).2 hh)]
theorem way_less {S:Nat→Nat→Prop} {nB nO:Nat} (hF:Fit S nB nO) (w:Nat→Int) {h:Nat→Option Nat} (hM:Mat S h) {k0 k1:Nat} (hk1:k1<nB) (hw:Way S h k0 k1):∃h',Mat S h'∧h' k0=none∧wor nB w h'=wor nB w h-ov w (h k1):=by
 have e2:=wor_freed hk1 w h
 have hM2:=hM.freed k1
 cases hk0:freed h k1 k0 with
 | none=>exact⟨_,hM2,hk0,e2⟩
 | some o =>
  obtain⟨hne,ho⟩:=cV hk0
  -- without the first bay
  let S':Nat→Nat→Prop:=fun x k=>S x k∧k≠k0
  have hF':Fit S' nB nO:=⟨fun x k hs=>hF.bay x k hs.1,fun x k hs=>hF.ord x k hs.1⟩
  let h3:=freed (freed h k1) k0
  have hM3:Mat S' h3:=⟨fun k x e=>⟨hM2.suit k x (cV e).2,(cV e).1⟩,(hM2.freed k0).inj⟩
  have hno:¬Dom h3 o:=fun⟨k,e⟩=>(cV e).1 (hM2.inj k k0 o (cV e).2 hk0)
  rcases aug0 hF' hM3 hno with⟨h',hM',hd⟩|⟨C,hC,hs⟩
  ·have hMS:Mat S h':=⟨fun k x e=>(hM'.suit k x e).1,hM'.inj⟩
   refine⟨h',hMS,?_,?_⟩
   ·cases e:h' k0 with
    | none=>rfl
    | some x=>exact absurd E (hM'.suit k0 x e).2
   ·rw[←e2]
    refine wor_dom hF w hMS hM2 fun x=>?_
    rw[hd x]
    refine⟨fun hx=>?_,fun⟨k,e⟩=>?_⟩
    ·rcases hx with rfl|⟨k,e⟩
     ·exact⟨k0,hk0⟩
     ·exact⟨k,(cV e).2⟩
    ·by_cases hk:k=k0
     ·subst hk;rw[hk0]at e;cases e;exact .inl E
     ·exact .inr ⟨k,(qA hk).trans e⟩
  ·exfalso
   have hall:∀k,Way S h k0 k→C k∨k=k0:=fun k hk=>by
    induction hk with
    | refl=>exact .inr E
    | @step ka kb x _ e s ih =>
     by_cases hkb:kb=k0
     ·exact .inr hkb
     ·rcases ih with hc|rfl
      ·obtain⟨y,ey,hy⟩:=hC.shut ka hc
       have:=(cV (cV ey).2).2
       rw[e]at this;cases this
       exact .inl (hy kb ⟨s,hkb⟩)
      ·rw[ho]at e;cases e
       exact .inl (hs kb ⟨s,hkb⟩)
   rcases hall k1 hw with hc|e
   ·obtain⟨y,ey,_⟩:=hC.shut k1 hc
    exact(cV (cV ey).2).1 E
   ·exact hne e.symm
theorem prices {S:Nat→Nat→Prop} {w:Nat→Int} {nB nO:Nat} (hF:Fit S nB nO) (hw:∀i,0≤w i) {L:Nat→Prop} {h:Nat→Option Nat} (hM:Mat S h) (hd:∀x,Dom h x↔L x) (hc:∀i,i<nO→¬L i→Cert S w L i):∃q u,Prices S w nB nO h q u:=by
 have hv:∀k,0≤ov w (h k):=fun k=>by
  cases h k with
  | none=>exact Int.le_refl _
  | some x=>exact hw x
 have hex:∀k,∃k',Way S h k k'∧∀k'',Way S h k k''→ov w (h k')≤ov w (h k''):=fun k=>min_ex hv (ov w (h k)).toNat k .refl (by have:=hv k;omega)
 let r:Nat→Nat:=fun k=>Classical.choose (hex k)
 have hr:∀k,Way S h k (r k)∧∀k'',Way S h k k''→ov w (h (r k))≤ov w (h k''):=fun k=>Classical.choose_spec (hex k)
 let q:Nat→Int:=fun k=>ov w (h (r k))
 let u:Nat→Int:=fun i=>if hx:Dom h i then w i-q (Classical.choose hx)else 0
 have huset:∀k x,h k=some x→u x=w x-q k:=fun k x e=>by
  have hx:Dom h x:=⟨k,e⟩
  have:=hM.inj _ _ x (Classical.choose_spec hx) e
  show(if hx:Dom h x then w x-q (Classical.choose hx)else 0)=_
  rw[dif_pos hx,this]
 have hunot:∀i,¬Dom h i→u i=0:=fun i hi=>dif_neg hi
 have hfree:∀k,h k=none→q k=0:=fun k e=>by
  have h1:=(hr k).2 k .refl
  have h2:=hv (r k)
  rw[e]at h1
  have e0:ov w none=0:=rfl
  show ov w (h (r k))=0
  omega
 refine⟨q,u,fun k=>hv (r k),hfree,fun k x e=>?_,fun k x k' e hs=>(hr k).2 _ (.head e hs (hr k').1),fun i k hi hn hs=>?_,huset,hunot,?_,fun k=>?_⟩
 ·have h1:=(hr k).2 k .refl
  rw[e]at h1
  exact h1
 ·obtain⟨h0,C,hM0,hd0,hC,hsC,hwC⟩:=(hc i hi (fun hl=>hn ((hd i).2 hl))).out
  have hf:=filled hF hM0 hC hM (fun k x _ e=>(hd x).2 (hd0 x ⟨k,e⟩))
  have hall:∀k',Way S h k k'→C k':=fun k' hk'=>by
   induction hk' with
   | refl=>exact hsC k hs
   | @step ka kb x _ e s ih =>
    obtain⟨y,ey,k1,hk1,e1⟩:=hf ka ih
    rw[e]at ey;cases ey
    obtain⟨z,ez,hz⟩:=hC.shut k1 hk1
    rw[e1]at ez;cases ez
    exact hz kb s
  obtain⟨y,ey,k1,hk1,e1⟩:=hf _ (hall _ (hr k).1)
  show w i≤ov w (h (r k))
  rw[ey]
  exact hwC k1 y hk1 e1
 ·have h1:=bij hF hM u
  have h2:sm nO (fun o=>if Dom h o then u o else 0)=sm nO u:=f7 fun o _=>by
   by_cases hx:Dom h o
   ·rw[if_pos hx]
   ·rw[if_neg hx,hunot o hx]
  have h3:sm nB (fun k=>ov u (h k))=sm nB (fun k=>ov w (h k)-q k):=f7 fun k _=>by
   cases e:h k with
   | none=>rw[hfree k e];rfl
   | some x=>exact huset k x e
  have h4:=sm_sub (fun k=>ov w (h k)) q nB
  have e5:sm nB (fun k=>ov w (h k))=wor nB w h:=rfl
  omega
 ·by_cases hk:r k<nB
  ·exact way_less hF w hM hk (hr k).1
  ·have hout:h (r k)=none:=by
    cases e:h (r k)with
    | none=>rfl
    | some x=>exact absurd (hF.bay x _ (hM.suit _ x e)) hk
   have hq:q k=0:=by show ov w (h (r k))=0;rw[hout];rfl
   by_cases hk2:h k=none
   ·exact⟨h,hM,hk2,by omega⟩
   ·exfalso
    have:=(hr k).1
    have hstep:∀k',Way S h k k'→k'<nB:=fun k' hk'=>by
     cases hk' with
     | refl =>
      cases e:h k with
      | none=>exact absurd e hk2
      | some x=>exact hF.bay x k (hM.suit k x e)
     | step _ _ s=>exact hF.bay _ _ s
    exact hk (hstep _ this)
theorem Prices.without {S:Nat→Nat→Prop} {w:Nat→Int} {nB nO:Nat} (hF:Fit S nB nO) {h:Nat→Option Nat} (hM:Mat S h) {q u:Nat→Int} (hp:Prices S w nB nO h q u) {k:Nat} (hk:k<nB):Opt (fun i j=>S i j∧j≠k) w nB (wor nB w h-q k):=by
 refine⟨?_,fun h2 hM2=>?_⟩
 ·obtain⟨h',hM',hn,e⟩:=hp.less k
  refine⟨h',⟨fun j o ej=>⟨hM'.suit j o ej,fun ejk=>?_⟩,hM'.inj⟩,e⟩
  subst ejk;rw[hn]at ej;cases ej
 ·have hM3:Mat S h2:=⟨fun j o e=>(hM2.suit j o e).1,hM2.inj⟩
  have hn:h2 k=none:=by
   cases e:h2 k with
   | none=>rfl
   | some x=>exact absurd E (hM2.suit k x e).2
  have:=weak_but (w:=w) (q:=q) (u:=u) hF (fun k _=>hp.q0 k) (fun i _=>hp.u0 i) (fun i k hs=>hp.feas hF hs) hM3 hk hn
  rw[hp.total]
  omega
theorem Greedy.prices {S:Nat→Nat→Prop} {w:Nat→Int} {nB nO:Nat} (hF:Fit S nB nO) (hw:∀i,0≤w i) {P L:Nat→Prop} (hg:Greedy S w P L) (hP:∀i,i<nO→P i) {h:Nat→Option Nat} (hM:Mat S h) (hd:∀x,Dom h x↔L x):∃q u,Prices S w nB nO h q u:=Go.Proofs.YthndghnkebboaaaGreat.prices hF hw hM hd fun i hi hn=>hg.cert i (hP i hi) hn
set_option linter.unusedSimpArgs false
def oat (y:TY) (o:Nat):TO:=y.fR.getD o default
def bat (y:TY) (k:Nat):TBay:=y.fB.getD k default
theorem rdL_oat (y:TY) (o:Nat):rdL y.fR (o:Int)=oat y o:=by unfold rdL oat;rw[Int.toNat_natCast]
theorem rdL_bat (y:TY) (k:Nat):rdL y.fB (k:Int)=bat y k:=by unfold rdL bat;rw[Int.toNat_natCast]
def qv (o:TO) (b:TBay):Bool:=decide (o.fH.fLo≤b.fHour∧b.fHour≤o.fH.fHi)&&decide (o.fD≤b.fD)
theorem suits_eq (o:TO) (b:TBay):jV o b=some (qv o b):=by unfold jV;rw[jl];rfl
def Su (y:TY) (o k:Nat):Prop:=o<y.fR.length∧k<y.fB.length∧qv (oat y o) (bat y k)=true
def wo (y:TY) (o:Nat):Int:=(oat y o).fW
theorem Su.fit (y:TY):Fit (Su y) y.fB.length y.fR.length:=⟨fun o k h=>h.2.1,fun o k h=>h.1⟩
def qk (g:List (Int × Int)) (k:Nat):Option Nat:=if bt g (k:Int)=true then some (aC 0 g (k:Int)).toNat else none
def tri (t:List (Int × Bool)) (k:Nat):Prop:=aC false t (k:Int)=true
def OkG (nB nO:Nat) (g:List (Int × Int)):Prop:=∀p∈g,∃k o:Nat,p=((k:Int),(o:Int))∧k<nB∧o<nO
theorem OkG.nil {nB nO:Nat}:OkG nB nO []:=fun p hp=>by cases hp
theorem OkG.cons {nB nO k o:Nat} {g:List (Int × Int)} (h:OkG nB nO g) (hk:k<nB) (ho:o<nO):OkG nB nO (((k:Int),(o:Int))::g):=fun p hp=>by
 rcases List.mem_cons.1 hp with rfl|hp
 ·exact⟨k,o,E,hk,ho⟩
 ·exact h p hp
theorem pc (g:List (Int × Int)) (k o:Nat):qk (((k:Int),(o:Int))::g)=fun j=>if j=k then some o else qk g j:=by
 funext j
 unfold qk
 rw[eB,fZ]
 by_cases h:j=k
 ·subst h
  rw[if_pos E,if_pos E,if_pos E,if_pos E,Int.toNat_natCast]
 ·rw[if_neg (show ¬((k:Int)=(j:Int)) by omega),if_neg (show ¬((k:Int)=(j:Int)) by omega),if_neg h]
theorem mA (t:List (Int × Bool)) (k:Nat):tri (((k:Int),true)::t)=fun j=>tri t j∨j=k:=by
 funext j
 unfold tri
 rw[fZ]
 refine propext ?_
 by_cases h:j=k
 ·subst h;rw[if_pos E];exact⟨fun _=>.inr E,fun _=>E⟩
 ·rw[if_neg (show ¬((k:Int)=(j:Int)) by omega)];exact⟨.inl,fun hh=>hh.elim id fun e=>absurd e h⟩
theorem tc {nB nO:Nat}:∀{g:List (Int × Int)},OkG nB nO g→∀{k x:Nat},qk g k=some x→bt g (k:Int)=true∧aC 0 g (k:Int)=(x:Int)∧k<nB∧x<nO
 | [],_,k,x,e=>by cases e
 | p::g,hg,k,x,e=>by
  obtain⟨k',o,rfl,hk',ho⟩:=hg p (List.mem_cons_self ..)
  rw[pc]at e
  rw[eB,fZ]
  by_cases h:k=k'
  ·subst h
   rw[if_pos E,if_pos E]
   simp only[if_true]at e
   cases e
   exact⟨E,E,hk',ho⟩
  ·rw[if_neg (show ¬((k':Int)=(k:Int)) by omega),if_neg (show ¬((k':Int)=(k:Int)) by omega)]
   simp only[if_neg h]at e
   exact tc (g:=g) (fun q hq=>hg q (List.mem_cons_of_mem _ hq)) e
theorem hold_has {g:List (Int × Int)} {k:Nat} (e:qk g k=none):bt g (k:Int)=false:=by
 unfold qk at e
 by_cases h:bt g (k:Int)=true
 ·rw[if_pos h]at e;cases e
 ·exact Bool.eq_false_iff.2 h
theorem pn {k:Nat} (h:k<1000000):eI (k:Int)=true:=by
 unfold eI
 rw[Bool.and_eq_true,decide_eq_true_eq,decide_eq_true_eq];omega
theorem look (y:TY) (hB:y.fB.length≤1000) (hO:y.fR.length≤1000):∀(fuel o:Nat) (t:List (Int × Bool)) (g:List (Int × Int)),o<y.fR.length→OkG y.fB.length y.fR.length g→unt y.fB.length (tri t)<(fuel:Int)→(t.length:Int)+unt y.fB.length (tri t)≤2000→(g.length:Int)+unt y.fB.length (tri t)≤100000→MatX (Su y) (tri t) (qk g)→¬DomX (tri t) (qk g) o →
  ∃r t' g',bC fuel (o:Int) y t g=some (r,t',g')∧OkG y.fB.length y.fR.length g'∧(t'.length:Int)+unt y.fB.length (tri t')≤(t.length:Int)+unt y.fB.length (tri t)∧(g'.length:Int)+unt y.fB.length (tri t')≤(g.length:Int)+unt y.fB.length (tri t)∧(∀k,tri t k→tri t' k)∧((r=true∧AugY (Su y) (tri t) o (qk g) (qk g'))∨(r=false∧g'=g∧AugN (Su y) (tri t) (tri t') o (qk g))):=by
 intro fuel
 induction fuel with
 | zero =>
  intro o t g _ _ hu
  have:=jZ y.fB.length (tri t)
  omega
 | succ fuel ih =>
  intro o t g ho hg hu hlt hlg hM hn
  have hinv:=bf (body:=cd (o:Int) y (bC fuel))
   (fun s=>∃(i:Nat) (t1:List (Int × Bool)),s=(false,(i:Int),t1,g)∧i≤y.fB.length∧(∀k,tri t k→tri t1 k)∧(t1.length:Int)+unt y.fB.length (tri t1)≤(t.length:Int)+unt y.fB.length (tri t)∧(∀k,tri t1 k→¬tri t k→∃x,qk g k=some x∧∀k',Su y x k'→tri t1 k')∧(∀k,k<i→Su y o k→tri t1 k))
   (fun _ out=>match out with
    | .inl u=>u.1=true∧OkG y.fB.length y.fR.length u.2.2.2∧(u.2.2.1.length:Int)+unt y.fB.length (tri u.2.2.1)≤(t.length:Int)+unt y.fB.length (tri t)∧(u.2.2.2.length:Int)+unt y.fB.length (tri u.2.2.1)≤(g.length:Int)+unt y.fB.length (tri t)∧(∀k,tri t k→tri u.2.2.1 k)∧AugY (Su y) (tri t) o (qk g) (qk u.2.2.2)
    | .inr u=>u.2.2.2=g∧(u.2.2.1.length:Int)+unt y.fB.length (tri u.2.2.1)≤(t.length:Int)+unt y.fB.length (tri t)∧AugN (Su y) (tri t) (tri u.2.2.1) o (qk g))
   (fun s=>y.fB.length-s.2.1.toNat) (by
    rintro _ ⟨i,t1,rfl,hi,hsub,hlen,hsh,hown⟩
    have hu1:unt y.fB.length (tri t1)≤unt y.fB.length (tri t):=unt_le hsub
    have hu0:=jZ y.fB.length (tri t1)
    rcases Nat.lt_or_ge i y.fB.length with hlt' | hge
    ·have c1:(0:Int)≤(i:Int)∧(i:Int)<((y.fB.length:Nat):Int):=by omega
     have c2:(0:Int)≤(o:Int)∧(o:Int)<((y.fR.length:Nat):Int):=by omega
     have hb:cd (o:Int) y (bC fuel) (false,(i:Int),t1,g)=(if(aC false t1 (i:Int) || !qv (oat y o) (bat y i))=true then some (.inl (false,((i+1:Nat):Int),t1,g))else al (eI (i:Int)=true∧List.length t1<1000000000) ((if(!(bt g (i:Int)))=true then(al (eI (i:Int)=true∧List.length g<1000000000) (some (.inr (.inl (true,(i:Int),(((i:Int),true)::t1),(((i:Int),(o:Int))::g))))))else((bC fuel (aC 0 g (i:Int)) y (((i:Int),true)::t1) g).bind fun y17=>(if y17.1=true then al (eI (i:Int)=true∧List.length y17.2.2<1000000000) (some (.inr (.inl (true,(i:Int),y17.2.1,(((i:Int),(o:Int))::y17.2.2)))))else some (.inl (false,((i+1:Nat):Int),y17.2.1,y17.2.2))))))):=by
      unfold cd;dsimp only
      rw[dl (show(i:Int)<((y.fB.length:Nat):Int) by omega),gPo c1,gPo (pn (by omega))]
      simp only[rdL_oat,rdL_bat,TSpan_eta,TOrder_eta,TBay_eta,suits_eq,oB,gPo c2,aZ (show i<9223372036854775807 by omega),gPo (pn (show i<1000000 by omega))]
      cases aC false t1 (i:Int) <;> cases qv (oat y o) (bat y i) <;> rfl
     by_cases hsk:(aC false t1 (i:Int) || !qv (oat y o) (bat y i))=true
     ·refine .inl ⟨_,by rw[hb,if_pos hsk],⟨i+1,t1,E,hlt',hsub,hlen,hsh,fun k hk hs=>?_⟩,by dsimp only;omega,fun t h=>h⟩
      rcases Nat.lt_or_ge k i with h|h
      ·exact hown k h hs
      ·have:k=i:=by omega
       subst this
       rcases Bool.or_eq_true_iff.1 hsk with h|h
       ·exact h
       ·rw[hs.2.2]at h;cases h
     ·rw[if_neg hsk]at hb
      have hsk2:=Bool.eq_false_iff.2 hsk
      rw[Bool.or_eq_false_iff]at hsk2
      have hnt:¬tri t1 i:=by unfold tri;rw[hsk2.1];exact Bool.false_ne_true
      have hS:Su y o i:=⟨ho,hlt',by have:=hsk2.2;simpa using this⟩
      have hua:=sk hlt' hnt
      rw[←mA]at hua
      have hM1:MatX (Su y) (tri t1) (qk g):=hM.more hsub
      have hn1:¬DomX (tri t1) (qk g) o:=fun⟨j,hj,e⟩=>hn ⟨j,fun h=>hj (hsub j h),e⟩
      have hsub':∀k,tri t1 k→tri (((i:Int),true)::t1) k:=fun k hk=>by rw[mA];exact .inl hk
      have hi1:tri (((i:Int),true)::t1) i:=by rw[mA];exact .inr E
      rw[gPo ⟨pn (by omega),by omega⟩]at hb
      cases hh:qk g i with
      | none =>
       rw[hold_has hh,if_pos (by rfl),gPo ⟨pn (by omega),by omega⟩]at hb
       refine .inr ⟨_,hb,E,hg.cons hlt' ho,?_,?_,fun k hk=>hsub' k (hsub k hk),?_⟩
       ·dsimp only;rw[List.length_cons];omega
       ·dsimp only;rw[List.length_cons];omega
       ·dsimp only
        rw[pc]
        exact qM hM hsub hn (th hM1 hnt hS hh hn1)
      | some x =>
       obtain⟨hx1,hx2,_,hx3⟩:=tc hg hh
       rw[hx1,if_neg (by simp),hx2]at hb
       have hMi:MatX (Su y) (tri (((i:Int),true)::t1)) (qk g):=hM1.more hsub'
       have hni:¬DomX (tri (((i:Int),true)::t1)) (qk g) x:=fun⟨j,hj,e⟩=>by
        have:j=i:=hM1.inj j i x (fun h=>hj (hsub' j h)) hnt e hh
        subst this;exact hj hi1
       obtain⟨r,t',g',hr,hg',hl1,hl2,hs',hcase⟩:=ih x (((i:Int),true)::t1) g hx3 hg (by omega) (by rw[List.length_cons];omega) (by omega) hMi hni
       rw[hr,oB]at hb
       dsimp only at hb
       rw[List.length_cons]at hl1
       have hut:=jZ y.fB.length (tri t')
       rcases hcase with⟨rfl,hA⟩|⟨rfl,rfl,hA⟩
       ·rw[if_pos E,gPo ⟨pn (by omega),by omega⟩]at hb
        refine .inr ⟨_,hb,E,hg'.cons hlt' ho,?_,?_,fun k hk=>hs' k (hsub' k (hsub k hk)),?_⟩
        ·dsimp only;omega
        ·dsimp only;rw[List.length_cons];omega
        ·dsimp only
         rw[pc]
         rw[mA]at hA
         exact qM hM hsub hn (rN hM1 hnt hS hh hn1 hA)
       ·rw[if_neg (by simp)]at hb
        refine .inl ⟨_,hb,⟨i+1,t',E,hlt',fun k hk=>hs' k (hsub' k (hsub k hk)),by omega,fun k hk hnk=>?_,fun k hk hs=>?_⟩,by dsimp only;omega,fun t h=>h⟩
        ·by_cases hk1:tri (((i:Int),true)::t1) k
         ·by_cases hki:k=i
          ·subst hki
           exact⟨x,hh,fun k' hk'=>hA.own k' hk'⟩
          ·rw[mA]at hk1
           have hk2:tri t1 k:=hk1.elim id fun e=>absurd e hki
           obtain⟨z,e,hz⟩:=hsh k hk2 hnk
           exact⟨z,e,fun k' hk'=>hs' k' (hsub' k' (hz k' hk'))⟩
         ·exact hA.shut k hk hk1
        ·rcases Nat.lt_or_ge k i with h|h
         ·exact hs' k (hsub' k (hown k h hs))
         ·have:k=i:=by omega
          subst this;exact hs' k hi1
    ·have:i=y.fB.length:=by omega
     subst this
     refine .inr ⟨.inr (false,((y.fB.length:Nat):Int),t1,g),?_,E,hlen,hsub,hsh,fun k hs=>hown k hs.2.1 hs⟩
     unfold cd;dsimp only
     rw[cN (by omega)]) (false,0,t,g) ⟨0,t,E,Nat.zero_le _,fun _ h=>h,Int.le_refl _,fun k h1 h2=>absurd h1 h2,fun k hk=>absurd hk (Nat.not_lt_zero _)⟩
  obtain⟨out,hr,hpost⟩:=hinv
  unfold bC er
  rw[hr,oB]
  rcases out with u|u
  ·obtain⟨h1,h2,h3,h4,h5,h6⟩:=hpost
   refine⟨u.1,u.2.2.1,u.2.2.2,E,h2,h3,h4,h5,.inl ⟨h1,h6⟩⟩
  ·obtain⟨h1,h2,h3⟩:=hpost
   have:=unt_le (nB:=y.fB.length) h3.sub
   refine⟨false,u.2.2.1,u.2.2.2,E,by rw[h1];exact hg,h2,by rw[h1];omega,h3.sub,.inr ⟨E,h1,h3⟩⟩
set_option linter.unusedSimpArgs false
structure Fine (y:TY):Prop where
 bays:y.fB.length≤24
 ords:y.fR.length<20
 low:∀i,0≤wo y i
 high:∀i,wo y i≤2000
def isum (f:Int→Int):List Int→Int
 | []=>0
 | k::ks=>f k+isum f ks
open Classical in
theorem isum_sm {f:Int→Int} {n:Nat}:∀(ks:List Int),ks.Nodup→(∀k∈ks,∃j:Nat,k=(j:Int)∧j<n)→isum f ks=sm n fun j=>if(j:Int)∈ks then f (j:Int)else 0
 | [],_,_=>by rw[qw fun i _=>by simp];rfl
 | k::ks,hn,h=>by
  obtain⟨j,rfl,hj⟩:=h k (List.mem_cons_self ..)
  rw[List.nodup_cons]at hn
  have ih:=isum_sm (f:=f) (n:=n) ks hn.2 fun k hk=>h k (List.mem_cons_of_mem _ hk)
  show f (j:Int)+isum f ks=_
  rw[ih]
  have:=oT (f:=fun i:Nat=>if(i:Int)∈ks then f (i:Int)else 0) (g:=fun i:Nat=>if(i:Int)∈(j:Int)::ks then f (i:Int)else 0) hj (fun i _ hi=>by
   have e:((i:Int)∈(j:Int)::ks)↔((i:Int)∈ks):=by rw[List.mem_cons];exact⟨fun h=>h.elim (fun e=>absurd (by omega) hi) id,.inr⟩
   by_cases hc:(i:Int)∈ks
   ·rw[if_pos hc,if_pos (e.2 hc)]
   ·rw[if_neg hc,if_neg fun hh=>hc (e.1 hh)])
  rw[this,if_neg hn.1,if_pos (List.mem_cons_self ..)]
  omega
theorem Opt.bound {S:Nat→Nat→Prop} {w:Nat→Int} {nB:Nat} {V:Int} (h:Opt S w nB V) (hl:∀i,0≤w i) (hw:∀i,w i≤2000):0≤V∧V≤2000*(nB:Int):=by
 obtain⟨m,_,e⟩:=h.some
 have h1:∀n,sm n (fun k=>ov w (m k))≤2000*(n:Int):=fun n=>by
  induction n with
  | zero=>exact Int.le_refl _
  | succ n ih =>
   show sm n (fun k=>ov w (m k))+ov w (m n)≤_
   have:ov w (m n)≤2000:=by
    cases m n with
    | none=>show(0:Int)≤2000;omega
    | some x=>exact hw x
   omega
 have h2:0≤wor nB w m:=mF fun k _=>by
  cases m k with
  | none=>exact Int.le_refl _
  | some x=>exact hl x
 have:=h1 nB
 unfold wor at h2 e
 omega
set_option linter.unusedSimpArgs false
def bayB (b:TBay):Bool:=decide (1≤b.fID∧b.fID≤1099511627776)&&(decide (0≤b.fHour∧b.fHour≤16384)&&decide (0≤b.fD∧b.fD≤9))
def ordB (o:TO):Bool:=decide (1≤o.fID∧o.fID≤1099511627776)&&(decide (0≤o.fH.fLo∧o.fH.fLo≤16384)&&(decide (0≤o.fH.fHi∧o.fH.fHi≤16384)&&(!decide (o.fH.fHi<o.fH.fLo)&&(decide (0≤o.fD∧o.fD≤9)&&decide (1≤o.fW∧o.fW≤1000)))))
def rJ {α:Type} [Inhabited α] (l:List α) (ok:α→Bool) (id:α→Int) (k:Nat):Option Int:=if ok (l.getD k default)=false then some 1 else if ng l (fun x=>id x==id (l.getD k default))<(k:Int)then some 6 else none
def qO {α:Type} [Inhabited α] (l:List α) (ok:α→Bool) (id:α→Int):Option Int:=(List.range l.length).findSome? (rJ l ok id)
theorem qn {α:Type} [Inhabited α] {l:List α} {ok:α→Bool} {id:α→Int}:qO l ok id=none↔(∀x∈l,ok x=true)∧(l.map id).Nodup:=by
 unfold qO
 rw[List.findSome?_eq_none_iff]
 constructor
 ·intro h
  have h1:∀k,(hk:k<l.length)→ok l[k]=true∧¬ng l (fun x=>id x==id l[k])<(k:Int):=fun k hk=>by
   have:=h k (List.mem_range.2 hk)
   unfold rJ at this
   rw[eP hk]at this
   split at this
   ·cases this
   ·split at this
    ·cases this
    ·rename_i a b
     exact⟨by cases hh:ok l[k];exact absurd hh a;rfl,b⟩
  refine⟨fun x hx=>?_,lE.1 fun k hk=>(h1 k hk).2⟩
  obtain⟨k,hk,rfl⟩:=List.mem_iff_getElem.1 hx
  exact(h1 k hk).1
 ·rintro⟨h1,h2⟩ k hk
  have hk':=List.mem_range.1 hk
  unfold rJ
  rw[eP hk',if_neg (by rw[h1 _ (List.getElem_mem hk')];simp),if_neg (lE.2 h2 k hk')]
theorem errOf_some {α:Type} [Inhabited α] {l:List α} {ok:α→Bool} {id:α→Int} {e:Int} (h:qO l ok id=some e):e=1∨e=6:=by
 obtain⟨k,hk,he⟩:=List.exists_of_findSome?_eq_some h
 unfold rJ at he
 split at he
 ·cases he;exact .inl E
 ·split at he
  ·cases he;exact .inr E
  ·cases he
structure Good (y:TY):Prop where
 bays:y.fB.length≤24
 ords:y.fR.length≤24
 bay:∀b∈y.fB,bayB b=true
 ord:∀o∈y.fR,ordB o=true
 bayN:(y.fB.map (·.fID)).Nodup
 ordN:(y.fR.map (·.fID)).Nodup
theorem find_pair {n:Nat} (R:Nat→Option Int):(List.range n).findSome? (fun k=>(R k).map fun e=>(Sum.inl (e,(k:Int)):(Int × Int) ⊕ (Int × Int)))=none∧(List.range n).findSome? R=none∨∃e k,(List.range n).findSome? (fun k=>(R k).map fun e=>(Sum.inl (e,(k:Int)):(Int × Int) ⊕ (Int × Int)))=some (.inl (e,k))∧(List.range n).findSome? R=some e:=by
 induction n with
 | zero=>exact .inl ⟨E,E⟩
 | succ n ih =>
  rw[List.range_succ,List.findSome?_append,List.findSome?_append]
  rcases ih with⟨h1,h2⟩|⟨e,k,h1,h2⟩
  ·rw[h1,h2]
   cases hR:R n with
   | none=>exact .inl (by simp[hR])
   | some e=>exact .inr ⟨e,(n:Int),by simp[hR]⟩
  ·rw[h1,h2]
   exact .inr ⟨e,k,E,E⟩
theorem qR {body:(Int × Int)→Option ((Int × Int) ⊕ ((Int × Int) ⊕ (Int × Int)))} {n:Nat} (R:Nat→Option Int) {e0:Int} (h:∀k,k<n→body (e0,(k:Int))=some (match R k with|none=>.inl (e0,((k+1:Nat):Int))|some e=>.inr (.inl (e,(k:Int))))) (hs:body (e0,(n:Int))=some (.inr (.inr (e0,(n:Int))))) :
  ((List.range n).findSome? R=none∧aJ body (e0,0)=some (.inr (e0,(n:Int))))∨∃e k,(List.range n).findSome? R=some e∧aJ body (e0,0)=some (.inl (e,k)):=by
 have:=hU (body:=body) (fun k=>(e0,(k:Int))) n (fun k=>(R k).map fun e=>(Sum.inl (e,(k:Int)):(Int × Int) ⊕ (Int × Int))) (t0:=.inr (e0,(n:Int))) (fun k hk=>by
  rw[h k hk]
  cases R k <;> rfl) hs
 have h0:aJ body (e0,0)=_:=this
 rw[h0]
 rcases find_pair (n:=n) R with⟨h1,h2⟩|⟨e,k,h1,h2⟩
 ·exact .inl ⟨h2,by rw[h1];rfl⟩
 ·exact .inr ⟨e,k,h2,by rw[h1];rfl⟩
theorem idx_before {α:Type} [Inhabited α] {l:List α} {f:α→Int} {k:Nat} (hk:k<l.length):ng l (fun x=>f x==f l[k])<(k:Int)↔(List.range k).findSome? (fun j=>if(f (l.getD j default)==f l[k])=true then some (6:Int)else none)≠none:=by
 rw[idxI_lt hk]
 constructor
 ·rintro⟨j,hj,e⟩ h
  have:=List.findSome?_eq_none_iff.1 h j (List.mem_range.2 hj)
  rw[eP (by omega),e]at this
  simp at this
 ·intro h
  by_cases hc:∃j,∃h:j<k,f (l[j]'(by omega))=f l[k]
  ·exact hc
  ·exfalso
   apply h
   rw[List.findSome?_eq_none_iff]
   intro j hj
   have hj':=List.mem_range.1 hj
   rw[eP (by omega),if_neg (by simp;exact fun e=>hc ⟨j,hj',e⟩)]
theorem six {n:Nat} {q:Nat→Bool} {e:Int} (h:(List.range n).findSome? (fun j=>if q j=true then some (6:Int)else none)=some e):e=6:=by
 obtain⟨k,hk,he⟩:=List.exists_of_findSome?_eq_some h
 split at he
 ·cases he;rfl
 ·cases he
theorem Good.worth {y:TY} (h:Good y) {i:Nat} (hi:i<y.fR.length):1≤wo y i∧wo y i≤1000:=by
 have:=h.ord y.fR[i] (List.getElem_mem hi)
 unfold ordB at this
 simp only[Bool.and_eq_true,decide_eq_true_eq]at this
 unfold wo oat
 rw[eP hi]
 exact this.2.2.2.2.2
set_option linter.unusedSimpArgs false
theorem orB {b c:Bool}:(if b=true then(some true)else(some c))=some (b||c):=by cases b <;> rfl
theorem andB {b c:Bool}:(if b=true then(some c)else(some false))=some (b&&c):=by cases b <;> rfl
def nl (n:Int):Bool:=decide (0≤n∧n≤16384)
def fo (last:Int):List TSpan→Bool
 | []=>true
 | s::l => !((decide (s.fLo<last+2)||decide (s.fHi<s.fLo))||decide (16384<s.fHi))&&fo s.fHi l
theorem py (last:Int) (s:TSpan) (l:List TSpan):fo last (s::l)=(!((decide (s.fLo<last+2)||decide (s.fHi<s.fLo))||decide (16384<s.fHi))&&fo s.fHi l):=rfl
theorem kz {last:Int} {s:TSpan} {l:List TSpan}:fo last (s::l)=true↔last+2≤s.fLo∧s.fLo≤s.fHi∧s.fHi≤16384∧fo s.fHi l=true:=by
 rw[py,Bool.and_eq_true,Bool.not_eq_true',Bool.or_eq_false_iff,Bool.or_eq_false_iff,decide_eq_false_iff_not,decide_eq_false_iff_not,decide_eq_false_iff_not]
 constructor
 ·rintro⟨⟨⟨h1,h2⟩,h3⟩,h4⟩
  exact⟨by omega,by omega,by omega,h4⟩
 ·rintro⟨h1,h2,h3,h4⟩
  exact⟨⟨⟨by omega,by omega⟩,by omega⟩,h4⟩
theorem closed_eq {l:List TSpan} (hl:l.length≤1000000):gX l=some (fo (-2) l&&decide (l.length≤4)):=by
 have hinv:=bf (body:=fU l)
  (fun s=>∃(k:Nat) (last:Int),s=(false,last,(k:Int))∧k≤l.length ∧ -2≤last∧last≤16384∧fo (-2) l=fo last (l.drop k))
  (fun _ out=>match out with
   | .inl u=>u.1=false∧fo (-2) l=false
   | .inr _=>fo (-2) l=true)
  (fun s=>l.length-s.2.2.toNat) (by
   rintro _ ⟨k,last,rfl,hk,h1,h2,hs⟩
   rcases Nat.lt_or_ge k l.length with hlt|hge
   ·rw[List.drop_eq_getElem_cons hlt,py]at hs
    unfold fU;dsimp only
    rw[dl (by omega),gPo (by omega),aU hlt,bV (by omega) (by omega),aZ (by omega)]
    by_cases hc:((decide (l[k].fLo<last+2)||decide (l[k].fHi<l[k].fLo))||decide (16384<l[k].fHi))=true
    ·rw[if_pos hc]
     exact .inr ⟨_,E,E,by rw[hs,hc];rfl⟩
    ·rw[if_neg hc]
     have hc2:=Bool.eq_false_iff.2 hc
     rw[Bool.or_eq_false_iff,Bool.or_eq_false_iff,decide_eq_false_iff_not,decide_eq_false_iff_not,decide_eq_false_iff_not]at hc2
     refine .inl ⟨_,E,⟨k+1,_,E,hlt,by omega,by omega,?_⟩,by dsimp only;omega,fun t h=>?_⟩
     ·rw[hs,Bool.eq_false_iff.2 hc,Bool.not_false,Bool.true_and]
     ·exact h
   ·have hke:k=l.length:=by omega
    subst hke
    rw[List.drop_length]at hs
    refine .inr ⟨.inr (false,last,(l.length:Int)),?_,hs⟩
    unfold fU;dsimp only
    rw[cN (by omega)]) (false,-2,0) ⟨0,-2,E,Nat.zero_le _,by omega,by omega,E⟩
 obtain⟨out,hr,hp⟩:=hinv
 unfold gX
 rw[hr,oB]
 rcases out with u|u
 ·rw[hp.2];exact congrArg some hp.1
 ·rw[hp,Bool.true_and]
  exact congrArg some (decide_eq_decide.2 (by omega))
def iK (h:Int) (s:TSpan):Int:=if s.fLo≤h∧h≤s.fHi then s.fHi+1 else h
def dM (l:List TSpan) (h:Int):Int:=l.foldl iK h
theorem stepS_le (h:Int) (s:TSpan):h≤iK h s:=by unfold iK;split <;> omega
theorem stepS_mono {h h':Int} (hh:h≤h') (s:TSpan):iK h s≤iK h' s:=by unfold iK;split <;> split <;> omega
theorem iM:∀(l:List TSpan) (h:Int),h≤dM l h
 | [],h=>Int.le_refl _
 | s::l,h=>Int.le_trans (stepS_le h s) (iM l (iK h s))
theorem mN:∀(l:List TSpan) {h h':Int},h≤h'→dM l h≤dM l h'
 | [],_,_,hh=>hh
 | s::l,_,_,hh=>mN l (stepS_mono hh s)
theorem oF:∀{l:List TSpan} {last h:Int},fo last l=true→h<last+2→dM l h=h
 | [],_,_,_,_=>rfl
 | s::l,last,h,hs,hh=>by
  obtain⟨h1,h2,h3,h4⟩:=kz.1 hs
  show dM l (iK h s)=h
  have:iK h s=h:=if_neg (by omega)
  rw[this]
  exact oF h4 (by omega)
theorem mu:∀{l:List TSpan} {last:Int} (h:Int),fo last l=true→dM l (dM l h)=dM l h
 | [],_,_,_=>rfl
 | s::l,last,h,hs=>by
  obtain⟨h1,h2,h3,h4⟩:=kz.1 hs
  show dM l (iK (dM l (iK h s)) s)=dM l (iK h s)
  by_cases hc:s.fLo≤h∧h≤s.fHi
  ·have e:iK h s=s.fHi+1:=if_pos hc
   have e2:dM l (s.fHi+1)=s.fHi+1:=oF h4 (by omega)
   rw[e,e2,show iK (s.fHi+1) s=s.fHi+1 from if_neg (by omega),e2]
  ·have e:iK h s=h:=if_neg hc
   rw[e]
   have hn:iK (dM l h) s=dM l h:=by
    refine if_neg fun h5=>?_
    by_cases h6:h<s.fLo
    ·rw[oF h4 (by omega)]at h5;omega
    ·have:=iM l h;omega
   rw[hn]
   exact mu h h4
theorem rt:∀{l:List TSpan} {last h:Int},fo last l=true→h≤16384→dM l h≤16385
 | [],_,_,_,hh=>by unfold dM;simp;omega
 | s::l,last,h,hs,hh=>by
  obtain⟨h1,h2,h3,h4⟩:=kz.1 hs
  show dM l (iK h s)≤16385
  unfold iK
  split
  ·rw[oF h4 (by omega)];omega
  ·exact rt h4 hh
theorem q6:∀{l:List TSpan} {last:Int},fo last l=true → -2≤last→∀s∈l,-2≤s.fHi∧s.fHi≤16384
 | [],_,_,_,s,hm=>by cases hm
 | s::l,last,hs,h0,x,hm=>by
  obtain⟨h1,h2,h3,h4⟩:=kz.1 hs
  rcases List.mem_cons.1 hm with rfl|hm
  ·omega
  ·exact q6 h4 (by omega) x hm
theorem rr {t:TT} (hs:fo (-2) t.fK=true) (hl:t.fK.length≤1000000) (h:Int):gp t h=some (dM t.fK h,nl (dM t.fK h)):=by
 have hh:=q6 hs (by omega)
 have hrun:=kD (body:=fC t) (fun k=>(dM (t.fK.take k) h,(k:Int))) t.fK.length (t:=(dM t.fK h,(t.fK.length:Int))) (fun k hk=>by
  have h1:=hh _ (List.getElem_mem hk)
  unfold fC;dsimp only
  have e:dM (t.fK.take (k+1)) h=iK (dM (t.fK.take k) h) t.fK[k]:=by
   rw[List.take_succ_eq_append_getElem hk]
   unfold dM
   rw[List.foldl_append]
   rfl
  rw[dl (by omega),gPo (by omega),aU hk,jl,oB,aZ (by omega),bV (by omega) (by omega),e]
  unfold iK
  by_cases hc:(t.fK[k]).fLo≤dM (t.fK.take k) h∧dM (t.fK.take k) h≤(t.fK[k]).fHi
  ·rw[if_pos (decide_eq_true hc),if_pos hc]
  ·rw[if_neg (by rw[decide_eq_true_eq];exact hc),if_neg hc]) (by
  unfold fC;dsimp only
  rw[cN (by omega),List.take_length])
 have h0:aJ (fC t) (h,0)=_:=hrun
 unfold gp
 rw[h0,oB,nm]
 rfl
def pt (l:List TSpan):Bool:=fo (-2) l&&decide (l.length≤4)
def trB (n:Int) (t:TT):Bool:=!((((((!decide (1≤t.fID∧t.fID≤1099511627776) || !decide (0≤t.fFrom∧t.fFrom≤n-1)) || !decide (0≤t.fTo∧t.fTo≤n-1))||t.fFrom==t.fTo) || !decide (1≤t.fLong∧t.fLong≤72)) || !decide (0≤t.fToll∧t.fToll≤40)) || !pt t.fK)
structure GoodT (n:Int) (t:TT):Prop where
 id:1≤t.fID∧t.fID≤1099511627776
 fr:0≤t.fFrom∧t.fFrom≤n-1
 to:0≤t.fTo∧t.fTo≤n-1
 ne:t.fFrom≠t.fTo
 long:1≤t.fLong∧t.fLong≤72
 toll:0≤t.fToll∧t.fToll≤40
 spans:fo (-2) t.fK=true
 few:t.fK.length≤4
theorem trB_iff {n:Int} {t:TT}:trB n t=true↔GoodT n t:=by
 unfold trB pt
 simp only[Bool.not_eq_true',Bool.or_eq_false_iff,Bool.not_eq_false',decide_eq_true_eq,beq_eq_false_iff_ne,Bool.and_eq_true]
 constructor
 ·rintro⟨⟨⟨⟨⟨⟨h1,h2⟩,h3⟩,h4⟩,h5⟩,h6⟩,h7,h8⟩
  exact⟨h1,h2,h3,h4,h5,h6,h7,h8⟩
 ·intro h
  exact⟨⟨⟨⟨⟨⟨h.id,h.fr⟩,h.to⟩,h.ne⟩,h.long⟩,h.toll⟩,h.spans,h.few⟩
def lb (r:TR):Int:=if ¬(1≤r.fPlaces∧r.fPlaces≤16)then 1 else if r.fTracks.length>48 then 2 else(qO r.fTracks (trB r.fPlaces) (·.fID)).getD 0
structure GoodR (r:TR):Prop where
 places:1≤r.fPlaces∧r.fPlaces≤16
 len:r.fTracks.length≤48
 trk:∀t∈r.fTracks,GoodT r.fPlaces t
 once:(r.fTracks.map (·.fID)).Nodup
theorem ko {r:TR}:lb r=0↔GoodR r:=by
 unfold lb
 constructor
 ·intro h
  by_cases h1:1≤r.fPlaces∧r.fPlaces≤16
  ·rw[if_neg (by simp[h1])]at h
   by_cases h2:r.fTracks.length>48
   ·rw[if_pos h2]at h;cases h
   ·rw[if_neg h2]at h
    cases he:qO r.fTracks (trB r.fPlaces) (·.fID)with
    | some e=>rw[he]at h;have:=errOf_some he;dsimp only[Option.getD]at h;omega
    | none =>
     obtain⟨h3,h4⟩:=qn.1 he
     exact⟨h1,by omega,fun t ht=>trB_iff.1 (h3 t ht),h4⟩
  ·rw[if_pos h1]at h;cases h
 ·intro h
  rw[if_neg (by simp[h.places]),if_neg (by have:=h.len;omega),qn.2 ⟨fun t ht=>trB_iff.2 (h.trk t ht),h.once⟩]
  rfl
def ee (r:TR) (id:Int):Int:=ng r.fTracks fun n=>n.fID==id
theorem tN {r:TR} (hl:r.fTracks.length<1000000000) (id:Int):jg r id=some (ee r id):=by
 unfold jg co
 rw[rp (f:=fun x3=>iz x3 id) (q:=fun x=>x.fID==id) hl (fun x _=>E)]
 rfl
theorem Check_eq {r:TR} (hr:∀t∈r.fTracks,t.fK.length≤1000000):jY r=some (lb r):=by
 unfold jY lb
 rw[jl,oB]
 by_cases h1:1≤r.fPlaces∧r.fPlaces≤16
 ·rw[if_neg (show ¬((!decide (1≤r.fPlaces∧r.fPlaces≤16))=true) by simp[h1]),if_neg (show ¬¬(1≤r.fPlaces∧r.fPlaces≤16) by simp[h1])]
  by_cases h2:r.fTracks.length>48
  ·rw[if_pos (by rw[decide_eq_true_eq];omega),if_pos h2]
  ·rw[if_neg (by rw[decide_eq_true_eq];omega),if_neg h2]
   have hb:=qR (body:=gQ r) (n:=r.fTracks.length) (rJ r.fTracks (trB r.fPlaces) (·.fID)) (e0:=0) (fun k hk=>by
    have hc:=closed_eq (hr _ (List.getElem_mem hk))
    unfold gQ iC;dsimp only
    rw[dl (by omega),gPo (by omega),bV (by omega) (by omega),aU hk,hc]
    simp only[jl,oB,orB,tN (show r.fTracks.length<1000000000 by omega),aZ (show k<9223372036854775807 by omega)]
    unfold rJ
    rw[eP hk,show(((((((!decide (1≤(r.fTracks[k]).fID∧(r.fTracks[k]).fID≤1099511627776)) || !decide (0≤(r.fTracks[k]).fFrom∧(r.fTracks[k]).fFrom≤r.fPlaces-1)) || !decide (0≤(r.fTracks[k]).fTo∧(r.fTracks[k]).fTo≤r.fPlaces-1))||(r.fTracks[k]).fFrom==(r.fTracks[k]).fTo) || !decide (1≤(r.fTracks[k]).fLong∧(r.fTracks[k]).fLong≤72)) || !decide (0≤(r.fTracks[k]).fToll∧(r.fTracks[k]).fToll≤40)) || !(fo (-2) (r.fTracks[k]).fK&&decide ((r.fTracks[k]).fK.length≤4))) = !trB r.fPlaces r.fTracks[k]from by unfold trB pt;rw[Bool.not_not]]
    cases hT:trB r.fPlaces r.fTracks[k]with
    | false=>rfl
    | true =>
     rw[if_neg (show ¬((!true)=true) by simp),if_neg (show ¬(true=false) by simp)]
     unfold ee
     dsimp only
     by_cases hi:ng r.fTracks (fun n=>n.fID==(r.fTracks[k]).fID)<(k:Int)
     ·rw[if_pos (decide_eq_true hi),if_pos hi]
     ·rw[if_neg (by simpa using hi),if_neg hi]) (by
    unfold gQ;dsimp only
    rw[cN (by omega)])
   rcases hb with⟨h3,h4⟩|⟨e,k,h3,h4⟩
   ·rw[h4,show qO r.fTracks (trB r.fPlaces) (·.fID)=none from h3];rfl
   ·rw[h4,show qO r.fTracks (trB r.fPlaces) (·.fID)=some e from h3];rfl
 ·rw[if_pos (by simp;omega),if_pos h1]
def inB (r:TR) (f t h p:Int):Bool:=((decide (0≤f∧f≤r.fPlaces-1)&&decide (0≤t∧t≤r.fPlaces-1))&&decide (0≤h∧h≤16384))&&decide (0≤p∧p≤60)
def lD (r:TR) (f t h p:Int):Int:=if lb r≠0 then lb r else if inB r f t h p=true then 0 else 1
theorem re {r:TR} (hr:∀t∈r.fTracks,t.fK.length≤1000000) (f t h p:Int):eH r f t h p=some (lD r f t h p):=by
 unfold eH lD
 rw[Check_eq hr,oB]
 by_cases hv:lb r=0
 ·rw[if_neg (by simp[hv]),if_neg (by simp[hv])]
  have hp:=(ko.1 hv).places
  rw[bV (by omega) (by omega)]
  simp only[jl,nm,oB,orB]
  unfold inB
  cases decide (0≤f∧f≤r.fPlaces-1) <;> cases decide (0≤t∧t≤r.fPlaces-1) <;> cases decide (0≤h∧h≤16384) <;> cases decide (0≤p∧p≤60) <;> rfl
 ·rw[if_pos (by simpa using hv),if_pos hv]
structure AskedOk (r:TR) (f t h p:Int):Prop where
 good:GoodR r
 fr:0≤f∧f<r.fPlaces
 to:0≤t∧t<r.fPlaces
 hour:0≤h∧h≤16384
 purse:0≤p∧p≤60
theorem lO {r:TR} {f t h p:Int}:lD r f t h p=0↔AskedOk r f t h p:=by
 unfold lD inB
 by_cases hv:lb r=0
 ·rw[if_neg (by simp[hv])]
  constructor
  ·intro h1
   split at h1
   ·rename_i h2
    simp only[Bool.and_eq_true,decide_eq_true_eq]at h2
    obtain⟨⟨⟨a,b⟩,c⟩,d⟩:=h2
    exact⟨ko.1 hv,⟨a.1,by omega⟩,⟨b.1,by omega⟩,c,d⟩
   ·cases h1
  ·intro h1
   have h2:=h1.fr;have h3:=h1.to
   rw[if_pos]
   simp only[Bool.and_eq_true,decide_eq_true_eq]
   exact⟨⟨⟨by omega,by omega⟩,h1.hour⟩,h1.purse⟩
 ·rw[if_pos hv]
  exact⟨fun h=>absurd h hv,fun h=>absurd (ko.2 h.good) hv⟩
set_option linter.unusedSimpArgs false
open Classical
theorem rclosed_eq {l:List TSpan}:iv l=some (pt l):=by
 unfold iv pt
 by_cases h4:4<l.length
 ·rw[if_pos (by rw[decide_eq_true_eq];omega),decide_eq_false (show ¬l.length≤4 by omega),Bool.and_false]
 ·rw[if_neg (by rw[decide_eq_true_eq];omega),decide_eq_true (show l.length≤4 by omega),Bool.and_true]
  have hinv:=bf (body:=dL l)
   (fun s=>∃(k:Nat) (last:Int),s=(false,(k:Int))∧k≤l.length∧((k=0∧last = -2)∨(0<k∧last=(rdL l ((k-1:Nat):Int)).fHi∧0≤last∧last≤16384))∧fo (-2) l=fo last (l.drop k))
   (fun _ out=>match out with
    | .inl u=>u.1=false∧fo (-2) l=false
    | .inr _=>fo (-2) l=true)
   (fun s=>l.length-s.2.toNat) (by
    rintro _ ⟨k,last,rfl,hk,hlast,hs⟩
    rcases Nat.lt_or_ge k l.length with hlt|hge
    ·rw[List.drop_eq_getElem_cons hlt,py]at hs
     have hb:dL l (false,(k:Int))=some (if((decide (l[k].fLo<last+2)||decide (l[k].fHi<l[k].fLo))||decide (16384<l[k].fHi))=true then .inr (.inl (false,(k:Int)))else .inl (false,((k+1:Nat):Int))):=by
      unfold dL;dsimp only
      rw[dl (by omega),gPo (by omega),aU hlt,m3,oB,gPo (by omega),m3,oB,gPo (by omega),gPo (by omega),aZ (by omega),orB,oB]
      rcases hlast with⟨rfl,rfl⟩|⟨h0,hla,g1,g2⟩
      ·rw[if_neg (show ¬decide ((0:Int)<((0:Nat):Int))=true by simp),oB,orB,oB]
       rw[show((((!decide ((0:Int)≤l[0].fLo∧l[0].fLo≤16384))||(!decide ((0:Int)≤l[0].fHi∧l[0].fHi≤16384)))||decide (l[0].fHi<l[0].fLo))||false)=((decide (l[0].fLo < -2+2)||decide (l[0].fHi<l[0].fLo))||decide (16384<l[0].fHi)) by
        rw[Bool.eq_iff_iff]
        simp only[Bool.or_eq_true,Bool.not_eq_true',decide_eq_true_eq,decide_eq_false_iff_not,Bool.false_eq_true,or_false]
        omega]
       exact apply_ite some _ _ _ |>.symm
      ·have e1:w64 ((k:Int)-1)=((k-1:Nat):Int):=by rw[bV (by omega) (by omega)];omega
       rw[if_pos (show decide ((0:Int)<(k:Int))=true by rw[decide_eq_true_eq];omega),gPo (by omega),e1,show max (0:Int) ((k-1:Nat):Int)=((k-1:Nat):Int) by omega,gPo (by omega),←hla,bV (by omega) (by omega),oB,orB,oB]
       rw[show((((!decide (0≤l[k].fLo∧l[k].fLo≤16384))||(!decide (0≤l[k].fHi∧l[k].fHi≤16384)))||decide (l[k].fHi<l[k].fLo))||decide (l[k].fLo<last+2))=((decide (l[k].fLo<last+2)||decide (l[k].fHi<l[k].fLo))||decide (16384<l[k].fHi)) by
        rw[Bool.eq_iff_iff]
        simp only[Bool.or_eq_true,Bool.not_eq_true',decide_eq_true_eq,decide_eq_false_iff_not]
        omega]
       exact apply_ite some _ _ _ |>.symm
     rw[hb]
     by_cases hc:((decide (l[k].fLo<last+2)||decide (l[k].fHi<l[k].fLo))||decide (16384<l[k].fHi))=true
     ·rw[if_pos hc]
      exact .inr ⟨_,E,E,by rw[hs,hc];rfl⟩
     ·rw[if_neg hc]
      have hc2:=Bool.eq_false_iff.2 hc
      rw[Bool.or_eq_false_iff,Bool.or_eq_false_iff,decide_eq_false_iff_not,decide_eq_false_iff_not,decide_eq_false_iff_not]at hc2
      refine .inl ⟨_,E,⟨k+1,l[k].fHi,E,hlt,.inr ⟨by omega,?_,by omega,by omega⟩,?_⟩,by dsimp only;omega,fun t h=>h⟩
      ·rw[show k+1-1=k from E,aU hlt]
      ·rw[hs,Bool.eq_false_iff.2 hc,Bool.not_false,Bool.true_and]
    ·have hke:k=l.length:=by omega
     subst hke
     rw[List.drop_length]at hs
     refine .inr ⟨.inr (false,(l.length:Int)),?_,hs⟩
     unfold dL;dsimp only
     rw[cN (by omega)]) (false,0) ⟨0,-2,E,Nat.zero_le _,.inl ⟨E,E⟩,E⟩
  obtain⟨out,hr,hp⟩:=hinv
  rw[hr,oB]
  rcases out with u|u
  ·exact congrArg some (hp.1.trans hp.2.symm)
  ·exact congrArg some hp.symm
theorem rright_eq {r:TR} (hp:1≤r.fPlaces∧r.fPlaces≤16) (t:TT):jv r t=some (trB r.fPlaces t):=by
 unfold jv
 simp only[g5,oB,rclosed_eq,bV (show -9223372036854775808≤r.fPlaces-1 by omega) (show r.fPlaces-1≤9223372036854775807 by omega)]
 unfold trB
 refine congrArg some ?_
 simp only[Bool.not_or,Bool.not_not]
 rfl
theorem rCheck_eq (r:TR):jr r=some (lb r):=by
 unfold jr lb
 by_cases h1:1≤r.fPlaces∧r.fPlaces≤16
 ·rw[if_neg (by rw[Bool.or_eq_true,decide_eq_true_eq,decide_eq_true_eq];omega),if_neg (show ¬¬(1≤r.fPlaces∧r.fPlaces≤16) by simp[h1])]
  by_cases h2:r.fTracks.length>48
  ·rw[if_pos (by rw[decide_eq_true_eq];omega),if_pos h2]
  ·rw[if_neg (by rw[decide_eq_true_eq];omega),if_neg h2]
   have hb:=qR (body:=fQ r) (n:=r.fTracks.length) (rJ r.fTracks (trB r.fPlaces) (·.fID)) (e0:=0) (fun k hk=>by
    unfold fQ;dsimp only
    rw[dl (by omega),gPo (by omega),aU hk,g0,rright_eq h1,oB]
    have hin:=qR (body:=fV r (0,(k:Int))) (n:=k) (fun j=>if((r.fTracks.getD j default).fID==r.fTracks[k].fID)=true then some 6 else none) (e0:=0) (fun j hj=>by
     unfold fV;dsimp only
     rw[dl (by omega),gPo (by omega),gPo (by omega)]
     simp only[aU hk,aU (show j<r.fTracks.length by omega),eP (show j<r.fTracks.length by omega),aZ (show j<9223372036854775807 by omega)]
     cases (r.fTracks[j].fID==r.fTracks[k].fID) <;> rfl) (by
     unfold fV;dsimp only
     rw[cN (by omega)])
    have hid:=idx_before (l:=r.fTracks) (f:=(·.fID)) hk
    unfold rJ
    rw[eP hk]
    cases hT:trB r.fPlaces r.fTracks[k]with
    | false=>rfl
    | true =>
     rw[if_neg (show ¬((!true)=true) by simp),if_neg (show ¬(true=false) by simp)]
     dsimp only at hid ⊢
     rcases hin with⟨g1,g2⟩|⟨e,i,g1,g2⟩
     ·rw[g2,if_neg (fun h=>hid.1 h g1),oB]
      dsimp only
      rw[aZ (by omega)]
     ·rw[g2,if_pos (hid.2 (by rw[g1];simp)),oB]
      dsimp only
      rw[six g1]) (by
    unfold fQ;dsimp only
    rw[cN (by omega)])
   rcases hb with⟨h3,h4⟩|⟨e,k,h3,h4⟩
   ·rw[h4,show qO r.fTracks (trB r.fPlaces) (·.fID)=none from h3];rfl
   ·rw[h4,show qO r.fTracks (trB r.fPlaces) (·.fID)=some e from h3];rfl
 ·rw[if_pos (by rw[Bool.or_eq_true,decide_eq_true_eq,decide_eq_true_eq];omega),if_pos h1]
theorem renter_eq {t:TT} (hs:fo (-2) t.fK=true) (hl:t.fK.length≤1000000) (h:Int):jw t h=some (if nl (dM t.fK h)=true then dM t.fK h else -1):=by
 have hh:=q6 hs (by omega)
 have hrun:=kD (body:=eF t) (fun k=>(dM (t.fK.take k) h,(k:Int))) t.fK.length (t:=(dM t.fK h,(t.fK.length:Int))) (fun k hk=>by
  have h1:=hh _ (List.getElem_mem hk)
  unfold eF;dsimp only
  have e:dM (t.fK.take (k+1)) h=iK (dM (t.fK.take k) h) t.fK[k]:=by
   rw[List.take_succ_eq_append_getElem hk]
   unfold dM
   rw[List.foldl_append]
   rfl
  rw[dl (by omega),gPo (by omega),gPo (by omega),aU hk,g5,oB,gPo (by omega),aZ (by omega),bV (by omega) (by omega),e]
  unfold iK
  by_cases hc:(t.fK[k]).fLo≤dM (t.fK.take k) h∧dM (t.fK.take k) h≤(t.fK[k]).fHi
  ·rw[if_pos (decide_eq_true hc),if_pos hc]
  ·rw[if_neg (by rw[decide_eq_true_eq];exact hc),if_neg hc]) (by
  unfold eF;dsimp only
  rw[cN (by omega),List.take_length])
 have h0:aJ (eF t) (h,0)=_:=hrun
 unfold jw
 rw[h0,oB,m3,oB]
 dsimp only
 show(if(!nl (dM t.fK h))=true then _ else _)=_
 cases nl (dM t.fK h) <;> rfl
theorem rtrack_eq {r:TR} (hl:r.fTracks.length<1000000000) (id:Int):jz r id=some (ee r id):=by
 unfold jz
 have:=hU (body:=eE r id) (fun k=>((0:Int),(k:Int))) r.fTracks.length (fun k=>if((r.fTracks.getD k default).fID==id)=true then some (Sum.inl ((k:Int),(k:Int)))else none) (t0:=.inr (0,(r.fTracks.length:Int))) (fun k hk=>by
  have c1:decide ((k:Int)<((r.fTracks.length:Nat):Int))=true:=decide_eq_true (by omega)
  have c2:(0:Int)≤(k:Int)∧(k:Int)<((r.fTracks.length:Nat):Int):=by omega
  unfold eE;dsimp only
  simp only[c1,if_true,gPo c2,aU hk,eP hk,aZ (show k<9223372036854775807 by omega)]
  cases (r.fTracks[k].fID==id) <;> rfl) (by
  unfold eE;dsimp only
  rw[cN (by omega)])
 have h0:aJ (eE r id) (0,0)=_:=this
 rw[h0,oB]
 exact m7 r.fTracks fun n=>n.fID==id
set_option linter.unusedSimpArgs false
theorem qZ {q:List Twait} {i k:Nat} (hi:i<q.length) (hk:k<q.length):ct q (i:Int) (k:Int)=some (decide ((q[i]).f_at<(q[k]).f_at)):=by
 unfold ct
 rw[gPo (by omega),gPo (by omega),aU hi,aU hk]
theorem sH {q:List Twait} {i k:Nat} (hi:i<q.length) (hk:k<q.length):∃q',bY q (i:Int) (k:Int)=some q'∧q'.Perm q:=by
 unfold bY
 rw[gPo (by omega),gPo (by omega),gPo (by omega),gPo (by omega),aU hi,aU hk,Int.toNat_natCast,Int.toNat_natCast]
 exact⟨_,E,List.set_set_perm hi hk⟩
theorem up_ok {q:List Twait} (hl:q.length≤1000000000) {j:Nat} (hj:j<q.length):∃q',dX q (j:Int)=some q'∧q'.Perm q:=by
 have hinv:=bf (body:=dH) (fun s=>∃(k:Nat) (p:List Twait),s=((k:Int),p)∧k<q.length∧p.Perm q) (fun _ t=>t.2.Perm q) (fun s=>s.1.toNat) (by
  rintro _ ⟨k,p,rfl,hk,hp⟩
  have hpl:=hp.length_eq
  unfold dH;dsimp only
  rcases Nat.eq_zero_or_pos k with rfl|h0
  ·have e:w64 (Int.tdiv (w64 (((0:Nat):Int)-1)) 2)=0:=by decide
   rw[e,if_pos (by rfl),oB,if_pos E]
   exact .inr ⟨_,E,hp⟩
  ·have e1:w64 ((k:Int)-1)=((k-1:Nat):Int):=by rw[bV (by omega) (by omega)];omega
   have e2:Int.tdiv ((k-1:Nat):Int) 2=(((k-1) / 2:Nat):Int):=rfl
   have e:w64 (Int.tdiv (w64 ((k:Int)-1)) 2)=(((k-1) / 2:Nat):Int):=by rw[e1,e2,bV (by omega) (by omega)]
   rw[e,if_neg (by rw[beq_iff_eq];omega),qZ (q:=p) (by omega) (by omega),oB,oB]
   by_cases hc:(p[k]).f_at<(p[(k-1) / 2]).f_at
   ·obtain⟨p',hs,hp'⟩:=sH (q:=p) (i:=(k-1) / 2) (k:=k) (by omega) (by omega)
    rw[decide_eq_true hc,if_neg (by simp),hs,oB]
    exact .inl ⟨_,E,⟨(k-1) / 2,p',E,by omega,hp'.trans hp⟩,by dsimp only;omega,fun t h=>h⟩
   ·rw[decide_eq_false hc,if_pos (by rfl)]
    exact .inr ⟨_,E,hp⟩) ((j:Int),q) ⟨j,q,E,hj,List.Perm.refl _⟩
 obtain⟨t,ht,hp⟩:=hinv
 unfold dX
 rw[ht]
 exact⟨_,E,hp⟩
theorem down_ok {q:List Twait} (hl:q.length≤1000000000) {n:Nat} (hn:n≤q.length):∃b q',db q 0 (n:Int)=some (b,q')∧q'.Perm q:=by
 have hinv:=bf (body:=dc (n:Int)) (fun s=>∃(k:Nat) (p:List Twait),s=((k:Int),p)∧k≤q.length∧p.Perm q) (fun _ t=>t.2.Perm q) (fun s=>q.length-s.1.toNat) (by
  rintro _ ⟨k,p,rfl,hk,hp⟩
  have hpl:=hp.length_eq
  have e1:w64 (2*(k:Int))=((2*k:Nat):Int):=by rw[bV (by omega) (by omega)];omega
  have e2:w64 (w64 (2*(k:Int))+1)=((2*k+1:Nat):Int):=by rw[e1,bV (by omega) (by omega)];omega
  have e3:w64 (w64 (w64 (2*(k:Int))+1)+1)=((2*k+2:Nat):Int):=by rw[e2,bV (by omega) (by omega)];omega
  unfold dc;dsimp only
  rw[e3,e2]
  have move:∀j:Nat,k<j→j<n→∃s',(bY p (k:Int) (j:Int)).bind (fun y=>(some (Sum.inl ((j:Int),y)):Option ((Int × List Twait) ⊕ (Int × List Twait))))=some (.inl s')∧(∃(k:Nat) (p:List Twait),s'=((k:Int),p)∧k≤q.length∧p.Perm q)∧q.length-s'.1.toNat<q.length-k∧∀t:Int × List Twait,t.2.Perm q→t.2.Perm q:=fun j h1 h2=>by
   obtain⟨p',hs,hp'⟩:=sH (q:=p) (i:=k) (k:=j) (by omega) (by omega)
   rw[hs,oB]
   exact⟨_,E,⟨j,p',E,by omega,hp'.trans hp⟩,by dsimp only;omega,fun t h=>h⟩
  have hk2:(k:Int).toNat=k:=Int.toNat_natCast k
  by_cases h1:n≤2*k+1
  ·rw[if_pos (by rw[Bool.or_eq_true,decide_eq_true_eq];exact .inl (by omega))]
   exact .inr ⟨_,E,hp⟩
  ·rw[if_neg (by rw[Bool.or_eq_true,decide_eq_true_eq,decide_eq_true_eq];omega)]
   have hc1:=qZ (q:=p) (i:=2*k+1) (k:=k) (by omega) (by omega)
   by_cases h2:2*k+2<n
   ·have hc2:=qZ (q:=p) (i:=2*k+2) (k:=2*k+1) (by omega) (by omega)
    have hc3:=qZ (q:=p) (i:=2*k+2) (k:=k) (by omega) (by omega)
    rw[dl (by omega),hc2,oB,oB]
    by_cases hc:(p[2*k+2]'(by omega)).f_at<(p[2*k+1]'(by omega)).f_at
    ·rw[if_pos (decide_eq_true hc),hc3,oB]
     by_cases hd:(p[2*k+2]'(by omega)).f_at<(p[k]'(by omega)).f_at
     ·rw[decide_eq_true hd,if_neg (by simp),hk2]
      exact .inl (move (2*k+2) (by omega) h2)
     ·rw[decide_eq_false hd,if_pos (by rfl)]
      exact .inr ⟨_,E,hp⟩
    ·rw[if_neg (by simp[hc]),hc1,oB]
     by_cases hd:(p[2*k+1]'(by omega)).f_at<(p[k]'(by omega)).f_at
     ·rw[decide_eq_true hd,if_neg (by simp),hk2]
      exact .inl (move (2*k+1) (by omega) (by omega))
     ·rw[decide_eq_false hd,if_pos (by rfl)]
      exact .inr ⟨_,E,hp⟩
   ·rw[cN (by omega),oB,if_neg (by simp),hc1,oB]
    by_cases hd:(p[2*k+1]'(by omega)).f_at<(p[k]'(by omega)).f_at
    ·rw[decide_eq_true hd,if_neg (by simp),hk2]
     exact .inl (move (2*k+1) (by omega) (by omega))
    ·rw[decide_eq_false hd,if_pos (by rfl)]
     exact .inr ⟨_,E,hp⟩) (0,q) ⟨0,q,E,Nat.zero_le _,List.Perm.refl _⟩
 obtain⟨t,ht,hp⟩:=hinv
 unfold db
 rw[ht]
 exact⟨_,_,E,hp⟩
theorem Pop_ok {q:List Twait} (hl:q.length≤1000000000) (h0:0<q.length):∃x l,dm q=some (x,l)∧(x::l).Perm q:=by
 have ew:w64 (((q.length:Nat):Int)-1)=((q.length-1:Nat):Int):=by rw[bV (by omega) (by omega)];omega
 obtain⟨q1,h1,p1⟩:=sH (q:=q) (i:=0) (k:=q.length-1) (by omega) (by omega)
 have l1:=p1.length_eq
 obtain⟨b,q2,h2,p2⟩:=down_ok (q:=q1) (by omega) (n:=q.length-1) (by omega)
 have l2:=p2.length_eq
 unfold dm cq
 rw[oB,ew,show(0:Int)=((0:Nat):Int)from E,h1,oB,show((0:Nat):Int)=0 from E,h2,oB]
 unfold ie
 dsimp only
 have ew2:w64 (((q2.length:Nat):Int)-1)=((q2.length-1:Nat):Int):=by rw[bV (by omega) (by omega)];omega
 rw[ew2,gPo (by omega),gPo (by omega),aU (by omega),oB,Int.toNat_natCast]
 refine⟨_,_,E,?_⟩
 have e:q2.take (q2.length-1)++[q2[q2.length-1]'(by omega)]=q2:=by
  rw[←List.take_succ_eq_append_getElem (by omega),List.take_of_length_le (by omega)]
 refine List.Perm.trans ?_ (p2.trans p1)
 show((q2[q2.length-1]'(by omega))::q2.take (q2.length-1)).Perm q2
 conv=>rhs;rw[←e]
 exact(List.perm_append_comm (l₁:=[q2[q2.length-1]'(by omega)]) (l₂:=q2.take (q2.length-1)))
theorem Push_ok {q:List Twait} (hl:q.length+1≤1000000000) (x:Twait):∃q',da q x=some q'∧q'.Perm (x::q):=by
 unfold da gG cq
 have e:(q++[x]).length=q.length+1:=by simp
 obtain⟨q',h,hp⟩:=up_ok (q:=q++[x]) (by omega) (j:=q.length) (by omega)
 have ew:w64 (((q++[x]).length:Int)-1)=(q.length:Int):=by rw[e,bV (by omega) (by omega)];omega
 rw[gPo hl,oB,oB,ew,h]
 exact⟨_,E,hp.trans (List.perm_append_comm (l₁:=q) (l₂:=[x]))⟩
set_option linter.unusedSimpArgs false
def lb0:Tl:=Tl.mk 0 (Ts.mk 0 0) (TLeg.mk 0 0) false
def lab (m:List (Ts × Tl)) (s:Ts):Option Tl:=if bt m s=true then some (aC lb0 m s)else none
theorem gF (k:Ts) (v:Tl) (m:List (Ts × Tl)) (s:Ts):lab ((k,v)::m) s=if k=s then some v else lab m s:=by
 unfold lab
 rw[eB,fZ]
 by_cases h:k=s
 ·rw[if_pos h,if_pos h,if_pos h,if_pos E]
 ·rw[if_neg h,if_neg h,if_neg h]
theorem mS {m:List (Ts × Tl)} {s:Ts} {l:Tl} (h:lab m s=some l):bt m s=true∧aC lb0 m s=l:=by
 unfold lab at h
 by_cases hh:bt m s=true
 ·rw[if_pos hh]at h;exact⟨hh,Option.some.inj h⟩
 ·rw[if_neg hh]at h;cases h
theorem tu {m:List (Ts × Tl)} {s:Ts} (h:lab m s=none):bt m s=false:=by
 unfold lab at h
 by_cases hh:bt m s=true
 ·rw[if_pos hh]at h;cases h
 ·exact Bool.eq_false_iff.2 hh
def arr (t:TT) (h:Int):Int:=if dM t.fK h+t.fLong≤16384 then dM t.fK h+t.fLong else -1
theorem pk {t:TT} {h:Int} (h1:0≤arr t h):dM t.fK h+t.fLong≤16384∧arr t h=dM t.fK h+t.fLong:=by
 unfold arr at h1 ⊢
 by_cases hc:dM t.fK h+t.fLong≤16384
 ·rw[if_pos hc];exact⟨hc,E⟩
 ·rw[if_neg hc]at h1;omega
structure LOk (r:TR) (f h:Int) (m:List (Ts × Tl)) (s:Ts) (l:Tl):Prop where
 at0:h≤l.f_at
 at1:l.f_at≤16384
 place:0≤s.f_place∧s.f_place<r.fPlaces
 toll:0≤s.f_toll∧s.f_toll≤60
 src:(l.f_begin=true∧s=⟨f,0⟩∧l.f_at=h)∨(l.f_begin=false∧∃lp t,lab m l.f_from=some lp∧t∈r.fTracks∧t.fFrom=l.f_from.f_place∧s=⟨t.fTo,l.f_from.f_toll+t.fToll⟩∧l.f_leg.fTrack=t.fID∧lp.f_at≤l.f_leg.fHour∧dM t.fK l.f_leg.fHour=l.f_leg.fHour∧l.f_at=l.f_leg.fHour+t.fLong)
def Relax (m:List (Ts × Tl)) (s:Ts) (l:Tl) (t:TT):Prop:=s.f_toll+t.fToll≤60→0≤arr t l.f_at→∃l',lab m ⟨t.fTo,s.f_toll+t.fToll⟩=some l'∧l'.f_at≤arr t l.f_at
def sc (m:List (Ts × Tl)) (p c:Nat):Int:=match lab m ⟨(p:Int),(c:Int)⟩with
 | some l=>l.f_at
 | none=>16385
def pot (m:List (Ts × Tl)):Int:=sm 16 fun p=>sm 61 fun c=>sc m p c
structure LInv (r:TR) (f h:Int) (D:Ts→List TT) (q:List Twait) (m:List (Ts × Tl)):Prop where
 beg:lab m ⟨f,0⟩=some ⟨h,⟨0,0⟩,⟨0,0⟩,true⟩
 lok:∀s l,lab m s=some l→LOk r f h m s l
 que:∀w∈q,∃l,lab m w.f_stop=some l∧l.f_at≤w.f_at
 rel:∀s l,lab m s=some l→(Twait.mk l.f_at s)∈q∨∀t∈D s,Relax m s l t
 szm:(m.length:Int)+pot m≤16000000
 szq:(q.length:Int)+pot m≤16000000
theorem sm_ub {f:Nat→Int} {B:Int}:∀{n:Nat},(∀i,i<n→f i≤B)→sm n f≤(n:Int)*B
 | 0,_=>by show(0:Int)≤_;omega
 | n+1,h=>by
  have ih:=sm_ub (n:=n) fun i hi=>h i (by omega)
  have h1:=h n (by omega)
  show sm n f+f n≤_
  have e:((n+1:Nat):Int)*B=(n:Int)*B+B:=by rw[Int.natCast_add,Int.add_mul];simp
  omega
theorem pval_hi {m:List (Ts × Tl)} (h:∀s l,lab m s=some l→l.f_at≤16384) (p c:Nat):sc m p c≤16385:=by
 unfold sc
 cases e:lab m ⟨(p:Int),(c:Int)⟩with
 | none=>exact Int.le_refl _
 | some l=>have:=h _ _ e;dsimp only;omega
theorem pot_hi {m:List (Ts × Tl)} (h:∀s l,lab m s=some l→l.f_at≤16384):pot m≤15991760:=by
 have h1:=sm_ub (n:=16) (f:=fun p=>sm 61 fun c=>sc m p c) (B:=999485) fun p _=>by
  have:=sm_ub (n:=61) (f:=fun c=>sc m p c) (B:=16385) fun c _=>pval_hi h p c
  omega
 unfold pot
 omega
theorem pot_lo {m:List (Ts × Tl)} (h:∀s l,lab m s=some l→0≤l.f_at):0≤pot m:=mF fun p _=>mF fun c _=>by
 unfold sc
 cases e:lab m ⟨(p:Int),(c:Int)⟩with
 | none=>dsimp only;omega
 | some l=>have:=h _ _ e;dsimp only;omega
theorem LInv.pot0 {r:TR} {f h:Int} {D:Ts→List TT} {q:List Twait} {m:List (Ts × Tl)} (hI:LInv r f h D q m) (hh:0≤h):0≤pot m:=pot_lo fun s l e=>Int.le_trans hh (hI.lok s l e).at0
theorem pot_put {m:List (Ts × Tl)} {k:Ts} {v:Tl} (hp:0≤k.f_place∧k.f_place<16) (ht:0≤k.f_toll∧k.f_toll≤60) (hv:v.f_at≤16384) (h0:0≤v.f_at) (hlt:∀l,lab m k=some l→v.f_at<l.f_at):pot ((k,v)::m)+1≤pot m:=by
 obtain⟨p,ep⟩:∃p:Nat,k.f_place=(p:Int):=⟨k.f_place.toNat,by omega⟩
 obtain⟨c,ec⟩:∃c:Nat,k.f_toll=(c:Int):=⟨k.f_toll.toNat,by omega⟩
 have ek:k=⟨(p:Int),(c:Int)⟩:=by cases k;simp only at ep ec;rw[ep,ec]
 have hle:∀i j,sc ((k,v)::m) i j≤sc m i j:=fun i j=>by
  unfold sc
  rw[gF]
  by_cases e:k=⟨(i:Int),(j:Int)⟩
  ·rw[if_pos e]
   cases el:lab m ⟨(i:Int),(j:Int)⟩with
   | none=>dsimp only;omega
   | some l=>have:=hlt l (by rw[e];exact el);dsimp only;omega
  ·rw[if_neg e];exact Int.le_refl _
 have hlt2:sc ((k,v)::m) p c<sc m p c:=by
  unfold sc
  rw[gF,if_pos ek]
  cases el:lab m ⟨(p:Int),(c:Int)⟩with
  | none=>dsimp only;omega
  | some l=>have:=hlt l (by rw[ek];exact el);dsimp only;omega
 have h1:=sm_lt (n:=61) (k:=c) (by omega) (f:=fun j=>sc ((k,v)::m) p j) (g:=fun j=>sc m p j) (fun j _=>hle p j) hlt2
 have h2:=sm_lt (n:=16) (k:=p) (by omega) (f:=fun i=>sm 61 fun j=>sc ((k,v)::m) i j) (g:=fun i=>sm 61 fun j=>sc m i j) (fun i _=>pV fun j _=>hle i j) h1
 unfold pot
 omega
theorem LInv.put {r:TR} (hR:GoodR r) {f h:Int} (hh:0≤h) {D:Ts→List TT} {q q':List Twait} {m:List (Ts × Tl)} (hI:LInv r f h D q m) {k:Ts} {v:Tl} (hv:LOk r f h m k v) (hb:v.f_begin=false) (hne:v.f_from≠k) (hlt:∀l,lab m k=some l→v.f_at<l.f_at) (hq:q'.Perm (⟨v.f_at,k⟩::q)):LInv r f h D q' ((k,v)::m):=by
 have hk:k≠⟨f,0⟩:=fun e=>by
  have h1:=hlt _ (by rw[e];exact hI.beg)
  have h2:=hv.at0
  dsimp only at h1
  omega
 have hp:=pot_put (m:=m) (k:=k) (v:=v) (by have:=hv.place;have:=hR.places;omega) hv.toll hv.at1 (by have:=hv.at0;omega) hlt
 have low:∀s l,lab m s=some l→∃l',lab ((k,v)::m) s=some l'∧l'.f_at≤l.f_at:=fun s l e=>by
  rw[gF]
  by_cases e2:k=s
  ·rw[if_pos e2]
   have:=hlt l (by rw[e2];exact e)
   exact⟨v,E,by omega⟩
  ·rw[if_neg e2];exact⟨l,e,Int.le_refl _⟩
 refine⟨by rw[gF,if_neg hk];exact hI.beg,fun s l e=>?_,fun w hw=>?_,fun s l e=>?_,?_,?_⟩
 ·rw[gF]at e
  have key:∀s l,LOk r f h m s l→(l.f_begin=false→l.f_from≠k∨True)→LOk r f h ((k,v)::m) s l:=fun s l ho _=>by
   refine⟨ho.at0,ho.at1,ho.place,ho.toll,?_⟩
   rcases ho.src with hs|⟨hs,lp,t,h1,h2,h3,h4,h5,h6,h7,h8⟩
   ·exact .inl hs
   ·obtain⟨l',e1,e2⟩:=low _ _ h1
    exact .inr ⟨hs,l',t,e1,h2,h3,h4,h5,by omega,h7,h8⟩
  by_cases e2:k=s
  ·rw[if_pos e2]at e
   cases e
   rw[←e2]
   exact key k v hv fun _=>.inr trivial
  ·rw[if_neg e2]at e
   exact key s l (hI.lok s l e) fun _=>.inr trivial
 ·rcases List.mem_cons.1 (hq.mem_iff.1 hw)with rfl|hw
  ·exact⟨v,by rw[gF,if_pos E],Int.le_refl _⟩
  ·obtain⟨l,e1,e2⟩:=hI.que w hw
   obtain⟨l',e3,e4⟩:=low _ _ e1
   exact⟨l',e3,by omega⟩
 ·rw[gF]at e
  by_cases e2:k=s
  ·rw[if_pos e2]at e
   cases e
   subst e2
   exact .inl (hq.mem_iff.2 List.mem_cons_self)
  ·rw[if_neg e2]at e
   rcases hI.rel s l e with hw|hr
   ·exact .inl (hq.mem_iff.2 (List.mem_cons_of_mem _ hw))
   ·refine .inr fun t ht h1 h2=>?_
    obtain⟨l',e3,e4⟩:=hr t ht h1 h2
    obtain⟨l2,e5,e6⟩:=low _ _ e3
    exact⟨l2,e5,by omega⟩
 ·have:=hI.szm
  rw[List.length_cons];omega
 ·have:=hI.szq
  rw[hq.length_eq,List.length_cons];omega
theorem r2_ok {r:TR} (hR:GoodR r) {x:Twait × List Twait} (ha:0≤x.1.f_at∧x.1.f_at≤16384) (hc:0≤x.1.f_stop.f_toll∧x.1.f_stop.f_toll≤60) {t:TT} (ht:t∈r.fTracks) {m:List (Ts × Tl)} {q:List Twait} (hm:m.length<1000000000) (hq:q.length+1≤1000000000) :
  (cM x (m,q) t=some (.inl (m,q))∧(x.1.f_stop.f_toll+t.fToll≤60→0≤arr t x.1.f_at→∃l',lab m ⟨t.fTo,x.1.f_stop.f_toll+t.fToll⟩=some l'∧l'.f_at≤arr t x.1.f_at)) ∨
  (x.1.f_stop.f_toll+t.fToll≤60∧0≤arr t x.1.f_at∧(∀l',lab m ⟨t.fTo,x.1.f_stop.f_toll+t.fToll⟩=some l'→arr t x.1.f_at<l'.f_at)∧∃q',cM x (m,q) t=some (.inl ((⟨t.fTo,x.1.f_stop.f_toll+t.fToll⟩,⟨arr t x.1.f_at,x.1.f_stop,⟨t.fID,dM t.fK x.1.f_at⟩,false⟩)::m,q'))∧q'.Perm (⟨arr t x.1.f_at,⟨t.fTo,x.1.f_stop.f_toll+t.fToll⟩⟩::q)):=by
 have hT:=hR.trk t ht
 have h1:=hT.long
 have h2:=hT.toll
 have h3:=iM t.fK x.1.f_at
 have h4:=rt hT.spans ha.2
 have h5:=hT.to
 have hp:=hR.places
 have ew:w64 (x.1.f_stop.f_toll+t.fToll)=x.1.f_stop.f_toll+t.fToll:=bV (by omega) (by omega)
 have ew2:w64 (dM t.fK x.1.f_at+t.fLong)=dM t.fK x.1.f_at+t.fLong:=bV (by omega) (by omega)
 have hokk:aW ⟨t.fTo,x.1.f_stop.f_toll+t.fToll⟩=true:=by
  unfold aW eI
  simp only[Bool.and_eq_true,decide_eq_true_eq]
  exact⟨⟨by omega,by omega⟩,by omega,by omega⟩
 unfold cM
 rw[rr hT.spans (by have:=hT.few;omega),oB]
 dsimp only
 rw[ew,ew2,nm,oB,orB,oB]
 by_cases hgo:x.1.f_stop.f_toll+t.fToll≤60∧dM t.fK x.1.f_at+t.fLong≤16384
 ·have ea:arr t x.1.f_at=dM t.fK x.1.f_at+t.fLong:=if_pos hgo.2
  have c1:((!nl (dM t.fK x.1.f_at)||decide (60<x.1.f_stop.f_toll+t.fToll)) || !decide (0≤dM t.fK x.1.f_at+t.fLong∧dM t.fK x.1.f_at+t.fLong≤16384))=false:=by
   unfold nl
   simp only[Bool.or_eq_false_iff,Bool.not_eq_false',decide_eq_true_eq,decide_eq_false_iff_not]
   omega
  rw[c1,if_neg (by simp),gPo hokk,gPo ⟨hokk,hm⟩,←ea]
  obtain⟨q',hpu,hpp⟩:=Push_ok (q:=q) hq ⟨arr t x.1.f_at,⟨t.fTo,x.1.f_stop.f_toll+t.fToll⟩⟩
  rw[hpu,oB]
  cases el:lab m ⟨t.fTo,x.1.f_stop.f_toll+t.fToll⟩with
  | none =>
   rw[tu el,if_neg (by simp)]
   exact .inr ⟨hgo.1,by omega,fun l' e=>(by cases e),q',E,hpp⟩
  | some l =>
   obtain⟨e1,e2⟩:=mS el
   rw[e1,show(Tl.mk 0 (Ts.mk 0 0) (TLeg.mk 0 0) false)=lb0 from E,e2,Bool.true_and]
   by_cases hle:l.f_at≤arr t x.1.f_at
   ·rw[if_pos (decide_eq_true hle)]
    exact .inl ⟨E,fun _ _=>⟨l,E,hle⟩⟩
   ·rw[if_neg (by simpa using hle)]
    exact .inr ⟨hgo.1,by omega,fun l' e=>by cases e;omega,q',E,hpp⟩
 ·have c1:((!nl (dM t.fK x.1.f_at)||decide (60<x.1.f_stop.f_toll+t.fToll)) || !decide (0≤dM t.fK x.1.f_at+t.fLong∧dM t.fK x.1.f_at+t.fLong≤16384))=true:=by
   unfold nl
   simp only[Bool.or_eq_true,Bool.not_eq_true',decide_eq_true_eq,decide_eq_false_iff_not]
   omega
  rw[c1,if_pos E]
  refine .inl ⟨E,fun h6 h7=>?_⟩
  have:=(pk h7).1
  omega
theorem rM {S T α:Type} {fn:S→α→Option (S ⊕ T)} (J:List α→S→Prop):∀(l done:List α) (s:S),J done s→(∀done x s,x∈l→J done s→∃s',fn s x=some (.inl s')∧J (done++[x]) s')→∃s',iL fn l s=some (.inl s')∧J (done++l) s'
 | [],done,s,h,_=>⟨s,E,by rw[List.append_nil];exact h⟩
 | x::l,done,s,h,hs=>by
  obtain⟨s',e,h'⟩:=hs done x s List.mem_cons_self h
  obtain⟨s2,e2,h2⟩:=rM J l (done++[x]) s' h' fun d z u hz hu=>hs d z u (List.mem_cons_of_mem _ hz) hu
  refine⟨s2,?_,by rw[List.append_assoc]at h2;exact h2⟩
  show(match fn s x with|none=>none|some (.inl s')=>iL fn l s' | some (.inr t)=>some (.inr t))=_
  rw[e]
  exact e2
def lS (r:TR) (s:Ts):List TT:=r.fTracks.filter fun z=>z.fFrom==s.f_place
theorem rF {r:TR} (hR:GoodR r) {f h:Int} (hh:0≤h) {q:List Twait} {m:List (Ts × Tl)} (hI:LInv r f h (lS r) q m) (h0:0<q.length):∃q' m',eK r (q,m)=some (.inl (q',m'))∧LInv r f h (lS r) q' m'∧2*pot m'+(q'.length:Int)<2*pot m+(q.length:Int):=by
 have hp0:=hI.pot0 hh
 have hzq:=hI.szq
 obtain⟨x,rest,hpop,hperm⟩:=Pop_ok (q:=q) (by omega) h0
 have hlen:=hperm.length_eq
 rw[List.length_cons]at hlen
 obtain⟨l0,hl0,hle0⟩:=hI.que x (hperm.mem_iff.1 List.mem_cons_self)
 have hlo:=hI.lok _ _ hl0
 obtain⟨e1,e2⟩:=mS hl0
 have hpl:=hlo.place
 have htl:=hlo.toll
 have hpr:=hR.places
 have ha0:=hlo.at0
 have ha1:=hlo.at1
 have hokk:aW x.f_stop=true:=by
  unfold aW eI
  simp only[Bool.and_eq_true,decide_eq_true_eq]
  exact⟨⟨by omega,by omega⟩,by omega,by omega⟩
 unfold eK cq
 dsimp only
 rw[oB,dl (by omega),hpop,oB]
 dsimp only
 rw[gPo hokk,show(Tl.mk 0 (Ts.mk 0 0) (TLeg.mk 0 0) false)=lb0 from E,e2]
 by_cases hlt:l0.f_at<x.f_at
 ·rw[if_pos (decide_eq_true hlt)]
  refine⟨rest,m,E,⟨hI.beg,hI.lok,fun w hw=>hI.que w (hperm.mem_iff.1 (List.mem_cons_of_mem _ hw)),fun s l e=>?_,hI.szm,by omega⟩,by omega⟩
  rcases hI.rel s l e with hw|hr
  ·rcases List.mem_cons.1 (hperm.mem_iff.2 hw)with hx|hw
   ·rw[←hx]at hl0 hlt
    dsimp only at hl0 hlt
    rw[e]at hl0;cases hl0
    omega
   ·exact .inl hw
  ·exact .inr hr
 ·rw[if_neg (by simpa using hlt)]
  have hat:x.f_at=l0.f_at:=by omega
  unfold kG
  rw[oB,gPo (show gq (r,x.f_stop.f_place) by show r.fTracks.length≤1000;have:=hR.len;omega)]
  have hstart:LInv r f h (fun s=>if s=x.f_stop then[]else lS r s) rest m:=⟨hI.beg,hI.lok,fun w hw=>hI.que w (hperm.mem_iff.1 (List.mem_cons_of_mem _ hw)),fun s l e=>by
   by_cases hs:s=x.f_stop
   ·refine .inr fun t ht=>?_
    rw[if_pos hs]at ht;cases ht
   ·rw[if_neg hs]
    rcases hI.rel s l e with hw|hr
    ·rcases List.mem_cons.1 (hperm.mem_iff.2 hw)with hx|hw
     ·rw[←hx]at hs;exact absurd E hs
     ·exact .inl hw
    ·exact .inr hr,hI.szm,by omega⟩
  obtain⟨⟨m',q'⟩,hf,hJ⟩:=rM (fn:=cM (x,rest)) (fun done (s:List (Ts × Tl) × List Twait)=>LInv r f h (fun z=>if z=x.f_stop then done else lS r z) s.2 s.1∧lab s.1 x.f_stop=some l0∧2*pot s.1+(s.2.length:Int)≤2*pot m+(rest.length:Int)) (oH (r,x.f_stop.f_place)) [] (m,rest) ⟨hstart,hl0,Int.le_refl _⟩ (fun done t s hts hs=>by
   obtain⟨m1,q1⟩:=s
   obtain⟨j1,j2,j3⟩:=hs
   dsimp only at j1 j2 j3
   unfold oH at hts
   obtain⟨htr,hfr⟩:=List.mem_filter.1 hts
   have hfr2:t.fFrom=x.f_stop.f_place:=by simpa using hfr
   have hT:=hR.trk t htr
   have hpt:=hT.to
   have hne:=hT.ne
   have htt:=hT.toll
   have hp1:=j1.pot0 hh
   have hz1:=j1.szm
   have hz2:=j1.szq
   have hkne:(⟨t.fTo,x.f_stop.f_toll+t.fToll⟩:Ts)≠x.f_stop:=fun e=>by
    have:=congrArg Ts.f_place e
    dsimp only at this
    omega
   rcases r2_ok hR (x:=(x,rest)) (by dsimp only;omega) (by dsimp only;omega) htr (m:=m1) (q:=q1) (by omega) (by omega)with⟨h1,h2⟩|⟨h1,h2,h3,q2,h4,h5⟩
   ·dsimp only at h2
    refine⟨_,h1,⟨j1.beg,j1.lok,j1.que,fun s l e=>?_,j1.szm,j1.szq⟩,j2,j3⟩
    rcases j1.rel s l e with hw|hr
    ·exact .inl hw
    ·refine .inr fun t' ht'=>?_
     by_cases hs:s=x.f_stop
     ·rw[if_pos hs]at ht' hr
      rcases List.mem_append.1 ht' with h6|h6
      ·exact hr t' h6
      ·rw[List.mem_singleton.1 h6]
       subst hs
       rw[j2]at e;cases e
       intro h7 h8
       rw[hat]at h2
       exact h2 h7 h8
     ·rw[if_neg hs]at ht' hr
      exact hr t' ht'
   ·dsimp only at h1 h2 h3 h4 h5
    obtain⟨ea1,ea2⟩:=pk h2
    have hen:=iM t.fK x.f_at
    have hidem:=mu x.f_at hT.spans
    have hlg:=hT.long
    have hput:=j1.put hR hh (k:=⟨t.fTo,x.f_stop.f_toll+t.fToll⟩) (v:=⟨arr t x.f_at,x.f_stop,⟨t.fID,dM t.fK x.f_at⟩,false⟩) ⟨by dsimp only;omega,by dsimp only;omega,⟨hpt.1,by dsimp only;omega⟩,by dsimp only;omega,.inr ⟨E,l0,t,j2,htr,hfr2,E,E,by dsimp only;omega,hidem,ea2⟩⟩ E (fun e=>hkne e.symm) h3 h5
    have hpp:=pot_put (m:=m1) (k:=⟨t.fTo,x.f_stop.f_toll+t.fToll⟩) (v:=⟨arr t x.f_at,x.f_stop,⟨t.fID,dM t.fK x.f_at⟩,false⟩) ⟨hpt.1,by dsimp only;omega⟩ (by dsimp only;omega) (by dsimp only;omega) (by dsimp only;omega) h3
    have hl5:=h5.length_eq
    rw[List.length_cons]at hl5
    refine⟨_,h4,⟨hput.beg,hput.lok,hput.que,fun s l e=>?_,hput.szm,hput.szq⟩,by dsimp only;rw[gF,if_neg hkne];exact j2,by dsimp only;omega⟩
    rcases hput.rel s l e with hw|hr
    ·exact .inl hw
    ·refine .inr fun t' ht'=>?_
     by_cases hs:s=x.f_stop
     ·rw[if_pos hs]at ht' hr
      rcases List.mem_append.1 ht' with h6|h6
      ·exact hr t' h6
      ·rw[List.mem_singleton.1 h6]
       subst hs
       rw[gF,if_neg hkne,j2]at e;cases e
       intro h7 h8
       refine⟨_,by rw[gF,if_pos E],?_⟩
       dsimp only
       rw[hat]
       exact Int.le_refl _
     ·rw[if_neg hs]at ht' hr
      exact hr t' ht')
  rw[hf]
  obtain⟨j1,j2,j3⟩:=hJ
  dsimp only at j1 j2 j3
  refine⟨q',m',E,⟨j1.beg,j1.lok,j1.que,fun s l e=>?_,j1.szm,j1.szq⟩,by omega⟩
  rcases j1.rel s l e with hw|hr
  ·exact .inl hw
  ·refine .inr ?_
   by_cases hs:s=x.f_stop
   ·rw[if_pos hs]at hr
    rw[hs]
    rw[hs]at hr
    exact hr
   ·rw[if_neg hs]at hr
    exact hr
theorem labels_ok {r:TR} (hR:GoodR r) {f h:Int} (hf:0≤f∧f<r.fPlaces) (hh:0≤h∧h≤16384):∃m,fe r f h=some m∧LInv r f h (lS r) [] m:=by
 have hpr:=hR.places
 have hokk:aW ⟨f,0⟩=true:=by
  unfold aW eI
  simp only[Bool.and_eq_true,decide_eq_true_eq]
  exact⟨⟨by omega,by omega⟩,by omega,by omega⟩
 have hlab:∀s,lab [(⟨f,0⟩,⟨h,⟨0,0⟩,⟨0,0⟩,true⟩)] s=if(⟨f,0⟩:Ts)=s then some ⟨h,⟨0,0⟩,⟨0,0⟩,true⟩else none:=fun s=>gF _ _ [] s
 have hst:LInv r f h (lS r) [⟨h,⟨f,0⟩⟩] [(⟨f,0⟩,⟨h,⟨0,0⟩,⟨0,0⟩,true⟩)]:=by
  have hall:∀s l,lab [((⟨f,0⟩:Ts),(⟨h,⟨0,0⟩,⟨0,0⟩,true⟩:Tl))] s=some l→s=⟨f,0⟩∧l=⟨h,⟨0,0⟩,⟨0,0⟩,true⟩:=fun s l e=>by
   rw[hlab]at e
   by_cases e2:(⟨f,0⟩:Ts)=s
   ·rw[if_pos e2]at e;exact⟨e2.symm,(Option.some.inj e).symm⟩
   ·rw[if_neg e2]at e;cases e
  have hpot:=pot_hi (m:=[((⟨f,0⟩:Ts),(⟨h,⟨0,0⟩,⟨0,0⟩,true⟩:Tl))]) fun s l e=>by rw[(hall s l e).2];exact hh.2
  refine⟨by rw[hlab,if_pos E],fun s l e=>?_,fun w hw=>?_,fun s l e=>?_,by simp;omega,by simp;omega⟩
  ·obtain⟨rfl,rfl⟩:=hall s l e
   exact⟨Int.le_refl _,hh.2,hf,⟨Int.le_refl _,by dsimp only;omega⟩,.inl ⟨E,E,E⟩⟩
  ·rw[List.mem_singleton.1 hw]
   exact⟨_,by rw[hlab,if_pos E],Int.le_refl _⟩
  ·obtain⟨rfl,rfl⟩:=hall s l e
   exact .inl List.mem_cons_self
 have hinv:=bf (body:=eK r) (fun s=>LInv r f h (lS r) s.1 s.2) (fun _ t=>LInv r f h (lS r) [] t.2) (fun s=>(2*pot s.2+(s.1.length:Int)).toNat) (by
  rintro⟨q,m⟩ hI
  dsimp only at hI
  rcases Nat.eq_zero_or_pos q.length with h0|h0
  ·have hq:q=[]:=List.eq_nil_of_length_eq_zero h0
   subst hq
   refine .inr ⟨([],m),?_,hI⟩
   unfold eK cq
   rfl
  ·obtain⟨q',m',h1,h2,h3⟩:=rF hR hh.1 hI h0
   have hp:=h2.pot0 hh.1
   exact .inl ⟨_,h1,h2,by dsimp only;omega,fun t h=>h⟩) ([⟨h,⟨f,0⟩⟩],[(⟨f,0⟩,⟨h,⟨0,0⟩,⟨0,0⟩,true⟩)]) hst
 obtain⟨t,ht,hI⟩:=hinv
 unfold fe
 rw[gPo ⟨hokk,by simp⟩,ht]
 exact⟨t.2,E,hI⟩
set_option linter.unusedSimpArgs false
structure PlanOf (y:TY) (h:Nat→Option Nat) (q:Nat→Int) (p:TPlan):Prop where
 worth:p.fW=wor y.fB.length (wo y) h
 len:p.fG.length=y.fR.length
 got:∀o k,h k=some o→p.fG.getD o 0=(bat y k).fID
 not:∀o,¬Dom h o→p.fG.getD o 0=0
 plen:p.fPrices.length=y.fB.length
 price:∀k,k<y.fB.length→p.fPrices.getD k 0=q k
set_option linter.unusedSimpArgs false
def OkH (nB nO:Nat) (held:List Int):Prop:=held.length=nB∧∀k,k<nB→rdL held (k:Int)<0∨∃o:Nat,rdL held (k:Int)=(o:Int)∧o<nO
theorem oW {α:Type} [Inhabited α] (l:List α) {k:Nat} (hk:k<l.length) (v:α) (j:Nat):rdL (l.set k v) (j:Int)=if j=k then v else rdL l (j:Int):=by
 unfold rdL
 rw[Int.toNat_natCast,List.getD_eq_getElem?_getD,List.getD_eq_getElem?_getD]
 by_cases h:j=k
 ·subst h;rw[if_pos E,List.getElem?_set_self hk];rfl
 ·rw[if_neg h,List.getElem?_set_ne (fun e=>h e.symm)]
theorem OkH.set {nB nO:Nat} {held:List Int} (h:OkH nB nO held) {k o:Nat} (hk:k<nB) (ho:o<nO):OkH nB nO (held.set k (o:Int)):=by
 refine⟨by rw[List.length_set];exact h.1,fun j hj=>?_⟩
 rw[oW held (by rw[h.1];exact hk)]
 by_cases e:j=k
 ·rw[if_pos e];exact .inr ⟨o,E,ho⟩
 ·rw[if_neg e];exact h.2 j hj
structure Nums (n:Nat) (l:List Int):Prop where
 nat:∀x∈l,∃k:Nat,x=(k:Int)∧k<n
 once:l.Nodup
set_option linter.unusedSimpArgs false
inductive Tr (r:TR) (f h:Int):Int→Int→Int→Prop
 | start:Tr r f h f 0 h
 | step {p c a:Int} (t:TT) (n:Int):Tr r f h p c a→t∈r.fTracks→t.fFrom=p→a≤n→dM t.fK n=n→Tr r f h t.fTo (c+t.fToll) (n+t.fLong)
theorem Tr.low {r:TR} (hR:GoodR r) {f h p c a:Int} (ht:Tr r f h p c a):h≤a∧0≤c:=by
 induction ht with
 | start=>exact⟨Int.le_refl _,Int.le_refl _⟩
 | step t n _ hm _ hn _ ih =>
  have h1:=(hR.trk t hm).long
  have h2:=(hR.trk t hm).toll
  omega
theorem LInv.reach {r:TR} (hR:GoodR r) {f h:Int} {m:List (Ts × Tl)} (hh:0≤h) (hI:LInv r f h (lS r) [] m) {p c a:Int} (ht:Tr r f h p c a):c≤60→a≤16384→∃l,lab m ⟨p,c⟩=some l∧l.f_at≤a:=by
 induction ht with
 | start=>exact fun _ _=>⟨_,hI.beg,Int.le_refl _⟩
 | @step p c a t n hp hm hf hn he ih =>
  intro hc ha
  have hT:=hR.trk t hm
  have h1:=hT.long
  have h2:=hT.toll
  obtain⟨l,hl,hle⟩:=ih (by omega) (by omega)
  rcases hI.rel _ _ hl with hw|hr
  ·cases hw
  ·have h3:=mN t.fK (Int.le_trans hle hn)
   have e:arr t l.f_at=dM t.fK l.f_at+t.fLong:=if_pos (by omega)
   have h4:=iM t.fK l.f_at
   have h5:=(hI.lok _ _ hl).at0
   obtain⟨l',h6,h7⟩:=hr t (List.mem_filter.2 ⟨hm,by rw[beq_iff_eq];exact hf⟩) hc (by omega)
   exact⟨l',h6,by omega⟩
theorem LInv.attain {r:TR} (hR:GoodR r) {f h:Int} {q:List Twait} {D:Ts→List TT} {m:List (Ts × Tl)} (hI:LInv r f h D q m):∀(n:Nat) (s:Ts) (l:Tl),l.f_at-h≤(n:Int)→lab m s=some l→Tr r f h s.f_place s.f_toll l.f_at:=by
 intro n
 induction n with
 | zero =>
  intro s l hn hl
  rcases (hI.lok s l hl).src with⟨_,e,e2⟩|⟨_,lp,t,h1,h2,h3,h4,h5,h6,h7,h8⟩
  ·rw[e,e2];exact .start
  ·have:=(hI.lok _ _ h1).at0
   have:=(hR.trk t h2).long
   omega
 | succ n ih =>
  intro s l hn hl
  rcases (hI.lok s l hl).src with⟨_,e,e2⟩|⟨_,lp,t,h1,h2,h3,h4,h5,h6,h7,h8⟩
  ·rw[e,e2];exact .start
  ·have hlg:=(hR.trk t h2).long
   have h9:=ih l.f_from lp (by omega) h1
   rw[h4,h8]
   exact .step t _ h9 h2 h3 h6 h7
def oe (r:TR):List TLeg→Int→Int→Int→Option (Int × Int × Int)
 | [],p,h,c=>some (p,h,c)
 | l::ls,p,h,c=>if 0≤ee r l.fTrack∧(rdL r.fTracks (ee r l.fTrack)).fFrom=p∧h≤l.fHour∧(0≤l.fHour∧l.fHour≤16384)∧dM (rdL r.fTracks (ee r l.fTrack)).fK l.fHour=l.fHour then oe r ls (rdL r.fTracks (ee r l.fTrack)).fTo (l.fHour+(rdL r.fTracks (ee r l.fTrack)).fLong) (c+(rdL r.fTracks (ee r l.fTrack)).fToll)else none
theorem ki (r:TR) (l:TLeg) (ls:List TLeg) (p h c:Int):oe r (l::ls) p h c=if 0≤ee r l.fTrack∧(rdL r.fTracks (ee r l.fTrack)).fFrom=p∧h≤l.fHour∧(0≤l.fHour∧l.fHour≤16384)∧dM (rdL r.fTracks (ee r l.fTrack)).fK l.fHour=l.fHour then oe r ls (rdL r.fTracks (ee r l.fTrack)).fTo (l.fHour+(rdL r.fTracks (ee r l.fTrack)).fLong) (c+(rdL r.fTracks (ee r l.fTrack)).fToll)else none:=rfl
theorem tp (r:TR):∀(a b:List TLeg) (p h c:Int),oe r (a++b) p h c=(oe r a p h c).bind fun x=>oe r b x.1 x.2.1 x.2.2
 | [],b,p,h,c=>rfl
 | l::a,b,p,h,c=>by
  rw[List.cons_append,ki,ki]
  split
  ·exact tp r a b _ _ _
  ·rfl
theorem sx {r:TR} {f h0:Int}:∀(ls:List TLeg) {p h c:Int} {x:Int × Int × Int},Tr r f h0 p c h→oe r ls p h c=some x→Tr r f h0 x.1 x.2.2 x.2.1
 | [],p,h,c,x,ht,e=>by cases e;exact ht
 | l::ls,p,h,c,x,ht,e=>by
  rw[ki]at e
  by_cases hc:0≤ee r l.fTrack∧(rdL r.fTracks (ee r l.fTrack)).fFrom=p∧h≤l.fHour∧(0≤l.fHour∧l.fHour≤16384)∧dM (rdL r.fTracks (ee r l.fTrack)).fK l.fHour=l.fHour
  ·rw[if_pos hc]at e
   exact sx ls (.step _ l.fHour ht (qQ (q:=fun n:TT=>n.fID==l.fTrack) hc.1) hc.2.1 hc.2.2.1 hc.2.2.2.2) e
  ·rw[if_neg hc]at e;cases e
theorem tt (r:TR) (id:Int):ee r id<(r.fTracks.length:Int):=sE _ _
theorem trackI_at {r:TR} (hR:GoodR r) {t:TT} (ht:t∈r.fTracks):0≤ee r t.fID∧rdL r.fTracks (ee r t.fID)=t:=by
 obtain⟨k,hk,rfl⟩:=List.mem_iff_getElem.1 ht
 have:=sB hR.once hk
 unfold ee
 rw[this,aU hk]
 exact⟨by omega,E⟩
theorem Reverse_eq {L:List TLeg} (hl:L.length≤1000000):cj L=some L.reverse:=by
 unfold cj
 have e0:w64 (((L.length:Nat):Int)-1)=(L.length:Int)-1:=bV (by omega) (by omega)
 have key:∃u,aJ (bL L) (0,(L.length:Int)-1,L)=some u∧u.2.2.length=L.length∧∀p:Nat,p<L.length→rdL u.2.2 (p:Int)=rdL L ((L.length-1-p:Nat):Int):=by
  refine bf (body:=bL L) (fun s=>∃i:Nat,s.1=(i:Int)∧s.2.1=(L.length:Int)-1-(i:Int)∧2*i≤L.length∧s.2.2.length=L.length∧∀p:Nat,p<L.length→rdL s.2.2 (p:Int)=if p<i∨L.length<p+i+1 then rdL L ((L.length-1-p:Nat):Int)else rdL L (p:Int)) (fun s u=>u.2.2.length=L.length∧∀p:Nat,p<L.length→rdL u.2.2 (p:Int)=rdL L ((L.length-1-p:Nat):Int)) (fun s=>((L.length:Int)-s.1).toNat) (fun s hs=>?_) _ ⟨0,E,by dsimp only;omega,by omega,E,fun p hp=>by rw[if_neg (by omega)]⟩
  obtain⟨a,b,X⟩:=s
  obtain⟨i,i1,i2,i3,i4,i5⟩:=hs
  dsimp only at i1 i2 i4 i5 ⊢
  subst i1 i2
  unfold bL;dsimp only
  by_cases hc:(i:Int)<(L.length:Int)-1-(i:Int)
  ·obtain⟨j,hj⟩:∃j:Nat,j=L.length-1-i:=⟨_,E⟩
   have hji:(L.length:Int)-1-(i:Int)=(j:Int):=by omega
   rw[dl hc,hji,gPo (by omega),gPo (by omega),gPo (by omega),gPo (by omega),aZ (by omega),bV (x:=(j:Int)-1) (by omega) (by omega),Int.toNat_natCast,Int.toNat_natCast]
   have ri:=i5 i (by omega)
   have rj:=i5 j (by omega)
   rw[if_neg (by omega)]at ri rj
   refine .inl ⟨_,E,⟨i+1,E,by dsimp only;omega,by omega,by dsimp only;rw[List.length_set,List.length_set];exact i4,fun p hp=>?_⟩,by dsimp only;omega,fun u hu=>hu⟩
   dsimp only
   rw[oW _ (by rw[List.length_set];omega),oW _ (by omega),ri,rj]
   by_cases e1:p=j
   ·subst e1
    rw[if_pos E,if_pos (by omega),show L.length-1-p=i by omega]
   ·rw[if_neg e1]
    by_cases e2:p=i
    ·subst e2
     rw[if_pos E,if_pos (by omega),show L.length-1-p=j by omega]
    ·rw[if_neg e2,i5 p hp]
     by_cases e3:p<i∨L.length<p+i+1
     ·rw[if_pos e3,if_pos (by omega)]
     ·rw[if_neg e3,if_neg (by omega)]
  ·rw[cN hc]
   refine .inr ⟨_,E,i4,fun p hp=>?_⟩
   dsimp only
   rw[i5 p hp]
   by_cases e3:p<i∨L.length<p+i+1
   ·rw[if_pos e3]
   ·rw[if_neg e3,show L.length-1-p=p by omega]
 obtain⟨u,u1,u2,u3⟩:=key
 rw[e0,u1,oB]
 refine congrArg some (List.ext_getElem (by rw[u2,List.length_reverse]) (fun p h1 h2=>?_))
 have h3:=u3 p (by omega)
 rw[aU h1,aU (by omega)]at h3
 rw[h3,List.getElem_reverse]
theorem walk_legs {r:TR} (hR:GoodR r) {f h:Int} (hh:0≤h) {q:List Twait} {D:Ts→List TT} {m:List (Ts × Tl)} (hI:LInv r f h D q m):∀(n:Nat) (s:Ts) (l:Tl),l.f_at-h≤(n:Int)→lab m s=some l→∃legs,oe r legs f h 0=some (s.f_place,l.f_at,s.f_toll)∧legs.length≤n∧∀acc:List TLeg,acc.length+n≤1000000000→∃u,aJ (c8 m) (l,acc)=some (u,acc++legs.reverse):=by
 have base:∀(n:Nat) (s:Ts) (l:Tl),l.f_begin=true→s=⟨f,0⟩→l.f_at=h→∃legs,oe r legs f h 0=some (s.f_place,l.f_at,s.f_toll)∧legs.length≤n∧∀acc:List TLeg,acc.length+n≤1000000000→∃u,aJ (c8 m) (l,acc)=some (u,acc++legs.reverse):=fun n s l hb e e2=>by
  refine⟨[],by rw[e,e2];rfl,Nat.zero_le _,fun acc _=>⟨l,?_⟩⟩
  rw[eC (t:=(l,acc)) (by unfold c8;dsimp only;rw[hb,if_neg (by simp)])]
  simp
 intro n
 induction n with
 | zero =>
  intro s l hn hl
  rcases (hI.lok s l hl).src with⟨hb,e,e2⟩|⟨_,lp,t,h1,h2,h3,h4,h5,h6,h7,h8⟩
  ·exact base 0 s l hb e e2
  ·have:=(hI.lok _ _ h1).at0
   have:=(hR.trk t h2).long
   omega
 | succ n ih =>
  intro s l hn hl
  have hlo:=hI.lok s l hl
  rcases hlo.src with⟨hb,e,e2⟩|⟨hb,lp,t,h1,h2,h3,h4,h5,h6,h7,h8⟩
  ·exact base (n+1) s l hb e e2
  ·have hT:=hR.trk t h2
   have hlg:=hT.long
   have hlp:=hI.lok _ _ h1
   have hp0:=hlp.at0
   have hp1:=hlp.place
   have hp2:=hlp.toll
   have hat:=hlo.at1
   have hpr:=hR.places
   obtain⟨legs,g1,g2,g3⟩:=ih l.f_from lp (by omega) h1
   obtain⟨i1,i2⟩:=trackI_at hR h2
   refine⟨legs++[l.f_leg],?_,by rw[List.length_append];simp;omega,fun acc hacc=>?_⟩
   ·rw[tp,g1,oB]
    dsimp only
    rw[ki,h5,i2,if_pos ⟨i1,h3,h6,⟨by omega,by omega⟩,h7⟩,h4,h8]
    rfl
   ·have hokk:aW l.f_from=true:=by
     unfold aW eI
     simp only[Bool.and_eq_true,decide_eq_true_eq]
     exact⟨⟨by omega,by omega⟩,by omega,by omega⟩
    obtain⟨u,hu⟩:=g3 (acc++[l.f_leg]) (by rw[List.length_append];simp;omega)
    have hstep:c8 m (l,acc)=some (.inl (lp,acc++[l.f_leg])):=by
     unfold c8;dsimp only
     rw[hb,if_pos (by rfl),gPo (by omega),gPo hokk,show(Tl.mk 0 (Ts.mk 0 0) (TLeg.mk 0 0) false)=lb0 from E,(mS h1).2]
    refine⟨u,?_⟩
    rw[je hstep,hu,List.reverse_append,List.append_assoc]
    rfl
theorem journey_ok {r:TR} (hR:GoodR r) {f h:Int} (hh:0≤h) {q:List Twait} {D:Ts→List TT} {m:List (Ts × Tl)} (hI:LInv r f h D q m) {s:Ts} {l:Tl} (hl:lab m s=some l):∃legs,iy m s=some ⟨legs,l.f_at,s.f_toll⟩∧oe r legs f h 0=some (s.f_place,l.f_at,s.f_toll)∧legs.length≤16384:=by
 have hlo:=hI.lok s l hl
 have h0:=hlo.at0
 have h1:=hlo.at1
 have hp1:=hlo.place
 have hp2:=hlo.toll
 have hpr:=hR.places
 have hokk:aW s=true:=by
  unfold aW eI
  simp only[Bool.and_eq_true,decide_eq_true_eq]
  exact⟨⟨by omega,by omega⟩,by omega,by omega⟩
 obtain⟨legs,g1,g2,g3⟩:=walk_legs hR hh hI 16384 s l (by omega) hl
 obtain⟨u,hu⟩:=g3 [] (by simp)
 refine⟨legs,?_,g1,g2⟩
 unfold iy
 rw[gPo hokk,gPo hokk,show(Tl.mk 0 (Ts.mk 0 0) (TLeg.mk 0 0) false)=lb0 from E,(mS hl).2]
 rw[show Tl.mk l.f_at (Ts.mk l.f_from.f_place l.f_from.f_toll) (TLeg.mk l.f_leg.fTrack l.f_leg.fHour) l.f_begin=l from E,hu,oB,List.nil_append,Reverse_eq (by rw[List.length_reverse];omega),oB,List.reverse_reverse]
theorem qb {r:TR} (hR:GoodR r) {f to h:Int} (hh:0≤h∧h≤16384) {j:TJ} (hj:j.fLegs.length≤1000000):eY r f to h j=some (match oe r j.fLegs f h 0 with|none=>false|some x=>(((x.1==to&&x.2.1==j.fA)&&x.2.2==j.fToll)&&decide (0≤x.2.1∧x.2.1≤16384))&&decide (x.2.2≤60)):=by
 have hrl:=hR.len
 have hinv:=bf (body:=fb r j)
  (fun s=>∃(k:Nat) (p a c:Int),s=(p,a,false,c,(k:Int))∧k≤j.fLegs.length∧0≤a∧a≤16456∧0≤c∧c≤40*(k:Int)∧oe r j.fLegs f h 0=oe r (j.fLegs.drop k) p a c)
  (fun _ out=>match out with
   | .inl u=>u.2.2.1=false∧oe r j.fLegs f h 0=none
   | .inr u=>oe r j.fLegs f h 0=some (u.1,u.2.1,u.2.2.2.1))
  (fun s=>j.fLegs.length-s.2.2.2.2.toNat) (by
   rintro _ ⟨k,p,a,c,rfl,hk,ha0,ha1,hc0,hc1,he⟩
   rcases Nat.lt_or_ge k j.fLegs.length with hlt|hge
   ·rw[List.drop_eq_getElem_cons hlt,ki]at he
    unfold fb;dsimp only
    rw[dl (by omega),gPo (by omega),aU hlt,tN (by omega),oB,nm,oB,aZ (by omega)]
    have htl:=tt r (j.fLegs[k]).fTrack
    by_cases h1:0≤ee r (j.fLegs[k]).fTrack
    ·have hm:=qQ (q:=fun n:TT=>n.fID==(j.fLegs[k]).fTrack) h1
     have hT:=hR.trk _ hm
     generalize hi:ee r (j.fLegs[k]).fTrack=i at he htl h1 ⊢
     have hT2:GoodT r.fPlaces (rdL r.fTracks i):=by rw[←hi];exact hT
     have hlg:=hT2.long
     have htoll:=hT2.toll
     rw[if_neg (by simp;omega),gPo (by omega),oB,orB,oB]
     by_cases h2:(rdL r.fTracks i).fFrom=p∧a≤(j.fLegs[k]).fHour∧(0≤(j.fLegs[k]).fHour∧(j.fLegs[k]).fHour≤16384)
     ·obtain⟨h3,h4,h5⟩:=h2
      have hb:(((rdL r.fTracks i).fFrom !=p||decide ((j.fLegs[k]).fHour<a)) || !decide (0≤(j.fLegs[k]).fHour∧(j.fLegs[k]).fHour≤16384))=false:=by
       simp only[Bool.or_eq_false_iff,Bool.not_eq_false',decide_eq_true_eq,decide_eq_false_iff_not,bne_eq_false_iff_eq]
       exact⟨⟨h3,by omega⟩,h5⟩
      rw[hb,if_neg (by simp),gPo (by omega),g0,rr hT2.spans (by have:=hT2.few;omega),oB]
      dsimp only
      by_cases h6:dM (rdL r.fTracks i).fK (j.fLegs[k]).fHour=(j.fLegs[k]).fHour
      ·rw[if_pos ⟨h1,h3,h4,h5,h6⟩]at he
       have hb2:(!nl (dM (rdL r.fTracks i).fK (j.fLegs[k]).fHour)||(dM (rdL r.fTracks i).fK (j.fLegs[k]).fHour !=(j.fLegs[k]).fHour))=false:=by
        rw[h6]
        unfold nl
        simp only[Bool.or_eq_false_iff,Bool.not_eq_false',decide_eq_true_eq,bne_self_eq_false,and_true]
        exact h5
       rw[hb2,if_neg (by simp),gPo (by omega),gPo (by omega),gPo (by omega),bV (by omega) (by omega),bV (by omega) (by omega)]
       exact .inl ⟨_,E,⟨k+1,_,_,_,E,hlt,by omega,by omega,by omega,by omega,he⟩,by dsimp only;omega,fun t h=>h⟩
      ·rw[if_neg fun hc=>h6 hc.2.2.2.2]at he
       rw[if_pos (by rw[Bool.or_eq_true];exact .inr (by simpa using h6))]
       exact .inr ⟨_,E,E,he⟩
     ·rw[if_neg fun hc=>h2 ⟨hc.2.1,hc.2.2.1,hc.2.2.2.1⟩]at he
      have hb:(((rdL r.fTracks i).fFrom !=p||decide ((j.fLegs[k]).fHour<a)) || !decide (0≤(j.fLegs[k]).fHour∧(j.fLegs[k]).fHour≤16384))=true:=by
       simp only[Bool.or_eq_true,Bool.not_eq_true',decide_eq_true_eq,decide_eq_false_iff_not,bne_iff_ne]
       by_cases h3:(rdL r.fTracks i).fFrom=p
       ·by_cases h4:a≤(j.fLegs[k]).fHour
        ·exact .inr fun h5=>h2 ⟨h3,h4,h5⟩
        ·exact .inl (.inr (by omega))
       ·exact .inl (.inl h3)
      rw[hb,if_pos E]
      exact .inr ⟨_,E,E,he⟩
    ·rw[if_neg fun hc=>h1 hc.1]at he
     rw[if_pos (by simp;omega),oB,orB,oB,Bool.true_or,Bool.true_or,if_pos E]
     exact .inr ⟨_,E,E,he⟩
   ·have hke:k=j.fLegs.length:=by omega
    subst hke
    rw[List.drop_length]at he
    refine .inr ⟨.inr (p,a,false,c,(j.fLegs.length:Int)),?_,he⟩
    unfold fb;dsimp only
    rw[cN (by omega)]) (f,h,false,0,0) ⟨0,f,h,0,E,Nat.zero_le _,hh.1,by omega,Int.le_refl _,by omega,E⟩
 obtain⟨out,hr,hp⟩:=hinv
 unfold eY
 rw[hr,oB]
 rcases out with u|u
 ·rw[hp.2];exact congrArg some hp.1
 ·dsimp only at hp ⊢
  rw[hp,nm,oB,andB,oB]
set_option linter.unusedSimpArgs false
open Classical
theorem o5:∀(l:List TSpan) (n:Int),dM l n=n↔∀s∈l,¬(s.fLo≤n∧n≤s.fHi)
 | [],n=>⟨fun _ s hs=>(by cases hs),fun _=>rfl⟩
 | s::l,n=>by
  show dM l (iK n s)=n↔_
  by_cases hc:s.fLo≤n∧n≤s.fHi
  ·have e:iK n s=s.fHi+1:=if_pos hc
   have h1:=iM l (s.fHi+1)
   rw[e]
   exact⟨fun h=>by omega,fun h=>absurd hc (h s List.mem_cons_self)⟩
  ·have e:iK n s=n:=if_neg hc
   rw[e,o5 l n]
   refine⟨fun h x hx=>?_,fun h x hx=>h x (List.mem_cons_of_mem _ hx)⟩
   rcases List.mem_cons.1 hx with rfl|hx
   ·exact hc
   ·exact h x hx
theorem ropen_eq {t:TT} (hl:t.fK.length≤1000000) (h:Int):j9 t h=some (decide (dM t.fK h=h)):=by
 have hinv:=bf (body:=iT t h)
  (fun s=>∃k:Nat,s=(false,(k:Int))∧k≤t.fK.length∧∀i,(hi:i<t.fK.length)→i<k→¬((t.fK[i]).fLo≤h∧h≤(t.fK[i]).fHi))
  (fun _ out=>match out with
   | .inl u=>u.1=false∧¬dM t.fK h=h
   | .inr _=>dM t.fK h=h)
  (fun s=>t.fK.length-s.2.toNat) (by
   rintro _ ⟨k,rfl,hk,hall⟩
   unfold iT;dsimp only
   rcases Nat.lt_or_ge k t.fK.length with hlt|hge
   ·rw[dl (by omega),gPo (by omega),gPo (by omega),aU hlt,g5,oB,aZ (by omega)]
    by_cases hc:(t.fK[k]).fLo≤h∧h≤(t.fK[k]).fHi
    ·rw[if_pos (decide_eq_true hc)]
     exact .inr ⟨_,E,E,fun e=>(o5 _ _).1 e _ (List.getElem_mem hlt) hc⟩
    ·rw[if_neg (by rw[decide_eq_true_eq];exact hc)]
     refine .inl ⟨_,E,⟨k+1,E,hlt,fun i hi h1=>?_⟩,by dsimp only;omega,fun t h=>h⟩
     by_cases e:i=k
     ·subst e;exact hc
     ·exact hall i hi (by omega)
   ·rw[cN (by omega)]
    refine .inr ⟨_,E,(o5 _ _).2 fun s hs=>?_⟩
    obtain⟨i,hi,rfl⟩:=List.mem_iff_getElem.1 hs
    exact hall i hi (by omega)) (false,0) ⟨0,E,Nat.zero_le _,fun i hi h=>by omega⟩
 obtain⟨out,hr,hp⟩:=hinv
 unfold j9
 rw[hr,oB]
 rcases out with u|u
 ·dsimp only at hp ⊢
  rw[hp.1,decide_eq_false hp.2]
 ·dsimp only at hp ⊢
  rw[decide_eq_true hp]
theorem Journey_eq {r:TR} (hR:GoodR r) {f to h:Int} (hh:0≤h∧h≤16384) {j:TJ} (hj:j.fLegs.length≤1000000):eo r f to h j=some (match oe r j.fLegs f h 0 with|none=>false|some x=>(((x.1==to&&x.2.1==j.fA)&&decide (x.2.1≤16384))&&x.2.2==j.fToll)&&decide (x.2.2≤60)):=by
 have hrl:=hR.len
 have hinv:=bf (body:=f0 r j)
  (fun s=>∃(k:Nat) (p a c:Int),s=(false,p,a,min 100000 c,(k:Int))∧k≤j.fLegs.length∧0≤a∧a≤16456∧0≤c∧oe r j.fLegs f h 0=oe r (j.fLegs.drop k) p a c)
  (fun _ out=>match out with
   | .inl u=>u.1=false∧oe r j.fLegs f h 0=none
   | .inr u=>∃c,u.2.2.2.1=min 100000 c∧oe r j.fLegs f h 0=some (u.2.1,u.2.2.1,c))
  (fun s=>j.fLegs.length-s.2.2.2.2.toNat) (by
   rintro _ ⟨k,p,a,c,rfl,hk,ha0,ha1,hc0,he⟩
   unfold f0;dsimp only
   rcases Nat.lt_or_ge k j.fLegs.length with hlt|hge
   ·rw[List.drop_eq_getElem_cons hlt,ki]at he
    rw[dl (by omega),gPo (by omega),aU hlt,rtrack_eq (by omega),oB,aZ (by omega)]
    have htl:=tt r (j.fLegs[k]).fTrack
    by_cases h1:0≤ee r (j.fLegs[k]).fTrack
    ·have hm:=qQ (q:=fun n:TT=>n.fID==(j.fLegs[k]).fTrack) h1
     have hT:=hR.trk _ hm
     generalize hi:ee r (j.fLegs[k]).fTrack=i at he htl h1 ⊢
     have hT2:GoodT r.fPlaces (rdL r.fTracks i):=by rw[←hi];exact hT
     have hlg:=hT2.long
     have htoll:=hT2.toll
     rw[if_neg (by simp;omega),gPo (by omega),gPo (by omega),m3,oB,g0,ropen_eq (by have:=hT2.few;omega),oB]
     by_cases h2:(rdL r.fTracks i).fFrom=p∧a≤(j.fLegs[k]).fHour∧(0≤(j.fLegs[k]).fHour∧(j.fLegs[k]).fHour≤16384)∧dM (rdL r.fTracks i).fK (j.fLegs[k]).fHour=(j.fLegs[k]).fHour
     ·rw[if_pos ⟨h1,h2⟩]at he
      rw[if_neg (by simp only[Bool.or_eq_true,Bool.not_eq_true',decide_eq_true_eq,decide_eq_false_iff_not,bne_iff_ne];omega),bV (x:=(j.fLegs[k]).fHour+_) (by omega) (by omega),bV (by omega) (by omega)]
      exact .inl ⟨_,E,⟨k+1,_,_,c+(rdL r.fTracks i).fToll,by rw[show min 100000 (min 100000 c+(rdL r.fTracks i).fToll)=min 100000 (c+(rdL r.fTracks i).fToll) by omega],hlt,by omega,by omega,by omega,he⟩,by dsimp only;omega,fun t h=>h⟩
     ·rw[if_neg fun hc=>h2 hc.2]at he
      rw[if_pos (by simp only[Bool.or_eq_true,Bool.not_eq_true',decide_eq_true_eq,decide_eq_false_iff_not,bne_iff_ne];omega)]
      exact .inr ⟨_,E,E,he⟩
    ·rw[if_neg fun hc=>h1 hc.1]at he
     rw[if_pos (by rw[decide_eq_true_eq];omega)]
     exact .inr ⟨_,E,E,he⟩
   ·have hke:k=j.fLegs.length:=by omega
    subst hke
    rw[List.drop_length]at he
    rw[cN (by omega)]
    exact .inr ⟨_,E,c,E,he⟩) (false,f,h,0,0) ⟨0,f,h,0,E,Nat.zero_le _,hh.1,by omega,Int.le_refl _,E⟩
 obtain⟨out,hr,hp⟩:=hinv
 unfold eo
 rw[hr,oB]
 rcases out with u|u
 ·dsimp only at hp ⊢
  rw[hp.1,hp.2]
 ·dsimp only at hp ⊢
  obtain⟨c,e1,e2⟩:=hp
  rw[e2,e1]
  dsimp only
  refine congrArg some ?_
  by_cases h60:c≤60
  ·rw[show min 100000 c=c by omega]
  ·rw[decide_eq_false h60,decide_eq_false (show ¬min 100000 c≤60 by omega),Bool.and_false,Bool.and_false]
set_option linter.unusedSimpArgs false
structure Least (r:TR) (f h p c v:Int):Prop where
 lo : -1≤v
 hi:v≤16384
 some:0≤v→∃c',c'≤c∧Tr r f h p c' v
 all:∀c' a,Tr r f h p c' a→c'≤c→a≤16384→0≤v∧v≤a
theorem Least.unique {r:TR} {f h p c v v':Int} (a:Least r f h p c v) (b:Least r f h p c v'):v=v':=by
 have h1:=a.lo;have h2:=b.lo
 by_cases hv:0≤v
 ·obtain⟨c1,e1,t1⟩:=a.some hv
  obtain⟨g1,g2⟩:=b.all c1 v t1 e1 a.hi
  obtain⟨c2,e2,t2⟩:=b.some g1
  have:=a.all c2 v' t2 e2 b.hi
  omega
 ·by_cases hv':0≤v'
  ·obtain⟨c2,e2,t2⟩:=b.some hv'
   have:=a.all c2 v' t2 e2 b.hi
   omega
  ·omega
def eb (m:List (Ts × Tl)) (p:Int):Nat→Int
 | 0 => -1
 | c+1=>match lab m ⟨p,(c:Int)⟩with
  | some l=>if eb m p c<0∨l.f_at<eb m p c then l.f_at else eb m p c
  | none=>eb m p c
theorem sD (m:List (Ts × Tl)) (p:Int) (c:Nat):eb m p (c+1)=match lab m ⟨p,(c:Int)⟩with|some l=>if eb m p c<0∨l.f_at<eb m p c then l.f_at else eb m p c|none=>eb m p c:=rfl
theorem eb_ok {m:List (Ts × Tl)} {p:Int} (h0:∀s l,lab m s=some l→0≤l.f_at):∀c:Nat,-1≤eb m p c∧(0≤eb m p c→∃c' l,c'<c∧lab m ⟨p,((c':Nat):Int)⟩=some l∧l.f_at=eb m p c)∧∀c' l,c'<c→lab m ⟨p,((c':Nat):Int)⟩=some l→0≤eb m p c∧eb m p c≤l.f_at
 | 0=>⟨Int.le_refl _,fun h=>by unfold eb at h;omega,fun c' l h=>by omega⟩
 | c+1=>by
  obtain⟨h1,h2,h3⟩:=eb_ok (p:=p) h0 c
  rw[sD]
  have old:∀c' l,c'<c+1→lab m ⟨p,((c':Nat):Int)⟩=some l→c'<c∨c'=c:=fun c' l h _=>by omega
  cases e:lab m ⟨p,(c:Int)⟩with
  | none =>
   refine⟨h1,fun h=>?_,fun c' l hc hl=>?_⟩
   ·obtain⟨c',l,a,b,d⟩:=h2 h
    exact⟨c',l,by omega,b,d⟩
   ·rcases old c' l hc hl with h|h
    ·exact h3 c' l h hl
    ·rw[h,e]at hl;cases hl
  | some l0 =>
   have hl0:=h0 _ _ e
   dsimp only
   by_cases hc:eb m p c<0∨l0.f_at<eb m p c
   ·rw[if_pos hc]
    refine⟨by omega,fun _=>⟨c,l0,by omega,e,E⟩,fun c' l hc' hl=>?_⟩
    rcases old c' l hc' hl with h|h
    ·have:=h3 c' l h hl;omega
    ·rw[h,e]at hl;cases hl;omega
   ·rw[if_neg hc]
    refine⟨h1,fun h=>?_,fun c' l hc' hl=>?_⟩
    ·obtain⟨c',l,a,b,d⟩:=h2 h
     exact⟨c',l,by omega,b,d⟩
    ·rcases old c' l hc' hl with h|h
     ·exact h3 c' l h hl
     ·rw[h,e]at hl;cases hl;omega
theorem ta {m:List (Ts × Tl)} {p:Int} {c:Nat} (hne:eb m p (c+1)≠eb m p c):∃l,lab m ⟨p,(c:Int)⟩=some l∧l.f_at=eb m p (c+1)∧(eb m p c<0∨l.f_at<eb m p c):=by
 rw[sD]at hne ⊢
 cases e:lab m ⟨p,(c:Int)⟩with
 | none=>rw[e]at hne;exact absurd E hne
 | some l =>
  rw[e]at hne
  dsimp only at hne ⊢
  by_cases hc:eb m p c<0∨l.f_at<eb m p c
  ·rw[if_pos hc];exact⟨l,E,E,hc⟩
  ·rw[if_neg hc]at hne;exact absurd E hne
theorem eb_anti {m:List (Ts × Tl)} {p:Int} (h0:∀s l,lab m s=some l→0≤l.f_at) {c:Nat}:∀d,eb m p c<0∨(0≤eb m p (c+d)∧eb m p (c+d)≤eb m p c)
 | 0=>by by_cases h:eb m p c<0;exact .inl h;exact .inr ⟨by rw[Nat.add_zero];omega,Int.le_refl _⟩
 | d+1=>by
  rcases eb_anti h0 (c:=c) d with h|h
  ·exact .inl h
  ·refine .inr ?_
   by_cases hne:eb m p (c+d+1)=eb m p (c+d)
   ·rw[←Nat.add_assoc,hne];exact h
   ·obtain⟨l,h1,h2,h3⟩:=ta hne
    have:=h0 _ _ h1
    rw[←Nat.add_assoc]
    omega
theorem LInv.at0 {r:TR} {f h:Int} {q:List Twait} {D:Ts→List TT} {m:List (Ts × Tl)} (hI:LInv r f h D q m) (hh:0≤h):∀s l,lab m s=some l→0≤l.f_at:=fun s l e=>Int.le_trans hh (hI.lok s l e).at0
theorem td {r:TR} (hR:GoodR r) {f h:Int} (hh:0≤h) {m:List (Ts × Tl)} (hI:LInv r f h (lS r) [] m) (p:Int) {c:Nat} (hc:c≤60):Least r f h p (c:Int) (eb m p (c+1)):=by
 obtain⟨h1,h2,h3⟩:=eb_ok (p:=p) (hI.at0 hh) (c+1)
 refine⟨h1,?_,fun hv=>?_,fun c' a ht hc' ha=>?_⟩
 ·by_cases hv:0≤eb m p (c+1)
  ·obtain⟨c',l,a,b,d⟩:=h2 hv
   have:=(hI.lok _ _ b).at1
   omega
  ·omega
 ·obtain⟨c',l,a,b,d⟩:=h2 hv
  have ht:=hI.attain hR (l.f_at-h).toNat _ l (by have:=(hI.lok _ _ b).at0;omega) b
  exact⟨(c':Int),by omega,by rw[←d];exact ht⟩
 ·obtain⟨l,e1,e2⟩:=hI.reach hR hh ht (by omega) ha
  have hl:=ht.low hR
  obtain⟨k,ek⟩:∃k:Nat,c'=(k:Int):=⟨c'.toNat,by omega⟩
  rw[ek]at e1
  have:=h3 k l (by omega) e1
  omega
def nE (m:List (Ts × Tl)) (p:Int):List Int:=(List.range 61).map fun c=>eb m p (c+1)
theorem iO (m:List (Ts × Tl)) (p:Int) {c:Nat} (hc:c<61):rdL (nE m p) (c:Int)=eb m p (c+1):=by
 have hl:(nE m p).length=61:=by simp[nE]
 rw[aU (by omega)]
 unfold nE
 rw[List.getElem_map,List.getElem_range]
theorem sv {r:TR} (hR:GoodR r) {f h:Int} (hh:0≤h) {q:List Twait} {D:Ts→List TT} {m:List (Ts × Tl)} (hI:LInv r f h D q m) {p:Int} (hp:0≤p∧p<r.fPlaces):fx m p=some (nE m p):=by
 have hpr:=hR.places
 have hset:∀k,k<61→((List.range k).map (fun c=>eb m p (c+1))++List.replicate (61-k) 0).set k (eb m p (k+1))=(List.range (k+1)).map (fun c=>eb m p (c+1))++List.replicate (61-(k+1)) 0:=fun k hk=>by
  rw[List.set_append_right _ _ (by simp),List.length_map,List.length_range,Nat.sub_self,show 61-k=(61-(k+1))+1 by omega,List.replicate_succ,List.set_cons_zero,List.range_succ,List.map_append,List.append_assoc]
  rfl
 have hrun:=kD (body:=dh m p) (fun k=>(eb m p k,(k:Int),(List.range k).map (fun c=>eb m p (c+1))++List.replicate (61-k) 0)) 61 (t:=(eb m p 61,(61:Int),nE m p)) (fun k hk=>by
  have hokk:aW ⟨p,(k:Int)⟩=true:=by
   unfold aW eI
   simp only[Bool.and_eq_true,decide_eq_true_eq]
   exact⟨⟨by omega,by omega⟩,by omega,by omega⟩
  unfold dh;dsimp only
  rw[dl (by omega),gPo hokk,gPo (by omega),gPo (by omega),aZ (by omega),Int.toNat_natCast,show(Tl.mk 0 (Ts.mk 0 0) (TLeg.mk 0 0) false)=lb0 from E,←hset k hk,sD]
  cases e:lab m ⟨p,(k:Int)⟩with
  | none =>
   rw[tu e,if_neg (by simp)]
  | some l =>
   obtain⟨e1,e2⟩:=mS e
   rw[e1,e2,Bool.true_and]
   dsimp only
   by_cases hc:eb m p k<0∨l.f_at<eb m p k
   ·rw[if_pos (by simpa using hc),if_pos hc]
   ·rw[if_neg (by simpa using hc),if_neg hc]) (by
  unfold dh;dsimp only
  rw[cN (by omega)]
  simp[nE])
 have h0:aJ (dh m p) (-1,0,List.replicate 61 0)=_:=hrun
 unfold fx
 rw[h0]
 rfl
structure FrontOf (r:TR) (f to h:Int) (m:List (Ts × Tl)) (k:Nat) (js:List TJ):Prop where
 each:∀j∈js,∃c:Nat,c<k∧j.fToll=(c:Int)∧j.fA=eb m to (c+1)∧eb m to (c+1)≠eb m to c∧oe r j.fLegs f h 0=some (to,j.fA,j.fToll)∧j.fLegs.length≤16384
 every:∀c,c<k→eb m to (c+1)≠eb m to c→∃j∈js,j.fToll=(c:Int)
 sorted:js.Pairwise fun a b=>a.fToll<b.fToll
 len:js.length≤k
theorem front_ok {r:TR} (hR:GoodR r) {f to h:Int} (hf:0≤f∧f<r.fPlaces) (ht:0≤to∧to<r.fPlaces) (hh:0≤h∧h≤16384):∃m js,fe r f h=some m∧LInv r f h (lS r) [] m∧hY r f to h=some js∧FrontOf r f to h m 61 js:=by
 obtain⟨m,hm,hI⟩:=labels_ok hR hf hh
 have hinv:=bf (body:=gJ to m (nE m to))
  (fun s=>∃(k:Nat) (js:List TJ),s=(eb m to k,(k:Int),js)∧k≤61∧FrontOf r f to h m k js)
  (fun _ t=>FrontOf r f to h m 61 t.2.2)
  (fun s=>61-s.2.1.toNat) (by
   rintro _ ⟨k,js,rfl,hk,hF⟩
   rcases Nat.lt_or_ge k 61 with hlt|hge
   ·have hl:=hF.len
    unfold gJ;dsimp only
    rw[dl (by omega),gPo (by omega),iO m to hlt,aZ (by omega)]
    by_cases hne:eb m to (k+1)=eb m to k
    ·rw[if_neg (by simp[hne])]
     refine .inl ⟨_,E,⟨k+1,js,E,hlt,fun j hj=>?_,fun c hc hc2=>?_,hF.sorted,by omega⟩,by dsimp only;omega,fun t h=>h⟩
     ·obtain⟨c,h1,h2⟩:=hF.each j hj
      exact⟨c,by omega,h2⟩
     ·by_cases e:c=k
      ·rw[e]at hc2;exact absurd hne hc2
      ·exact hF.every c (by omega) hc2
    ·obtain⟨l,h1,h2,_⟩:=ta hne
     obtain⟨legs,g1,g2,g3⟩:=journey_ok hR hh.1 hI h1
     rw[if_pos (by simpa using hne),g1,oB,gPo (by omega)]
     refine .inl ⟨_,E,⟨k+1,_,E,hlt,fun j hj=>?_,fun c hc hc2=>?_,?_,by rw[List.length_append];simp;exact hl⟩,by dsimp only;omega,fun t h=>h⟩
     ·rcases List.mem_append.1 hj with hj|hj
      ·obtain⟨c,a1,a2⟩:=hF.each j hj
       exact⟨c,by omega,a2⟩
      ·rw[List.mem_singleton.1 hj]
       exact⟨k,by omega,E,h2,hne,g2,g3⟩
     ·by_cases e:c=k
      ·exact⟨_,List.mem_append.2 (.inr List.mem_cons_self),by rw[e]⟩
      ·obtain⟨j,a1,a2⟩:=hF.every c (by omega) hc2
       exact⟨j,List.mem_append.2 (.inl a1),a2⟩
     ·rw[List.pairwise_append]
      refine⟨hF.sorted,List.pairwise_singleton _ _,fun a ha b hb=>?_⟩
      obtain⟨c,a1,a2,_⟩:=hF.each a ha
      rw[List.mem_singleton.1 hb]
      dsimp only
      omega
   ·have hke:k=61:=by omega
    subst hke
    refine .inr ⟨(eb m to 61,((61:Nat):Int),js),?_,hF⟩
    unfold gJ;dsimp only
    rw[cN (by omega)]) (-1,0,[]) ⟨0,[],E,Nat.zero_le _,fun j hj=>(by cases hj),fun c hc=>by omega,List.Pairwise.nil,Nat.le_refl _⟩
 obtain⟨t,htl,hF⟩:=hinv
 refine⟨m,t.2.2,hm,hI,?_,hF⟩
 unfold hY
 rw[hm,oB,sv hR hh.1 hI ht,oB,htl]
 rfl
structure BestJ (r:TR) (f to h purse:Int) (j:TJ):Prop where
 pos:0≤j.fA
 least:Least r f h to purse j.fA
 toll:0≤j.fToll∧j.fToll≤purse
 legs:oe r j.fLegs f h 0=some (to,j.fA,j.fToll)
 len:j.fLegs.length≤16384
 least2:Least r f h to j.fToll j.fA
 first:∀c v,0≤c→c<j.fToll→Least r f h to c v→v≠j.fA
set_option linter.unusedSimpArgs false
theorem few_eq {r:TR} (hl:r.fTracks.length≤9223372036854775807):∃b,fw r=some b∧(b=true→∀t∈r.fTracks,t.fK.length≤12):=by
 have hinv:=bf (body:=f6 r)
  (fun s=>∃k:Nat,s=(false,(k:Int))∧k≤r.fTracks.length∧∀i,(hi:i<r.fTracks.length)→i<k→(r.fTracks[i]).fK.length≤12)
  (fun _ out=>match out with
   | .inl u=>u.1=false
   | .inr _=>∀i,(hi:i<r.fTracks.length)→(r.fTracks[i]).fK.length≤12)
  (fun s=>r.fTracks.length-s.2.toNat) (by
   rintro _ ⟨k,rfl,hk,hall⟩
   unfold f6;dsimp only
   rcases Nat.lt_or_ge k r.fTracks.length with hlt|hge
   ·rw[dl (by omega),gPo (by omega),aU hlt,aZ (by omega)]
    by_cases hc:12<(((r.fTracks[k]).fK.length:Nat):Int)
    ·rw[if_pos (decide_eq_true hc)]
     exact .inr ⟨_,E,E⟩
    ·rw[if_neg (by simpa using hc)]
     refine .inl ⟨_,E,⟨k+1,E,hlt,fun i hi h=>?_⟩,by dsimp only;omega,fun t h=>h⟩
     rcases Nat.lt_or_ge i k with h' | h'
     ·exact hall i hi h'
     ·have:i=k:=by omega
      subst this;omega
   ·rw[cN (by omega)]
    exact .inr ⟨_,E,fun i hi=>hall i hi (by omega)⟩) (false,0) ⟨0,E,Nat.zero_le _,fun i hi h=>by omega⟩
 obtain⟨out,hr,hp⟩:=hinv
 unfold fw
 rw[hr,oB]
 rcases out with u|u
 ·exact⟨_,E,fun h=>by dsimp only at hp h;rw[hp]at h;cases h⟩
 ·exact⟨_,E,fun _ t ht=>by obtain⟨i,hi,rfl⟩:=List.mem_iff_getElem.1 ht;exact hp i hi⟩
set_option linter.unusedSimpArgs false
open Classical
theorem sL {l:List (List Int)} {f:List Int→Option Bool} {q:List Int→Bool} (hl:l.length<1000000000) (h:∀x∈l,f x=some (q x)):bx l f=some (ng l q):=by
 unfold bx
 have:=hU (body:=bg l f) (fun k=>((0:Int),(k:Int))) l.length (fun k=>if q (l.getD k default)=true then some (Sum.inl ((k:Int),(k:Int)))else none) (t0:=.inr (0,(l.length:Int))) (fun k hk=>by
  have c1:decide ((k:Int)<((l.length:Nat):Int))=true:=decide_eq_true (by omega)
  have c2:(0:Int)≤(k:Int)∧(k:Int)<((l.length:Nat):Int):=by omega
  unfold bg;dsimp only
  simp only[c1,if_true,gPo c2,aU hk,h _ (List.getElem_mem hk),oB,eP hk,aZ (show k<9223372036854775807 by omega)]
  cases q l[k] <;> rfl) (by
  unfold bg;dsimp only
  rw[cN (by omega)])
 have h0:aJ (bg l f) (0,0)=_:=this
 rw[h0,oB]
 exact m7 l q
structure Falling (l:List Int):Prop where
 len:l.length=61
 rng:∀c:Nat,c<l.length → -1≤rdL l (c:Int)∧rdL l (c:Int)≤16384
 fall:∀c:Nat,c+1<l.length→0≤rdL l (c:Int)→0≤rdL l ((c+1:Nat):Int)∧rdL l ((c+1:Nat):Int)≤rdL l (c:Int)
theorem falling_eq {l:List Int} (hl:l.length≤1000000):iw l=some (decide (Falling l)):=by
 have hinv:=bf (body:=gy l)
  (fun s=>∃(k:Nat) (last:Int),s=(false,last,(k:Int))∧k≤l.length∧(k=0→last = -1)∧(∀c:Nat,c+1=k→last=rdL l (c:Int))∧(∀c:Nat,c<k → -1≤rdL l (c:Int)∧rdL l (c:Int)≤16384)∧∀c:Nat,c+1<k→0≤rdL l (c:Int)→0≤rdL l ((c+1:Nat):Int)∧rdL l ((c+1:Nat):Int)≤rdL l (c:Int))
  (fun _ out=>match out with
   | .inl u=>u.1=false∧¬Falling l
   | .inr _=>(∀c:Nat,c<l.length → -1≤rdL l (c:Int)∧rdL l (c:Int)≤16384)∧∀c:Nat,c+1<l.length→0≤rdL l (c:Int)→0≤rdL l ((c+1:Nat):Int)∧rdL l ((c+1:Nat):Int)≤rdL l (c:Int))
  (fun s=>l.length-s.2.2.toNat) (by
   rintro _ ⟨k,last,rfl,hk,h0,h1,h2,h3⟩
   unfold gy;dsimp only
   rcases Nat.lt_or_ge k l.length with hlt|hge
   ·rw[dl (by omega),gPo (by omega),jl,oB,aZ (by omega)]
    by_cases hb:((!decide (-1≤rdL l (k:Int)∧rdL l (k:Int)≤16384))||(decide (0≤last)&&(decide (rdL l (k:Int)<0)||decide (last<rdL l (k:Int)))))=true
    ·rw[if_pos hb]
     refine .inr ⟨_,E,E,fun hF=>?_⟩
     rw[Bool.or_eq_true,Bool.and_eq_true,Bool.or_eq_true,Bool.not_eq_true',decide_eq_false_iff_not,decide_eq_true_eq,decide_eq_true_eq,decide_eq_true_eq]at hb
     rcases hb with hb|⟨ha,hb⟩
     ·exact hb (hF.rng k hlt)
     ·cases k with
      | zero=>have:=h0 E;omega
      | succ c =>
       have e:=h1 c E
       have:=hF.fall c hlt (by rw[←e];exact ha)
       omega
    ·rw[if_neg hb]
     rw[Bool.or_eq_true,Bool.and_eq_true,Bool.or_eq_true,Bool.not_eq_true',decide_eq_false_iff_not,decide_eq_true_eq,decide_eq_true_eq,decide_eq_true_eq]at hb
     refine .inl ⟨_,E,⟨k+1,_,E,hlt,fun h=>by omega,fun c hc=>by rw[show c=k by omega],fun c hc=>?_,fun c hc hp=>?_⟩,by dsimp only;omega,fun t h=>h⟩
     ·by_cases e:c=k
      ·rw[e]
       by_cases h4 : -1≤rdL l (k:Int)∧rdL l (k:Int)≤16384
       ·exact h4
       ·exact absurd (.inl h4) hb
      ·exact h2 c (by omega)
     ·by_cases e:c+1=k
      ·have e1:=h1 c e
       rw[e]
       rw[←e1]at hp ⊢
       by_cases h5:rdL l (k:Int)<0
       ·exact absurd (.inr ⟨hp,.inl h5⟩) hb
       ·by_cases h6:last<rdL l (k:Int)
        ·exact absurd (.inr ⟨hp,.inr h6⟩) hb
        ·exact⟨by omega,by omega⟩
      ·exact h3 c (by omega) hp
   ·have hke:k=l.length:=by omega
    subst hke
    rw[cN (by omega)]
    exact .inr ⟨_,E,h2,h3⟩) (false,-1,0) ⟨0,-1,E,Nat.zero_le _,fun _=>E,fun c hc=>by omega,fun c hc=>by omega,fun c hc=>by omega⟩
 obtain⟨out,hr,hp⟩:=hinv
 unfold iw
 rw[hr,oB]
 rcases out with u|u
 ·dsimp only at hp ⊢
  rw[hp.1,decide_eq_false hp.2]
 ·dsimp only at hp ⊢
  refine congrArg some ?_
  rw[Bool.eq_iff_iff,beq_iff_eq,decide_eq_true_eq]
  exact⟨fun h=>⟨by omega,hp.1,hp.2⟩,fun h=>by have:=h.len;omega⟩
def tAt (t:TTimes) (p:Int) (c:Int):Int:=rdL (rdL t.fH p) c
def okC (t:TTimes) (x:TT) (c:Nat):Prop:=0≤tAt t x.fFrom (c:Int)→(c:Int)+x.fToll≤60→0≤arr x (tAt t x.fFrom (c:Int))→0≤tAt t x.fTo ((c:Int)+x.fToll)∧tAt t x.fTo ((c:Int)+x.fToll)≤arr x (tAt t x.fFrom (c:Int))
structure Bounded (r:TR) (f h:Int) (t:TTimes):Prop where
 len:(t.fH.length:Int)=r.fPlaces
 fall:∀l∈t.fH,Falling l
 start:∀n∈rdL t.fH f,0≤n∧n≤h
 step:∀x∈r.fTracks,∀c:Nat,c<61→okC t x c
theorem qp {t:TTimes} {p:Int} (h:0≤p∧p<(t.fH.length:Int)):rdL t.fH p∈t.fH:=by
 obtain⟨k,e⟩:∃k:Nat,p=(k:Int):=⟨p.toNat,by omega⟩
 subst e
 rw[aU (by omega)]
 exact List.getElem_mem _
theorem bounded_eq {r:TR} (hR:GoodR r) {f h:Int} (hf:0≤f∧f<r.fPlaces) {t:TTimes} (ht:t.fH.length≤1000) (hrow:∀l∈t.fH,l.length≤1000):iq r f h t=some (decide (Bounded r f h t)):=by
 have hpr:=hR.places
 have hrl:=hR.len
 unfold iq
 by_cases hlen:(t.fH.length:Int)=r.fPlaces
 ·rw[if_neg (by simpa using hlen)]
  unfold fv
  rw[sL (f:=fun x45=>eJ x45) (q:=fun l => !decide (Falling l)) (by omega) (fun x hx=>by unfold eJ;rw[falling_eq (by have:=hrow x hx;omega)];rfl),oB,oB,oB]
  by_cases hfall:∀l∈t.fH,Falling l
  ·have hidx:¬0≤ng t.fH fun l => !decide (Falling l):=by
    rw[hZ]
    rintro⟨l,hl,e⟩
    rw[decide_eq_true (hfall l hl)]at e
    cases e
   rw[if_neg (by simpa using hidx),gPo (by omega)]
   have hrf:=qp (t:=t) (p:=f) (by omega)
   have hlf:=(hfall _ hrf).len
   unfold ik
   rw[sh (f:=fun x9=>fS x9 h) (q:=fun n=>decide (n<0)||decide (h<n)) (by omega) (fun x _=>E),oB,oB]
   by_cases hst:∀n∈rdL t.fH f,0≤n∧n≤h
   ·have hidx2:¬0≤ng (rdL t.fH f) fun n=>decide (n<0)||decide (h<n):=by
     rw[hZ]
     rintro⟨n,hn,e⟩
     have:=hst n hn
     rw[Bool.or_eq_true,decide_eq_true_eq,decide_eq_true_eq]at e
     omega
    rw[if_neg (by simpa using hidx2)]
    -- the tracks
    have inner:∀(k:Nat) (b:Bool),(hk:k<r.fTracks.length)→∃out,aJ (ff r t (b,(k:Int))) (b,0)=some out∧(match out with
      | .inl u=>u.1=false∧¬∀c:Nat,c<61→okC t r.fTracks[k] c
      | .inr u=>u.1=b∧∀c:Nat,c<61→okC t r.fTracks[k] c):=fun k b hk=>by
     have hT:=hR.trk _ (List.getElem_mem hk)
     have hfr:=hT.fr
     have hto:=hT.to
     have htl:=hT.toll
     have hlg:=hT.long
     have g1:=hfall _ (qp (t:=t) (p:=(r.fTracks[k]).fFrom) (by omega))
     have g2:=hfall _ (qp (t:=t) (p:=(r.fTracks[k]).fTo) (by omega))
     have l1:=g1.len
     have l2:=g2.len
     have hinv:=bf (body:=ff r t (b,(k:Int)))
      (fun s=>∃c:Nat,s=(b,(c:Int))∧c≤61∧∀j:Nat,j<c→okC t r.fTracks[k] j)
      (fun _ out=>match out with
       | .inl u=>u.1=false∧¬∀c:Nat,c<61→okC t r.fTracks[k] c
       | .inr u=>u.1=b∧∀c:Nat,c<61→okC t r.fTracks[k] c)
      (fun s=>61-s.2.toNat) (by
       rintro _ ⟨c,rfl,hc,hall⟩
       unfold ff;dsimp only
       rw[aU hk]
       rcases Nat.lt_or_ge c 61 with hlt|hge
       ·have hrg:=g1.rng c (by omega)
        have go:okC t r.fTracks[k] c→∃c':Nat,((b,((c+1:Nat):Int)):Bool × Int)=(b,(c':Int))∧c'≤61∧∀j:Nat,j<c'→okC t r.fTracks[k] j:=fun ho=>⟨c+1,E,hlt,fun j hj=>by
         by_cases e:j=c
         ·rw[e];exact ho
         ·exact hall j (by omega)⟩
        have hmes:61-((b,((c+1:Nat):Int)):Bool × Int).2.toNat<61-(c:Int).toNat:=by dsimp only;omega
        rw[dl (by omega),gPo (by omega),bV (x:=(c:Int)+(r.fTracks[k]).fToll) (by omega) (by omega),aZ (by omega)]
        by_cases h1:rdL (rdL t.fH (r.fTracks[k]).fFrom) (c:Int)<0∨60<(c:Int)+(r.fTracks[k]).fToll
        ·rw[if_pos (by rw[Bool.or_eq_true,decide_eq_true_eq,decide_eq_true_eq];exact h1)]
         exact .inl ⟨_,E,go (fun a1 a2 _=>by unfold tAt at a1;omega),hmes,fun t h=>h⟩
        ·rw[if_neg (by rw[Bool.or_eq_true,decide_eq_true_eq,decide_eq_true_eq];exact h1),g0,rr hT.spans (by have:=hT.few;omega),oB]
         dsimp only
         have h2:=iM (r.fTracks[k]).fK (rdL (rdL t.fH (r.fTracks[k]).fFrom) (c:Int))
         have h3:=rt hT.spans hrg.2
         rw[bV (by omega) (by omega),nm,oB,orB,oB]
         by_cases h4:dM (r.fTracks[k]).fK (rdL (rdL t.fH (r.fTracks[k]).fFrom) (c:Int))+(r.fTracks[k]).fLong≤16384
         ·have ea:arr r.fTracks[k] (rdL (rdL t.fH (r.fTracks[k]).fFrom) (c:Int))=dM (r.fTracks[k]).fK (rdL (rdL t.fH (r.fTracks[k]).fFrom) (c:Int))+(r.fTracks[k]).fLong:=if_pos h4
          rw[if_neg (by unfold nl;simp;omega),gPo (by omega),gPo (by omega),←ea]
          by_cases h5:rdL (rdL t.fH (r.fTracks[k]).fTo) ((c:Int)+(r.fTracks[k]).fToll)<0∨arr r.fTracks[k] (rdL (rdL t.fH (r.fTracks[k]).fFrom) (c:Int))<rdL (rdL t.fH (r.fTracks[k]).fTo) ((c:Int)+(r.fTracks[k]).fToll)
          ·rw[if_pos (by rw[Bool.or_eq_true,decide_eq_true_eq,decide_eq_true_eq];exact h5)]
           refine .inr ⟨_,E,E,fun hh=>?_⟩
           have:=hh c hlt (by unfold tAt;omega) (by omega) (by unfold tAt;omega)
           unfold tAt at this
           omega
          ·rw[if_neg (by rw[Bool.or_eq_true,decide_eq_true_eq,decide_eq_true_eq];exact h5)]
           exact .inl ⟨_,E,go (fun _ _ _=>by unfold tAt;omega),hmes,fun t h=>h⟩
         ·rw[if_pos (by unfold nl;simp;omega)]
          refine .inl ⟨_,E,go (fun _ _ a3=>?_),hmes,fun t h=>h⟩
          have:=(pk a3).1
          unfold tAt at this
          omega
       ·rw[cN (by omega)]
        exact .inr ⟨_,E,E,fun j hj=>hall j (by omega)⟩) (b,0) ⟨0,E,by omega,fun j hj=>by omega⟩
     exact hinv
    have hinv:=bf (body:=gL r t)
     (fun s=>∃k:Nat,s=(false,(k:Int))∧k≤r.fTracks.length∧∀i,(hi:i<r.fTracks.length)→i<k→∀c:Nat,c<61→okC t r.fTracks[i] c)
     (fun _ out=>match out with
      | .inl u=>u.1=false∧¬Bounded r f h t
      | .inr _=>Bounded r f h t)
     (fun s=>r.fTracks.length-s.2.toNat) (by
      rintro _ ⟨k,rfl,hk,hall⟩
      unfold gL;dsimp only
      rcases Nat.lt_or_ge k r.fTracks.length with hlt|hge
      ·have hT:=hR.trk _ (List.getElem_mem hlt)
       have hfr:=hT.fr
       obtain⟨out,ho,hp⟩:=inner k false hlt
       rw[dl (by omega),gPo (by omega),aU hlt,gPo (by omega),ho,oB,aZ (by omega)]
       rcases out with u|u
       ·exact .inr ⟨_,E,hp.1,fun hB=>hp.2 (hB.step _ (List.getElem_mem hlt))⟩
       ·refine .inl ⟨_,E,⟨k+1,by dsimp only at hp ⊢;rw[hp.1],hlt,fun i hi h=>?_⟩,by dsimp only;omega,fun t h=>h⟩
        rcases Nat.lt_or_ge i k with h' | h'
        ·exact hall i hi h'
        ·have:i=k:=by omega
         subst this;exact hp.2
      ·rw[cN (by omega)]
       refine .inr ⟨_,E,hlen,hfall,hst,fun x hx=>?_⟩
       obtain⟨i,hi,rfl⟩:=List.mem_iff_getElem.1 hx
       exact hall i hi (by omega)) (false,0) ⟨0,E,Nat.zero_le _,fun i hi h=>by omega⟩
    obtain⟨out,hr,hp⟩:=hinv
    rw[hr,oB]
    rcases out with u|u
    ·dsimp only at hp ⊢
     rw[hp.1,decide_eq_false hp.2]
    ·dsimp only at hp ⊢
     rw[decide_eq_true hp]
   ·have hidx2:0≤ng (rdL t.fH f) fun n=>decide (n<0)||decide (h<n):=by
     rw[hZ]
     by_cases hex:∃n∈rdL t.fH f,¬(0≤n∧n≤h)
     ·obtain⟨n,hn,hc⟩:=hex
      exact⟨n,hn,by rw[Bool.or_eq_true,decide_eq_true_eq,decide_eq_true_eq];omega⟩
     ·exact absurd (fun n hn=>Classical.byContradiction fun hc=>hex ⟨n,hn,hc⟩) hst
    rw[if_pos (decide_eq_true hidx2),decide_eq_false fun hB:Bounded r f h t=>hst hB.start]
  ·have hidx:0≤ng t.fH fun l => !decide (Falling l):=by
    rw[hZ]
    by_cases hex:∃l∈t.fH,¬Falling l
    ·obtain⟨l,hl,hc⟩:=hex
     exact⟨l,hl,by rw[decide_eq_false hc];rfl⟩
    ·exact absurd (fun l hl=>Classical.byContradiction fun hc=>hex ⟨l,hl,hc⟩) hfall
   rw[if_pos (decide_eq_true hidx),decide_eq_false fun hB:Bounded r f h t=>hfall hB.fall]
 ·rw[if_pos (by simpa using hlen),oB,if_pos E,decide_eq_false fun hB:Bounded r f h t=>hlen hB.len]
theorem Bounded.tr {r:TR} (hR:GoodR r) {f h:Int} (hf:0≤f∧f<r.fPlaces) (hh:0≤h) {t:TTimes} (hB:Bounded r f h t) {p c a:Int} (ht:Tr r f h p c a):c≤60→a≤16384→0≤tAt t p c∧tAt t p c≤a:=by
 have hlen:=hB.len
 induction ht with
 | start =>
  intro _ _
  have hl:=(hB.fall _ (qp (t:=t) (p:=f) (by omega))).len
  have:=hB.start (rdL (rdL t.fH f) ((0:Nat):Int)) (by rw[aU (by omega)];exact List.getElem_mem _)
  exact this
 | @step p c a x n hp hm hfr hn he ih =>
  intro hc ha
  have hT:=hR.trk x hm
  have h1:=hT.long
  have h2:=hT.toll
  have h3:=hp.low hR
  obtain⟨i1,i2⟩:=ih (by omega) (by omega)
  obtain⟨k,ek⟩:∃k:Nat,c=(k:Int):=⟨c.toNat,by omega⟩
  subst ek
  subst hfr
  have h4:=mN x.fK (Int.le_trans i2 hn)
  have h5:=iM x.fK (tAt t x.fFrom (k:Int))
  have ea:arr x (tAt t x.fFrom (k:Int))=dM x.fK (tAt t x.fFrom (k:Int))+x.fLong:=if_pos (by omega)
  have:=hB.step x hm k (by omega) i1 hc (by omega)
  exact⟨this.1,by omega⟩
def lA (r:TR) (m:List (Ts × Tl)):TTimes:=⟨(List.range r.fPlaces.toNat).map fun p:Nat=>nE m (p:Int)⟩
theorem j7 {r:TR} {m:List (Ts × Tl)} {p:Int} (hp:0≤p∧p<r.fPlaces):rdL (lA r m).fH p=nE m p:=by
 obtain⟨k,e⟩:∃k:Nat,p=(k:Int):=⟨p.toNat,by omega⟩
 subst e
 unfold lA
 dsimp only
 rw[aU (by simp;omega),List.getElem_map,List.getElem_range]
theorem lY {r:TR} (hR:GoodR r) {f h:Int} (hf:0≤f∧f<r.fPlaces) (hh:0≤h∧h≤16384) {m:List (Ts × Tl)} (hI:LInv r f h (lS r) [] m):Bounded r f h (lA r m):=by
 have hpr:=hR.places
 have hlen:((lA r m).fH.length:Int)=r.fPlaces:=by unfold lA;simp;omega
 have hl61:∀p,(nE m p).length=61:=fun p=>by simp[nE]
 have hat:=hI.at0 hh.1
 have hL:=fun(p:Int) (c:Nat) (hc:c≤60)=>td hR hh.1 hI p hc
 refine⟨hlen,fun l hl=>?_,fun n hn=>?_,fun x hx c hc=>?_⟩
 ·unfold lA at hl
  obtain⟨p,_,rfl⟩:=List.mem_map.1 hl
  refine⟨hl61 _,fun c hc=>?_,fun c hc hp=>?_⟩
  ·rw[hl61]at hc
   rw[iO m _ hc]
   have:=hL (p:Int) c (by omega)
   exact⟨this.lo,this.hi⟩
  ·rw[hl61]at hc
   rw[iO m _ (show c<61 by omega)]at hp
   rw[iO m _ hc,iO m _ (show c<61 by omega)]
   rcases eb_anti hat (p:=(p:Int)) (c:=c+1) 1 with h|h
   ·omega
   ·exact h
 ·rw[j7 hf]at hn
  unfold nE at hn
  obtain⟨c,_,rfl⟩:=List.mem_map.1 hn
  exact(eb_ok (p:=f) hat (c+1)).2.2 0 _ (by omega) hI.beg
 ·have hT:=hR.trk x hx
  have hfr:=hT.fr
  have hto:=hT.to
  have htl:=hT.toll
  have hlg:=hT.long
  intro h1 h2 h3
  unfold tAt at h1 h3 ⊢
  have e1:rdL (rdL (lA r m).fH x.fFrom) (c:Int)=eb m x.fFrom (c+1):=by rw[j7 (by omega),iO m _ hc]
  rw[e1]at h1 h3 ⊢
  rw[j7 (by omega)]
  obtain⟨k,ek⟩:∃k:Nat,(c:Int)+x.fToll=(k:Int):=⟨((c:Int)+x.fToll).toNat,by omega⟩
  rw[ek,iO m _ (by omega)]
  obtain⟨c',a1,a2⟩:=(hL x.fFrom c (by omega)).some h1
  obtain⟨g1,g2⟩:=pk h3
  have hstep:=Tr.step x (dM x.fK (eb m x.fFrom (c+1))) a2 hx E (iM _ _) (mu _ hT.spans)
  have:=(hL x.fTo k (by omega)).all _ _ hstep (by omega) (by omega)
  rw[g2]
  exact this
end Go.Proofs.YthndghnkebboaaaGreat
