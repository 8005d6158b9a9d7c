import Derived.Test.YthndghnkebboaaaGreatP
import Derived.Test.YthndghnkebboaaaGreatGz
import Derived.Test.YthndghnkebboaaaGreatGy
set_option linter.unusedSimpArgs false
set_option linter.unusedVariables false
namespace Go.Proofs.YthndghnkebboaaaGreat
theorem se {S T:Type} {body:S→Option (S ⊕ T)} (st:Nat→S):∀(n:Nat),(∀k,k<n→body (st k)=some (.inl (st (k+1))))→aK body (st 0)=aK body (st n)
 | 0,_=>rfl
 | n+1,h=>by rw[se st n (fun k hk=>h k (by omega)),jE (h n (by omega))]
theorem jH {S T:Type} {body:S→Option (S ⊕ T)} (st:Nat→S) (n:Nat) {t:T} (h:∀k,k<n→body (st k)=some (.inl (st (k+1)))) (hs:body (st n)=some (.inr t)):aK body (st 0)=some t:=by
 rw[se st n h,eX hs]
theorem iZ {S T:Type} {body:S→Option (S ⊕ T)} (st:Nat→S) (n:Nat) (R:Nat→Option T) {t0:T} (h:∀k,k<n→body (st k)=some (match R k with|none=>.inl (st (k+1))|some t=>.inr t)) (hs:body (st n)=some (.inr t0)) :
  aK body (st 0)=some (((List.range n).findSome? R).getD t0):=by
 have key:∀c k,k+c=n→aK body (st k)=some (((List.range' k c).findSome? R).getD t0):=by
  intro c
  induction c with
  | zero =>
   intro k hk
   have:k=n:=by omega
   subst this
   rw[eX hs]
   rfl
  | succ c ih =>
   intro k hk
   have hb:=h k (by omega)
   rw[List.range'_succ]
   cases hR:R k with
   | none =>
    rw[hR]at hb
    rw[jE hb,ih (k+1) (by omega)]
    simp[hR]
   | some t =>
    rw[hR]at hb
    rw[eX hb]
    simp[hR]
 have:=key n 0 (by omega)
 rw[this,List.range_eq_range']
theorem ff {α:Type} {p:Prop} [Decidable p] {x y:α} (h:p):(if decide p=true then x else y)=x:=by rw[if_pos (decide_eq_true h)]
theorem ei {α:Type} {p:Prop} [Decidable p] {x y:α} (h:¬p):(if decide p=true then x else y)=y:=by rw[if_neg (by rw[decide_eq_false h];exact Bool.false_ne_true)]
theorem bh {α:Type} [Inhabited α] {xs:List α} {k:Nat} (h:k<xs.length):rdL xs (k:Int)=xs[k]:=by
 unfold rdL
 rw[Int.toNat_natCast,List.getD_eq_getElem?_getD,List.getElem?_eq_getElem h]
 rfl
theorem bj {k:Nat} (h:k<9223372036854775807):w64 ((k:Int)+1)=((k+1:Nat):Int):=by
 rw[ci (by omega) (by omega)];rfl
theorem jl {T:Type} {R:Nat→Option T} {n:Nat} (t0:T):((∀k,k<n→R k=none)∧((List.range n).findSome? R).getD t0=t0)∨∃k t,k<n∧R k=some t∧(∀j,j<k→R j=none)∧((List.range n).findSome? R).getD t0=t:=by
 induction n with
 | zero=>exact .inl ⟨fun k hk=>by omega,E⟩
 | succ n ih =>
  rw[List.range_succ,List.findSome?_append]
  rcases ih with⟨h1,h2⟩|⟨k,t,hk,hR,hj,h2⟩
  ·have h3:(List.range n).findSome? R=none:=List.findSome?_eq_none_iff.2 (fun x hx=>h1 x (List.mem_range.1 hx))
   rw[h3]
   cases hR:R n with
   | none=>exact .inl ⟨fun k hk=>by
    rcases Nat.lt_or_ge k n with h|h
    ·exact h1 k h
    ·rw[show k=n by omega];exact hR,by simp[hR]⟩
   | some t=>exact .inr ⟨n,t,by omega,hR,h1,by simp[hR]⟩
  ·refine .inr ⟨k,t,by omega,hR,hj,?_⟩
   have h3:((List.range n).findSome? R)=some t:=by
    cases hf:(List.range n).findSome? R with
    | none=>have:=List.findSome?_eq_none_iff.1 hf k (List.mem_range.2 hk);rw[hR]at this;cases this
    | some u=>rw[hf]at h2;exact congrArg some h2
   rw[h3]
   rfl
theorem rI {T:Type} {R:Nat→Option T} {n:Nat} {t0:T} (h:∀k,k<n→R k=none):((List.range n).findSome? R).getD t0=t0:=by
 rw[List.findSome?_eq_none_iff.2 (fun x hx=>h x (List.mem_range.1 hx))];rfl
theorem rs {T:Type} {R:Nat→Option T} {n:Nat} {t0 t:T} (k:Nat) (hk:k<n) (hR:R k=some t) (hj:∀j,j<k→R j=none):((List.range n).findSome? R).getD t0=t:=by
 rcases jl (R:=R) (n:=n) t0 with⟨h,_⟩|⟨k',t',hk',hR',hj',h⟩
 ·rw[h k hk]at hR;cases hR
 ·rcases Nat.lt_trichotomy k k' with h' | h' | h'
  ·rw[hj' k h']at hR;cases hR
  ·subst h';rw[hR]at hR';cases hR';exact h
  ·rw[hj k' h']at hR';cases hR'
def nr {α:Type} [Inhabited α] (l:List α) (q:α→Bool):Int:=((List.range l.length).findSome? fun k=>if q (l.getD k default)=true then some (k:Int)else none).getD (-1)
theorem eD {α:Type} [Inhabited α] {l:List α} {k:Nat} (h:k<l.length):l.getD k default=l[k]:=by
 rw[List.getD_eq_getElem?_getD,List.getElem?_eq_getElem h];rfl
theorem jD {α:Type} [Inhabited α] (l:List α) (q:α→Bool):((∀x∈l,q x=false)∧nr l q = -1)∨∃k,∃h:k<l.length,q l[k]=true∧(∀j,(hj:j<k)→q (l[j]'(by omega))=false)∧nr l q=(k:Int):=by
 unfold nr
 rcases jl (R:=fun k=>if q (l.getD k default)=true then some (k:Int)else none) (n:=l.length) (-1)with⟨h,h2⟩|⟨k,t,hk,hR,hj,h2⟩
 ·refine .inl ⟨fun x hx=>?_,h2⟩
  obtain⟨k,hk,rfl⟩:=List.mem_iff_getElem.1 hx
  have:=h k hk
  rw[eD hk]at this
  cases hq:q l[k]
  ·rfl
  ·rw[hq]at this;simp at this
 ·rw[eD hk]at hR
  cases hq:q l[k]with
  | false=>rw[hq]at hR;simp at hR
  | true =>
   rw[hq]at hR
   simp only[if_true]at hR
   refine .inr ⟨k,hk,hq,fun j hj'=>?_,h2.trans (Option.some.inj hR).symm⟩
   have:=hj j hj'
   rw[eD (by omega)]at this
   cases hq':q (l[j]'(by omega))
   ·rfl
   ·rw[hq']at this;simp at this
theorem nw {α:Type} [Inhabited α] (l:List α) (q:α→Bool):(match ((List.range l.length).findSome? (fun k=>if q (l.getD k default)=true then some (Sum.inl ((k:Int),(k:Int)):(Int × Int) ⊕ (Int × Int))else none)).getD (.inr (0,(l.length:Int)))with|.inl u=>some u.1|.inr _=>some (-1))=some (nr l q):=by
 unfold nr
 rcases jl (R:=fun k=>if q (l.getD k default)=true then some (Sum.inl ((k:Int),(k:Int)):(Int × Int) ⊕ (Int × Int))else none) (n:=l.length) (.inr (0,(l.length:Int)))with⟨hn,h2⟩|⟨k,t,hk,hR,hj,h2⟩
 ·rw[h2,rI (fun k hk=>by have:=hn k hk;split at this <;> simp_all)]
 ·rw[h2]
  have hq:q (l.getD k default)=true:=by
   by_cases hq:q (l.getD k default)=true
   ·exact hq
   ·rw[if_neg hq]at hR;cases hR
  rw[if_pos hq]at hR
  cases hR
  rw[rs k hk (by rw[if_pos hq]) (fun j hj'=>by have:=hj j hj';split at this <;> simp_all)]
theorem jO {α:Type} [Inhabited α] {l:List α} {q:α→Bool}:0≤nr l q↔∃x∈l,q x=true:=by
 rcases jD l q with⟨h,h2⟩|⟨k,hk,hq,_,h2⟩
 ·rw[h2]
  exact⟨fun h=>by omega,fun⟨x,hx,hq⟩=>by rw[h x hx]at hq;cases hq⟩
 ·rw[h2]
  exact⟨fun _=>⟨l[k],List.getElem_mem hk,hq⟩,fun _=>by omega⟩
theorem rL {α:Type} [Inhabited α] (l:List α) (q:α→Bool):nr l q<(l.length:Int):=by
 rcases jD l q with⟨h,h2⟩|⟨k,hk,hq,_,h2⟩ <;> omega
theorem qq {α:Type} [Inhabited α] {l:List α} {q:α→Bool} (h:0≤nr l q):rdL l (nr l q)∈l:=by
 rcases jD l q with⟨_,h2⟩|⟨k,hk,hq,_,h2⟩
 ·omega
 ·rw[h2,bh hk];exact List.getElem_mem hk
theorem idxI_at {α:Type} [Inhabited α] {l:List α} {f:α→Int} (hd:(l.map f).Nodup) {k:Nat} (hk:k<l.length):nr l (fun x=>f x==f l[k])=(k:Int):=by
 rcases jD l (fun x=>f x==f l[k])with⟨h,_⟩|⟨j,hj,hq,_,h2⟩
 ·have:=h l[k] (List.getElem_mem hk);simp at this
 ·rw[h2]
  have he:f l[j]=f l[k]:=by simpa using hq
  have hpw:=List.pairwise_iff_getElem.1 hd
  rcases Nat.lt_trichotomy j k with h3|h3|h3
  ·have:=hpw j k (by simpa using hj) (by simpa using hk) h3
   simp only[List.getElem_map]at this
   exact absurd he this
  ·rw[h3]
  ·have:=hpw k j (by simpa using hk) (by simpa using hj) h3
   simp only[List.getElem_map]at this
   exact absurd he.symm this
theorem idxI_lt {α:Type} [Inhabited α] {l:List α} {f:α→Int} {k:Nat} (hk:k<l.length):nr l (fun x=>f x==f l[k])<(k:Int)↔∃j,∃h:j<k,f (l[j]'(by omega))=f l[k]:=by
 rcases jD l (fun x=>f x==f l[k])with⟨h,_⟩|⟨j,hj,hq,hm,h2⟩
 ·have:=h l[k] (List.getElem_mem hk);simp at this
 ·rw[h2]
  have he:f l[j]=f l[k]:=by simpa using hq
  refine⟨fun h=>⟨j,by omega,he⟩,fun⟨i,hi,hie⟩=>?_⟩
  rcases Nat.lt_or_ge j k with h3|h3
  ·omega
  ·exfalso
   have:=hm i (by omega)
   rw[hie]at this
   simp at this
theorem kG {α:Type} [Inhabited α] {l:List α} {f:α→Int}:(∀k,(hk:k<l.length)→¬nr l (fun x=>f x==f l[k])<(k:Int))↔(l.map f).Nodup:=by
 refine⟨fun h=>?_,fun h k hk=>by rw[idxI_at h hk];omega⟩
 rw[List.Nodup,List.pairwise_iff_getElem]
 intro i j hi hj hij
 simp only[List.length_map]at hi hj
 simp only[List.getElem_map]
 intro e
 exact h j hj ((idxI_lt hj).2 ⟨i,hij,e⟩)
theorem TSpan_eta (x:TSpan):TSpan.mk x.fLo x.fHi=x:=rfl
theorem tA (x:TO):TO.mk x.fID x.fH x.fD x.fW=x:=rfl
theorem TBay_eta (x:TBay):TBay.mk x.fID x.fHour x.fD=x:=rfl
theorem gF (x:TT):TT.mk x.fID x.fFrom x.fTo x.fLong x.fToll x.fK=x:=rfl
theorem qp {l:List TT} {f:TT→Option Bool} {q:TT→Bool} (hl:l.length<1000000000) (h:∀x∈l,f x=some (q x)):bx l f=some (nr l q):=by
 unfold bx
 have:=iZ (body:=a8 l f) (fun k=>((0:Int),(k:Int))) l.length (fun k=>if q (l.getD k default)=true then some (Sum.inl ((k:Int),(k:Int)))else none) (t0:=.inr (0,(l.length:Int))) (fun k hk=>by
  have c1:decide ((k:Int)<((l.length:Nat):Int))=true:=decide_eq_true (by omega)
  have c2:(0:Int)≤(k:Int)∧(k:Int)<((l.length:Nat):Int):=by omega
  unfold a8;dsimp only
  simp only[c1,if_true,gPo c2,bh hk,gF,h _ (List.getElem_mem hk),oB,eD hk,bj (show k<9223372036854775807 by omega)]
  cases q l[k] <;> rfl) (by
  unfold a8;dsimp only
  rw[ei (by omega)])
 have h0:aK (a8 l f) (0,0)=_:=this
 rw[h0,oB]
 exact nw l q
theorem ro {l:List Int} {f:Int→Option Bool} {q:Int→Bool} (hl:l.length<1000000000) (h:∀x∈l,f x=some (q x)):bz l f=some (nr l q):=by
 unfold bz
 have:=iZ (body:=bn l f) (fun k=>((0:Int),(k:Int))) l.length (fun k=>if q (l.getD k default)=true then some (Sum.inl ((k:Int),(k:Int)))else none) (t0:=.inr (0,(l.length:Int))) (fun k hk=>by
  have c1:decide ((k:Int)<((l.length:Nat):Int))=true:=decide_eq_true (by omega)
  have c2:(0:Int)≤(k:Int)∧(k:Int)<((l.length:Nat):Int):=by omega
  unfold bn;dsimp only
  simp only[c1,if_true,gPo c2,bh hk,h _ (List.getElem_mem hk),oB,eD hk,bj (show k<9223372036854775807 by omega)]
  cases q l[k] <;> rfl) (by
  unfold bn;dsimp only
  rw[ei (by omega)])
 have h0:aK (bn l f) (0,0)=_:=this
 rw[h0,oB]
 exact nw l q
theorem iX (n lo hi:Int):bl n lo hi=some (decide (lo≤n∧n≤hi)):=by unfold bl;rw[Bool.decide_and]
theorem mK (n:Int):c8 n=some (decide (0≤n∧n≤16384)):=by unfold c8;rw[iX];rfl
theorem gB (n lo hi:Int):aW n lo hi=some (decide (lo≤n∧n≤hi)):=by unfold aW;rw[Bool.decide_and]
theorem ma (n:Int):cV n=some (decide (0≤n∧n≤16384)):=by unfold cV;rw[gB];rfl
def bayI (y:TY) (id:Int):Int:=nr y.fB fun n=>n.fID==id
set_option linter.unusedSimpArgs false
open Classical
def sm:Nat→(Nat→Int)→Int
 | 0,_=>0
 | n+1,f=>sm n f+f n
theorem fv {f g:Nat→Int}:∀{n:Nat},(∀i,i<n→f i=g i)→sm n f=sm n g
 | 0,_=>rfl
 | n+1,h=>by unfold sm;rw[fv fun i hi=>h i (by omega),h n (by omega)]
theorem pk {f g:Nat→Int}:∀{n:Nat},(∀i,i<n→f i≤g i)→sm n f≤sm n g
 | 0,_=>Int.le_refl _
 | n+1,h=>by
  have h1:=pk (f:=f) (g:=g) (n:=n) fun i hi=>h i (by omega)
  have h2:=h n (by omega)
  unfold sm;omega
theorem sm_add (f g:Nat→Int):∀n,sm n (fun i=>f i+g i)=sm n f+sm n g
 | 0=>rfl
 | n+1=>by have:=sm_add f g n;unfold sm;dsimp only;omega
theorem sm_sub (f g:Nat→Int):∀n,sm n (fun i=>f i-g i)=sm n f-sm n g
 | 0=>rfl
 | n+1=>by have:=sm_sub f g n;unfold sm;dsimp only;omega
theorem pS:∀{n:Nat} {f:Nat→Int},(∀i,i<n→f i=0)→sm n f=0
 | 0,_,_=>rfl
 | n+1,f,h=>by have h1:=pS (n:=n) (f:=f) fun i hi=>h i (by omega);have h2:=h n (by omega);unfold sm;omega
theorem lK {n:Nat} {f:Nat→Int} (h:∀i,i<n→0≤f i):0≤sm n f:=by
 have:=pk (f:=fun _=>0) h
 rwa [pS (f:=fun _=>0) fun _ _=>E]at this
theorem oR {f g:Nat→Int} {k:Nat}:∀{n:Nat},k<n→(∀i,i<n→i≠k→g i=f i)→sm n g=sm n f-f k+g k
 | 0,h,_=>by omega
 | n+1,h,he=>by
  unfold sm
  rcases Nat.lt_or_ge k n with hk|hk
  ·have:=oR hk (fun i hi=>he i (by omega))
   have h2:=he n (by omega) (by omega)
   omega
  ·have hkn:k=n:=by omega
   subst hkn
   rw[fv (f:=g) (g:=f) fun i hi=>he i (by omega) (by omega)]
   omega
theorem sm_lt {f g:Nat→Int} {n k:Nat} (hk:k<n) (h:∀i,i<n→f i≤g i) (hlt:f k<g k):sm n f<sm n g:=by
 have h1:sm n (fun i=>if i=k then f k else g i)≤sm n g:=pk fun i hi=>by
  split
  ·rename_i e;subst e;omega
  ·exact Int.le_refl _
 have h2:sm n f≤sm n (fun i=>if i=k then f k else g i):=pk fun i hi=>by
  split
  ·rename_i e;subst e;exact Int.le_refl _
  ·exact h i hi
 have h3:=oR (f:=g) (g:=fun i=>if i=k then f k else g i) hk (fun i _ hi=>by simp only[if_neg hi])
 simp only[if_pos]at h3
 omega
theorem min_ex {P:Nat→Prop} {f:Nat→Int} (hf:∀k,0≤f k):∀(m k:Nat),P k→f k≤(m:Int)→∃k,P k∧∀k',P k'→f k≤f k'
 | 0,k,hk,hm=>⟨k,hk,fun k' _=>by have:=hf k';omega⟩
 | m+1,k,hk,hm=>by
  by_cases h:∃k',P k'∧f k'≤(m:Int)
  ·obtain⟨k',h1,h2⟩:=h
   exact min_ex hf m k' h1 h2
  ·refine⟨k,hk,fun k' hk'=>?_⟩
   have:¬f k'≤(m:Int):=fun hc=>h ⟨k',hk',hc⟩
   omega
structure Mat (S:Nat→Nat→Prop) (h:Nat→Option Nat):Prop where
 suit:∀k o,h k=some o→S o k
 inj:∀k k' o,h k=some o→h k'=some o→k=k'
def Dom (h:Nat→Option Nat) (o:Nat):Prop:=∃k,h k=some o
def ov (g:Nat→Int):Option Nat→Int
 | none=>0
 | some o=>g o
structure Fit (S:Nat→Nat→Prop) (nB nO:Nat):Prop where
 bay:∀o k,S o k→k<nB
 ord:∀o k,S o k→o<nO
theorem bij_aux {nO:Nat} {h:Nat→Option Nat} {g:Nat→Int} (hi:∀k k' o,h k=some o→h k'=some o→k=k') (ho:∀k o,h k=some o→o<nO):∀n,sm n (fun k=>ov g (h k))=sm nO (fun o=>if ∃k,k<n∧h k=some o then g o else 0)
 | 0=>by
  rw[pS (n:=nO) fun o _=>if_neg (fun⟨k,hk,_⟩=>by omega)]
  rfl
 | n+1=>by
  have ih:=bij_aux (nO:=nO) (g:=g) hi ho n
  show sm n (fun k=>ov g (h k))+ov g (h n)=_
  rw[ih]
  cases hn:h n with
  | none =>
   show _+(0:Int)=_
   rw[Int.add_zero]
   refine fv fun o _=>?_
   have:(∃k,k<n∧h k=some o)↔(∃k,k<n+1∧h k=some o):=⟨fun⟨k,hk,e⟩=>⟨k,by omega,e⟩,fun⟨k,hk,e⟩=>⟨k,by
    rcases Nat.lt_or_ge k n with h' | h'
    ·exact⟨h',e⟩
    ·have:k=n:=by omega
     subst this;rw[hn]at e;cases e⟩⟩
   by_cases hc:∃k,k<n∧h k=some o
   ·rw[if_pos hc,if_pos (this.1 hc)]
   ·rw[if_neg hc,if_neg (fun hh=>hc (this.2 hh))]
  | some x =>
   have hx:=ho n x hn
   have hnx:¬∃k,k<n∧h k=some x:=fun⟨k,hk,e⟩=>by have:=hi k n x e hn;omega
   have e:=oR (f:=fun o=>if ∃k,k<n∧h k=some o then g o else 0) (g:=fun o=>if ∃k,k<n+1∧h k=some o then g o else 0) hx (fun o _ hne=>by
    have:(∃k,k<n∧h k=some o)↔(∃k,k<n+1∧h k=some o):=⟨fun⟨k,hk,e⟩=>⟨k,by omega,e⟩,fun⟨k,hk,e⟩=>⟨k,by
     rcases Nat.lt_or_ge k n with h' | h'
     ·exact⟨h',e⟩
     ·have:k=n:=by omega
      subst this;rw[hn]at e;cases e;exact absurd E hne⟩⟩
    by_cases hc:∃k,k<n∧h k=some o
    ·simp only[if_pos hc,if_pos (this.1 hc)]
    ·simp only[if_neg hc,if_neg (fun hh=>hc (this.2 hh))])
   rw[e]
   simp only[if_neg hnx,if_pos (show ∃k,k<n+1∧h k=some x from⟨n,by omega,hn⟩)]
   show _+g x=_
   omega
theorem bij {S:Nat→Nat→Prop} {nB nO:Nat} (hF:Fit S nB nO) {h:Nat→Option Nat} (hM:Mat S h) (g:Nat→Int):sm nB (fun k=>ov g (h k))=sm nO (fun o=>if Dom h o then g o else 0):=by
 rw[bij_aux (nO:=nO) (g:=g) hM.inj (fun k o e=>hF.ord o k (hM.suit k o e)) nB]
 refine fv fun o _=>?_
 have:(∃k,k<nB∧h k=some o)↔Dom h o:=⟨fun⟨k,_,e⟩=>⟨k,e⟩,fun⟨k,e⟩=>⟨k,hF.bay o k (hM.suit k o e),e⟩⟩
 by_cases hc:Dom h o
 ·rw[if_pos hc,if_pos (this.2 hc)]
 ·rw[if_neg hc,if_neg (fun hh=>hc (this.1 hh))]
noncomputable def off (p:Prop):Int:=if p then 0 else 1
theorem off_t {p:Prop} (h:p):off p=0:=if_pos h
theorem off_f {p:Prop} (h:¬p):off p=1:=if_neg h
theorem oS (p:Prop):(p∧off p=0)∨(¬p∧off p=1):=by
 by_cases h:p
 ·exact .inl ⟨h,off_t h⟩
 ·exact .inr ⟨h,off_f h⟩
noncomputable def unt (nB:Nat) (T:Nat→Prop):Int:=sm nB fun k=>off (T k)
theorem jv (nB:Nat) (T:Nat→Prop):0≤unt nB T:=lK fun i _=>by rcases oS (T i)with⟨_,h⟩|⟨_,h⟩ <;> omega
theorem off_mono {p q:Prop} (h:p→q):off q≤off p:=by
 rcases oS p with⟨h1,e1⟩|⟨h1,e1⟩ <;> rcases oS q with⟨h2,e2⟩|⟨h2,e2⟩ <;> first|omega|exact absurd (h h1) h2
theorem unt_le {nB:Nat} {T T':Nat→Prop} (h:∀k,T k→T' k):unt nB T'≤unt nB T:=pk fun k _=>off_mono (h k)
theorem ry {nB:Nat} {T:Nat→Prop} {k:Nat} (hk:k<nB) (h1:¬T k):unt nB (fun j=>T j∨j=k)=unt nB T-1:=by
 have h0:sm nB (fun j=>off (T j∨j=k))=sm nB (fun j=>off (T j))-off (T k)+off (T k∨k=k):=oR (f:=fun j=>off (T j)) (g:=fun j=>off (T j∨j=k)) hk (fun i _ hi=>by
  by_cases h:T i
  ·rw[off_t h,off_t (.inl h)]
  ·rw[off_f h,off_f fun hh=>hh.elim h hi])
 rw[off_f h1,off_t (Or.inr E)]at h0
 show sm nB (fun j=>off (T j∨j=k))=sm nB (fun j=>off (T j))-1
 omega
structure MatX (S:Nat→Nat→Prop) (T:Nat→Prop) (h:Nat→Option Nat):Prop where
 suit:∀k o,¬T k→h k=some o→S o k
 inj:∀k k' o,¬T k→¬T k'→h k=some o→h k'=some o→k=k'
def DomX (T:Nat→Prop) (h:Nat→Option Nat) (o:Nat):Prop:=∃k,¬T k∧h k=some o
structure AugY (S:Nat→Nat→Prop) (T:Nat→Prop) (o:Nat) (h h':Nat→Option Nat):Prop where
 keep:∀k,T k→h' k=h k
 mat:MatX S T h'
 dom:∀x,DomX T h' x↔x=o∨DomX T h x
structure AugN (S:Nat→Nat→Prop) (T T':Nat→Prop) (o:Nat) (h:Nat→Option Nat):Prop where
 sub:∀k,T k→T' k
 shut:∀k,T' k→¬T k→∃x,h k=some x∧∀k',S x k'→T' k'
 own:∀k',S o k'→T' k'
theorem MatX.more {S:Nat→Nat→Prop} {T T':Nat→Prop} {h:Nat→Option Nat} (hM:MatX S T h) (hs:∀k,T k→T' k):MatX S T' h :=
 ⟨fun k o hk e=>hM.suit k o (fun ht=>hk (hs k ht)) e,fun k k' o hk hk' e e'=>hM.inj k k' o (fun ht=>hk (hs k ht)) (fun ht=>hk' (hs k' ht)) e e'⟩
theorem r7 {S:Nat→Nat→Prop} {T:Nat→Prop} {o k:Nat} {h:Nat→Option Nat} (hM:MatX S T h) (hk:¬T k) (hS:S o k) (hn:h k=none) (ho:¬DomX T h o):AugY S T o h (fun j=>if j=k then some o else h j) where
 keep:=fun j hj=>if_neg (fun(e:j=k)=>hk (e▸hj))
 mat:=by
  refine⟨fun j x hj e=>?_,fun j j' x hj hj' e e'=>?_⟩
  ·by_cases hjk:j=k
   ·subst hjk;simp only[if_pos E]at e;cases e;exact hS
   ·simp only[if_neg hjk]at e;exact hM.suit j x hj e
  ·by_cases hjk:j=k <;> by_cases hjk':j'=k
   ·rw[hjk,hjk']
   ·subst hjk
    simp only[if_pos E]at e
    simp only[if_neg hjk']at e'
    cases e
    exact absurd ⟨j',hj',e'⟩ ho
   ·subst hjk'
    simp only[if_pos E]at e'
    simp only[if_neg hjk]at e
    cases e'
    exact absurd ⟨j,hj,e⟩ ho
   ·simp only[if_neg hjk]at e
    simp only[if_neg hjk']at e'
    exact hM.inj j j' x hj hj' e e'
 dom:=fun x=>by
  refine⟨fun⟨j,hj,e⟩=>?_,fun hx=>?_⟩
  ·by_cases hjk:j=k
   ·simp only[if_pos hjk]at e;cases e;exact .inl E
   ·simp only[if_neg hjk]at e;exact .inr ⟨j,hj,e⟩
  ·rcases hx with rfl|⟨j,hj,e⟩
   ·exact⟨k,hk,if_pos E⟩
   ·refine⟨j,hj,?_⟩
    have:j≠k:=fun e'=>by subst e';rw[hn]at e;cases e
    simp only[if_neg this];exact e
theorem qW {S:Nat→Nat→Prop} {T:Nat→Prop} {o k x:Nat} {h h':Nat→Option Nat} (hM:MatX S T h) (hk:¬T k) (hS:S o k) (hx:h k=some x) (ho:¬DomX T h o) (hA:AugY S (fun j=>T j∨j=k) x h h'):AugY S T o h (fun j=>if j=k then some o else h' j):=by
 have hd:∀z,(∃j,¬(T j∨j=k)∧h' j=some z)↔DomX T h z:=fun z=>by
  refine(hA.dom z).trans ⟨fun hz=>?_,fun⟨j,hj,e⟩=>?_⟩
  ·rcases hz with rfl|⟨j,hj,e⟩
   ·exact⟨k,hk,hx⟩
   ·exact⟨j,fun ht=>hj (.inl ht),e⟩
  ·by_cases hjk:j=k
   ·subst hjk;rw[hx]at e;cases e;exact .inl E
   ·exact .inr ⟨j,fun ht=>ht.elim hj hjk,e⟩
 have hno:∀j,¬T j→j≠k→h' j≠some o:=fun j hj hjk e=>ho ((hd o).1 ⟨j,fun ht=>ht.elim hj hjk,e⟩)
 refine⟨fun j hj=>?_,⟨fun j z hj e=>?_,fun j j' z hj hj' e e'=>?_⟩,fun z=>⟨fun⟨j,hj,e⟩=>?_,fun hz=>?_⟩⟩
 ·have:j≠k:=fun e=>hk (e▸hj)
  simp only[if_neg this]
  exact hA.keep j (.inl hj)
 ·by_cases hjk:j=k
  ·subst hjk;simp only[if_pos E]at e;cases e;exact hS
  ·simp only[if_neg hjk]at e;exact hA.mat.suit j z (fun ht=>ht.elim hj hjk) e
 ·by_cases hjk:j=k <;> by_cases hjk':j'=k
  ·rw[hjk,hjk']
  ·simp only[if_pos hjk]at e
   simp only[if_neg hjk']at e'
   cases e
   exact absurd e' (hno j' hj' hjk')
  ·simp only[if_pos hjk']at e'
   simp only[if_neg hjk]at e
   cases e'
   exact absurd e (hno j hj hjk)
  ·simp only[if_neg hjk]at e
   simp only[if_neg hjk']at e'
   exact hA.mat.inj j j' z (fun ht=>ht.elim hj hjk) (fun ht=>ht.elim hj' hjk') e e'
 ·by_cases hjk:j=k
  ·simp only[if_pos hjk]at e;cases e;exact .inl E
  ·simp only[if_neg hjk]at e;exact .inr ((hd z).1 ⟨j,fun ht=>ht.elim hj hjk,e⟩)
 ·rcases hz with rfl|hz
  ·exact⟨k,hk,if_pos E⟩
  ·obtain⟨j,hj,e⟩:=(hd z).2 hz
   have hjk:j≠k:=fun e'=>hj (.inr e')
   exact⟨j,fun ht=>hj (.inl ht),by simp only[if_neg hjk];exact e⟩
theorem pM {S:Nat→Nat→Prop} {T T1:Nat→Prop} {o:Nat} {h h':Nat→Option Nat} (hM:MatX S T h) (hs:∀k,T k→T1 k) (ho:¬DomX T h o) (hA:AugY S T1 o h h'):AugY S T o h h':=by
 have hk1:∀k z,T1 k→¬T k→h' k=some z→∀k',¬T1 k'→h' k'=some z→False:=fun k z ht hn e k' ht' e'=>by
  rw[hA.keep k ht]at e
  rcases (hA.dom z).1 ⟨k',ht',e'⟩with rfl|⟨j,hj,ej⟩
  ·exact ho ⟨k,hn,e⟩
  ·have:=hM.inj k j z hn (fun t=>hj (hs j t)) e ej
   subst this
   exact hj ht
 refine⟨fun k hk=>hA.keep k (hs k hk),⟨fun k z hk e=>?_,fun k k' z hk hk' e e'=>?_⟩,fun z=>⟨fun⟨k,hk,e⟩=>?_,fun hz=>?_⟩⟩
 ·by_cases ht:T1 k
  ·rw[hA.keep k ht]at e;exact hM.suit k z hk e
  ·exact hA.mat.suit k z ht e
 ·by_cases ht:T1 k <;> by_cases ht':T1 k'
  ·rw[hA.keep k ht]at e;rw[hA.keep k' ht']at e';exact hM.inj k k' z hk hk' e e'
  ·exact(hk1 k z ht hk e k' ht' e').elim
  ·exact(hk1 k' z ht' hk' e' k ht e).elim
  ·exact hA.mat.inj k k' z ht ht' e e'
 ·by_cases ht:T1 k
  ·rw[hA.keep k ht]at e;exact .inr ⟨k,hk,e⟩
  ·rcases (hA.dom z).1 ⟨k,ht,e⟩with rfl|⟨j,hj,ej⟩
   ·exact .inl E
   ·exact .inr ⟨j,fun t=>hj (hs j t),ej⟩
 ·rcases hz with rfl|⟨k,hk,e⟩
  ·obtain⟨k,hk,e⟩:=(hA.dom z).2 (.inl E)
   exact⟨k,fun t=>hk (hs k t),e⟩
  ·by_cases ht:T1 k
   ·exact⟨k,hk,by rw[hA.keep k ht];exact e⟩
   ·obtain⟨j,hj,ej⟩:=(hA.dom z).2 (.inr ⟨k,ht,e⟩)
    exact⟨j,fun t=>hj (hs j t),ej⟩
theorem aug {S:Nat→Nat→Prop} {nB:Nat} (hB:∀o k,S o k→k<nB):∀(u:Nat) (T:Nat→Prop) (o:Nat) (h:Nat→Option Nat),unt nB T≤(u:Int)→MatX S T h→¬DomX T h o→(∃h',AugY S T o h h')∨∃T',AugN S T T' o h:=by
 intro u
 induction u with
 | zero =>
  intro T o h hu hM ho
  refine .inr ⟨T,fun _ h=>h,fun k h1 h2=>absurd h1 h2,fun k hS=>?_⟩
  by_cases hk:T k
  ·exact hk
  ·have h1:=ry (hB o k hS) hk
   have h2:=jv nB (fun j=>T j∨j=k)
   omega
 | succ u ih =>
  intro T o h hu hM ho
  by_cases hex:∃k,¬T k∧S o k
  ·obtain⟨k,hk,hS⟩:=hex
   cases hn:h k with
   | none=>exact .inl ⟨_,r7 hM hk hS hn ho⟩
   | some x =>
    have h1:=ry (hB o k hS) hk
    have hM1:MatX S (fun j=>T j∨j=k) h:=hM.more fun j hj=>.inl hj
    have hx1:¬DomX (fun j=>T j∨j=k) h x:=fun⟨j,hj,e⟩=>hj (.inr (hM.inj j k x (fun t=>hj (.inl t)) hk e hn))
    rcases ih (fun j=>T j∨j=k) x h (by omega) hM1 hx1 with⟨h',hA⟩|⟨T',hA⟩
    ·exact .inl ⟨_,qW hM hk hS hn ho hA⟩
    ·have hu':unt nB T'≤(u:Int):=by have:=unt_le (nB:=nB) hA.sub;omega
     have hsub:∀j,T j→T' j:=fun j hj=>hA.sub j (.inl hj)
     rcases ih T' o h hu' (hM.more hsub) (fun⟨j,hj,e⟩=>ho ⟨j,fun t=>hj (hsub j t),e⟩)with⟨h',hA'⟩|⟨T'',hA'⟩
     ·exact .inl ⟨h',pM hM hsub ho hA'⟩
     ·refine .inr ⟨T'',fun j hj=>hA'.sub j (hsub j hj),fun j hj hnj=>?_,hA'.own⟩
      by_cases hj':T' j
      ·by_cases hjk:j=k
       ·subst hjk
        exact⟨x,hn,fun k' hk'=>hA'.sub k' (hA.own k' hk')⟩
       ·obtain⟨z,e,hz⟩:=hA.shut j hj' (fun t=>t.elim hnj hjk)
        exact⟨z,e,fun k' hk'=>hA'.sub k' (hz k' hk')⟩
      ·exact hA'.shut j hj hj'
  ·exact .inr ⟨T,fun _ h=>h,fun k h1 h2=>absurd h1 h2,fun k hS=>by
    by_cases hk:T k
    ·exact hk
    ·exact absurd ⟨k,hk,hS⟩ hex⟩
structure Shut (S:Nat→Nat→Prop) (C:Nat→Prop) (h:Nat→Option Nat):Prop where
 shut:∀k,C k→∃x,h k=some x∧∀k',S x k'→C k'
theorem Mat.x {S:Nat→Nat→Prop} {h:Nat→Option Nat} (hM:Mat S h):MatX S (fun _=>False) h:=⟨fun k o _ e=>hM.suit k o e,fun k k' o _ _ e e'=>hM.inj k k' o e e'⟩
theorem nN {h:Nat→Option Nat} {o:Nat}:DomX (fun _=>False) h o↔Dom h o:=⟨fun⟨k,_,e⟩=>⟨k,e⟩,fun⟨k,e⟩=>⟨k,id,e⟩⟩
theorem AugY.mat0 {S:Nat→Nat→Prop} {o:Nat} {h h':Nat→Option Nat} (hA:AugY S (fun _=>False) o h h'):Mat S h':=⟨fun k o e=>hA.mat.suit k o id e,fun k k' o e e'=>hA.mat.inj k k' o id id e e'⟩
theorem AugY.dom0 {S:Nat→Nat→Prop} {o:Nat} {h h':Nat→Option Nat} (hA:AugY S (fun _=>False) o h h') (x:Nat):Dom h' x↔x=o∨Dom h x:=by rw[←nN,←nN];exact hA.dom x
theorem AugN.shut0 {S:Nat→Nat→Prop} {T':Nat→Prop} {o:Nat} {h:Nat→Option Nat} (hA:AugN S (fun _=>False) T' o h):Shut S T' h:=⟨fun k hk=>hA.shut k hk id⟩
theorem aug0 {S:Nat→Nat→Prop} {nB nO:Nat} (hF:Fit S nB nO) {h:Nat→Option Nat} (hM:Mat S h) {o:Nat} (ho:¬Dom h o):(∃h',Mat S h'∧∀x,Dom h' x↔x=o∨Dom h x)∨∃C,Shut S C h∧∀k,S o k→C k:=by
 rcases aug hF.bay (unt nB fun _=>False).toNat (fun _=>False) o h (by have:=jv nB fun _=>False;omega) hM.x (fun hd=>ho (nN.1 hd))with⟨h',hA⟩|⟨T',hA⟩
 ·exact .inl ⟨h',hA.mat0,hA.dom0⟩
 ·exact .inr ⟨T',hA.shut0,hA.own⟩
theorem filled {S:Nat→Nat→Prop} {nB nO:Nat} (hF:Fit S nB nO) {h h2:Nat→Option Nat} (hM:Mat S h) {C:Nat→Prop} (hC:Shut S C h) (hM2:Mat S h2) (hX:∀k x,C k→h k=some x→Dom h2 x):∀k,C k→∃x,h2 k=some x∧∃k1,C k1∧h k1=some x:=by
 let X:Nat→Prop:=fun x=>∃k1,C k1∧h k1=some x
 have e1:=bij hF hM (fun o=>if X o then 1 else 0)
 have e2:=bij hF hM2 (fun o=>if X o then 1 else 0)
 have e3:sm nO (fun o=>if Dom h o then(if X o then(1:Int)else 0)else 0)=sm nO (fun o=>if Dom h2 o then(if X o then(1:Int)else 0)else 0):=fv fun o _=>by
  by_cases hx:X o
  ·obtain⟨k1,hk1,e⟩:=hx
   rw[if_pos ⟨k1,e⟩,if_pos (hX k1 o hk1 e)]
  ·simp only[if_neg hx]
   split <;> split <;> rfl
 have e4:∀k,ov (fun o=>if X o then(1:Int)else 0) (h k)=if C k then 1 else 0:=fun k=>by
  by_cases hk:C k
  ·obtain⟨x,e,_⟩:=hC.shut k hk
   rw[e,if_pos hk]
   exact if_pos ⟨k,hk,e⟩
  ·rw[if_neg hk]
   cases e:h k with
   | none=>rfl
   | some x=>exact if_neg fun⟨k1,hk1,e1⟩=>hk (hM.inj k1 k x e1 e▸hk1)
 have e5:∀k,ov (fun o=>if X o then(1:Int)else 0) (h2 k)≤ov (fun o=>if X o then(1:Int)else 0) (h k):=fun k=>by
  rw[e4]
  cases e:h2 k with
  | none=>show(0:Int)≤_;split <;> omega
  | some x =>
   show(if X x then(1:Int)else 0)≤_
   by_cases hx:X x
   ·obtain⟨k1,hk1,e1⟩:=hx
    obtain⟨x',e',hs⟩:=hC.shut k1 hk1
    rw[e1]at e';cases e'
    rw[if_pos (hs k (hM2.suit k x e)),if_pos (show X x from⟨k1,hk1,e1⟩)]
    omega
   ·rw[if_neg hx];split <;> omega
 intro k hk
 obtain⟨x0,e0,_⟩:=hC.shut k hk
 have hkB:k<nB:=hF.bay x0 k (hM.suit k x0 e0)
 by_cases hlt:ov (fun o=>if X o then(1:Int)else 0) (h2 k)<ov (fun o=>if X o then(1:Int)else 0) (h k)
 ·have:=sm_lt hkB (fun i _=>e5 i) hlt
  omega
 ·rw[e4,if_pos hk]at hlt
  cases e:h2 k with
  | none=>rw[e]at hlt;exact absurd (show(0:Int)<1 by omega) hlt
  | some x =>
   rw[e]at hlt
   by_cases hx:X x
   ·exact⟨x,E,hx⟩
   ·exfalso
    apply hlt
    show(if X x then(1:Int)else 0)<1
    rw[if_neg hx];omega
def Matchable (S:Nat→Nat→Prop) (A:Nat→Prop):Prop:=∃h,Mat S h∧∀x,Dom h x↔A x
theorem Matchable.sub {S:Nat→Nat→Prop} {A B:Nat→Prop} (hA:Matchable S A) (hB:∀x,B x→A x):Matchable S B:=by
 obtain⟨h,hM,hd⟩:=hA
 refine⟨fun k=>match h k with|none=>none|some x=>if B x then some x else none,⟨fun k o e=>?_,fun k k' o e e'=>?_⟩,fun x=>⟨fun⟨k,e⟩=>?_,fun hx=>?_⟩⟩
 ·cases hk:h k with
  | none=>simp only[hk]at e;cases e
  | some x =>
   simp only[hk]at e
   split at e
   ·cases e;exact hM.suit k _ hk
   ·cases e
 ·cases hk:h k with
  | none=>simp only[hk]at e;cases e
  | some x =>
   cases hk':h k' with
   | none=>simp only[hk']at e';cases e'
   | some x' =>
    simp only[hk]at e
    simp only[hk']at e'
    split at e
    ·split at e'
     ·cases e;cases e';exact hM.inj k k' _ hk hk'
     ·cases e'
    ·cases e
 ·cases hk:h k with
  | none=>simp only[hk]at e;cases e
  | some z =>
   simp only[hk]at e
   split at e
   ·cases e;assumption
   ·cases e
 ·obtain⟨k,e⟩:=(hd x).2 (hB x hx)
  exact⟨k,by simp only[e];exact if_pos hx⟩
set_option linter.unusedSimpArgs false
open Classical
def wor (nB:Nat) (w:Nat→Int) (h:Nat→Option Nat):Int:=sm nB fun k=>ov w (h k)
structure Opt (S:Nat→Nat→Prop) (w:Nat→Int) (nB:Nat) (V:Int):Prop where
 some:∃h,Mat S h∧wor nB w h=V
 most:∀h,Mat S h→wor nB w h≤V
theorem Opt.unique {S:Nat→Nat→Prop} {w:Nat→Int} {nB:Nat} {V V':Int} (h:Opt S w nB V) (h':Opt S w nB V'):V=V':=by
 obtain⟨a,ha,ea⟩:=h.some
 obtain⟨b,hb,eb⟩:=h'.some
 have h1:=h'.most a ha
 have h2:=h.most b hb
 omega
structure Cert (S:Nat→Nat→Prop) (w:Nat→Int) (L:Nat→Prop) (i:Nat):Prop where
 out:∃h C,Mat S h∧(∀x,Dom h x→L x)∧Shut S C h∧(∀k,S i k→C k)∧∀k x,C k→h k=some x→w i≤w x
theorem Cert.more {S:Nat→Nat→Prop} {w:Nat→Int} {L L':Nat→Prop} {i:Nat} (hc:Cert S w L i) (hs:∀x,L x→L' x):Cert S w L' i:=by
 obtain⟨h,C,h1,h2,h3,h4,h5⟩:=hc.out
 exact⟨h,C,h1,fun x hx=>hs x (h2 x hx),h3,h4,h5⟩
structure Greedy (S:Nat→Nat→Prop) (w:Nat→Int) (P L:Nat→Prop):Prop where
 can:Matchable S L
 sub:∀x,L x→P x
 cert:∀i,P i→¬L i→Cert S w L i
theorem Greedy.nil {S:Nat→Nat→Prop} {w:Nat→Int}:Greedy S w (fun _=>False) (fun _=>False):=⟨⟨fun _=>none,⟨fun _ _ e=>(by cases e),fun _ _ _ e=>(by cases e)⟩,fun x=>⟨fun⟨k,e⟩=>(by cases e),False.elim⟩⟩,fun _ h=>h,fun _ h=>h.elim⟩
theorem Greedy.no {S:Nat→Nat→Prop} {w:Nat→Int} {nB nO:Nat} (hF:Fit S nB nO) {P L:Nat→Prop} {i:Nat} (h:Greedy S w P L) (hw:∀x,P x→w i≤w x) (hm:¬Matchable S fun x=>L x∨x=i):Greedy S w (fun x=>P x∨x=i) L:=by
 have hi:¬L i:=fun hl=>hm (by
  obtain⟨m,hM,hd⟩:=h.can
  exact⟨m,hM,fun x=>(hd x).trans ⟨.inl,fun hx=>hx.elim id fun e=>e▸hl⟩⟩)
 refine⟨h.can,fun x hx=>.inl (h.sub x hx),fun j hj hn=>?_⟩
 rcases hj with hj|rfl
 ·exact h.cert j hj hn
 ·obtain⟨m,hM,hd⟩:=h.can
  rcases aug0 hF hM (o:=j) (fun hj=>hn ((hd j).1 hj))with⟨m',hM',hd'⟩|⟨C,hC,hs⟩
  ·exact absurd ⟨m',hM',fun x=>(hd' x).trans ⟨fun hx=>hx.elim .inr fun hx=>.inl ((hd x).1 hx),fun hx=>hx.elim (fun hl=>.inr ((hd x).2 hl)) .inl⟩⟩ hm
  ·exact⟨m,C,hM,fun x hx=>(hd x).1 hx,hC,hs,fun k x _ e=>hw x (h.sub x ((hd x).1 ⟨k,e⟩))⟩
inductive Way (S:Nat→Nat→Prop) (h:Nat→Option Nat) (k:Nat):Nat→Prop
 | refl:Way S h k k
 | step {k1 k2 x:Nat}:Way S h k k1→h k1=some x→S x k2→Way S h k k2
theorem Way.head {S:Nat→Nat→Prop} {h:Nat→Option Nat} {k k' k2 x:Nat} (e:h k=some x) (hs:S x k') (hw:Way S h k' k2):Way S h k k2:=by
 induction hw with
 | refl=>exact .step .refl e hs
 | step _ e1 s1 ih=>exact .step ih e1 s1
structure Prices (S:Nat→Nat→Prop) (w:Nat→Int) (nB nO:Nat) (h:Nat→Option Nat) (q u:Nat→Int):Prop where
 q0:∀k,0≤q k
 free:∀k,h k=none→q k=0
 held:∀k x,h k=some x→q k≤w x
 least:∀k x k',h k=some x→S x k'→q k≤q k'
 out:∀i k,i<nO→¬Dom h i→S i k→w i≤q k
 uset:∀k x,h k=some x→u x=w x-q k
 unot:∀i,¬Dom h i→u i=0
 total:wor nB w h=sm nB q+sm nO u
 less:∀k,∃h',Mat S h'∧h' k=none∧wor nB w h'=wor nB w h-q k
theorem Prices.u0 {S:Nat→Nat→Prop} {w:Nat→Int} {nB nO:Nat} {h:Nat→Option Nat} {q u:Nat→Int} (hp:Prices S w nB nO h q u) (i:Nat):0≤u i:=by
 by_cases hd:Dom h i
 ·obtain⟨k,e⟩:=hd
  have h1:=hp.uset k i e
  have h2:=hp.held k i e
  omega
 ·rw[hp.unot i hd];omega
theorem Prices.feas {S:Nat→Nat→Prop} {w:Nat→Int} {nB nO:Nat} {h:Nat→Option Nat} {q u:Nat→Int} (hF:Fit S nB nO) (hp:Prices S w nB nO h q u) {i k:Nat} (hs:S i k):w i≤q k+u i:=by
 by_cases hd:Dom h i
 ·obtain⟨k',e⟩:=hd
  have h1:=hp.uset k' i e
  have h2:=hp.least k' i k e hs
  omega
 ·rw[hp.unot i hd];have:=hp.out i k (hF.ord i k hs) hd hs;omega
theorem weak {S:Nat→Nat→Prop} {w:Nat→Int} {nB nO:Nat} (hF:Fit S nB nO) {q u:Nat→Int} (hq:∀k,k<nB→0≤q k) (hu:∀i,i<nO→0≤u i) (hf:∀i k,S i k→w i≤q k+u i) {h:Nat→Option Nat} (hM:Mat S h):wor nB w h≤sm nB (fun k=>if h k=none then 0 else q k)+sm nO u:=by
 have h1:wor nB w h≤sm nB (fun k=>(if h k=none then 0 else q k)+ov u (h k)):=pk fun k _=>by
  cases e:h k with
  | none=>simp[ov]
  | some x =>
   have:=hf x k (hM.suit k x e)
   simp only[ov,reduceCtorEq,if_false]
   exact this
 have h2:=sm_add (fun k=>if h k=none then 0 else q k) (fun k=>ov u (h k)) nB
 have h3:=bij hF hM u
 have h4:sm nO (fun o=>if Dom h o then u o else 0)≤sm nO u:=pk fun o ho=>by
  have:=hu o ho
  split
  ·exact Int.le_refl _
  ·exact this
 omega
theorem weak_but {S:Nat→Nat→Prop} {w:Nat→Int} {nB nO:Nat} (hF:Fit S nB nO) {q u:Nat→Int} (hq:∀k,k<nB→0≤q k) (hu:∀i,i<nO→0≤u i) (hf:∀i k,S i k→w i≤q k+u i) {h:Nat→Option Nat} (hM:Mat S h) {k:Nat} (hk:k<nB) (hn:h k=none):wor nB w h≤sm nB q-q k+sm nO u:=by
 have h1:=weak hF hq hu hf hM
 have h3:=oR (f:=q) (g:=fun j=>if j=k then 0 else q j) hk (fun i _ hi=>by simp only[if_neg hi])
 have h4:(if k=k then(0:Int)else q k)=0:=if_pos E
 rw[h4]at h3
 have h2:sm nB (fun j=>if h j=none then 0 else q j)≤sm nB (fun j=>if j=k then 0 else q j):=pk fun j hj=>by
  have:=hq j hj
  by_cases hjk:j=k
  ·subst hjk;simp[hn]
  ·simp only[if_neg hjk]
   split
   ·exact this
   ·exact Int.le_refl _
 omega
def freed (h:Nat→Option Nat) (k:Nat):Nat→Option Nat:=fun j=>if j=k then none else h j
theorem r9 (h:Nat→Option Nat) (k:Nat):freed h k k=none:=if_pos E
theorem pJ {h:Nat→Option Nat} {k j:Nat} (hj:j≠k):freed h k j=h j:=if_neg hj
theorem cA {h:Nat→Option Nat} {k j x:Nat} (e:freed h k j=some x):j≠k∧h j=some x:=by
 by_cases hj:j=k
 ·subst hj;rw[r9]at e;cases e
 ·rw[pJ hj]at e;exact⟨hj,e⟩
theorem Mat.freed {S:Nat→Nat→Prop} {h:Nat→Option Nat} (hM:Mat S h) (k:Nat):Mat S (freed h k) :=
 ⟨fun j o e=>hM.suit j o (cA e).2,fun j j' o e e'=>hM.inj j j' o (cA e).2 (cA e').2⟩
theorem wor_freed {nB k:Nat} (hk:k<nB) (w:Nat→Int) (h:Nat→Option Nat):wor nB w (freed h k)=wor nB w h-ov w (h k):=by
 have:=oR (f:=fun j=>ov w (h j)) (g:=fun j=>ov w (freed h k j)) hk (fun i _ hi=>by simp only[pJ hi])
 simp only[r9]at this
 have e:ov w none=0:=rfl
 rw[e]at this
 unfold wor
 omega
theorem wor_dom {S:Nat→Nat→Prop} {nB nO:Nat} (hF:Fit S nB nO) (w:Nat→Int) {h h':Nat→Option Nat} (hM:Mat S h) (hM':Mat S h') (hd:∀x,Dom h x↔Dom h' x):wor nB w h=wor nB w h':=by
 unfold wor
 rw[bij hF hM w,bij hF hM' w]
 refine fv fun o _=>?_
 by_cases hc:Dom h o
 ·rw[if_pos hc,if_pos ((hd o).1 hc)]
 ·rw[if_neg hc,if_neg fun hh=>hc ((hd o).2 hh)]
theorem way_less {S:Nat→Nat→Prop} {nB nO:Nat} (hF:Fit S nB nO) (w:Nat→Int) {h:Nat→Option Nat} (hM:Mat S h) {k0 k1:Nat} (hk1:k1<nB) (hw:Way S h k0 k1):∃h',Mat S h'∧h' k0=none∧wor nB w h'=wor nB w h-ov w (h k1):=by
 have e2:=wor_freed hk1 w h
 have hM2:=hM.freed k1
 cases hk0:freed h k1 k0 with
 | none=>exact⟨_,hM2,hk0,e2⟩
 | some o =>
  obtain⟨hne,ho⟩:=cA hk0
  -- without the first bay
  let S':Nat→Nat→Prop:=fun x k=>S x k∧k≠k0
  have hF':Fit S' nB nO:=⟨fun x k hs=>hF.bay x k hs.1,fun x k hs=>hF.ord x k hs.1⟩
  let h3:=freed (freed h k1) k0
  have hM3:Mat S' h3:=⟨fun k x e=>⟨hM2.suit k x (cA e).2,(cA e).1⟩,(hM2.freed k0).inj⟩
  have hno:¬Dom h3 o:=fun⟨k,e⟩=>(cA e).1 (hM2.inj k k0 o (cA e).2 hk0)
  rcases aug0 hF' hM3 hno with⟨h',hM',hd⟩|⟨C,hC,hs⟩
  ·have hMS:Mat S h':=⟨fun k x e=>(hM'.suit k x e).1,hM'.inj⟩
   refine⟨h',hMS,?_,?_⟩
   ·cases e:h' k0 with
    | none=>rfl
    | some x=>exact absurd E (hM'.suit k0 x e).2
   ·rw[←e2]
    refine wor_dom hF w hMS hM2 fun x=>?_
    rw[hd x]
    refine⟨fun hx=>?_,fun⟨k,e⟩=>?_⟩
    ·rcases hx with rfl|⟨k,e⟩
     ·exact⟨k0,hk0⟩
     ·exact⟨k,(cA e).2⟩
    ·by_cases hk:k=k0
     ·subst hk;rw[hk0]at e;cases e;exact .inl E
     ·exact .inr ⟨k,(pJ hk).trans e⟩
  ·exfalso
   have hall:∀k,Way S h k0 k→C k∨k=k0:=fun k hk=>by
    induction hk with
    | refl=>exact .inr E
    | @step ka kb x _ e s ih =>
     by_cases hkb:kb=k0
     ·exact .inr hkb
     ·rcases ih with hc|rfl
      ·obtain⟨y,ey,hy⟩:=hC.shut ka hc
       have:=(cA (cA ey).2).2
       rw[e]at this;cases this
       exact .inl (hy kb ⟨s,hkb⟩)
      ·rw[ho]at e;cases e
       exact .inl (hs kb ⟨s,hkb⟩)
   rcases hall k1 hw with hc|e
   ·obtain⟨y,ey,_⟩:=hC.shut k1 hc
    exact(cA (cA ey).2).1 E
   ·exact hne e.symm
theorem prices {S:Nat→Nat→Prop} {w:Nat→Int} {nB nO:Nat} (hF:Fit S nB nO) (hw:∀i,0≤w i) {L:Nat→Prop} {h:Nat→Option Nat} (hM:Mat S h) (hd:∀x,Dom h x↔L x) (hc:∀i,i<nO→¬L i→Cert S w L i):∃q u,Prices S w nB nO h q u:=by
 have hv:∀k,0≤ov w (h k):=fun k=>by
  cases h k with
  | none=>exact Int.le_refl _
  | some x=>exact hw x
 have hex:∀k,∃k',Way S h k k'∧∀k'',Way S h k k''→ov w (h k')≤ov w (h k''):=fun k=>min_ex hv (ov w (h k)).toNat k .refl (by have:=hv k;omega)
 let r:Nat→Nat:=fun k=>Classical.choose (hex k)
 have hr:∀k,Way S h k (r k)∧∀k'',Way S h k k''→ov w (h (r k))≤ov w (h k''):=fun k=>Classical.choose_spec (hex k)
 let q:Nat→Int:=fun k=>ov w (h (r k))
 let u:Nat→Int:=fun i=>if hx:Dom h i then w i-q (Classical.choose hx)else 0
 have huset:∀k x,h k=some x→u x=w x-q k:=fun k x e=>by
  have hx:Dom h x:=⟨k,e⟩
  have:=hM.inj _ _ x (Classical.choose_spec hx) e
  show(if hx:Dom h x then w x-q (Classical.choose hx)else 0)=_
  rw[dif_pos hx,this]
 have hunot:∀i,¬Dom h i→u i=0:=fun i hi=>dif_neg hi
 have hfree:∀k,h k=none→q k=0:=fun k e=>by
  have h1:=(hr k).2 k .refl
  have h2:=hv (r k)
  rw[e]at h1
  have e0:ov w none=0:=rfl
  show ov w (h (r k))=0
  omega
 refine⟨q,u,fun k=>hv (r k),hfree,fun k x e=>?_,fun k x k' e hs=>(hr k).2 _ (.head e hs (hr k').1),fun i k hi hn hs=>?_,huset,hunot,?_,fun k=>?_⟩
 ·have h1:=(hr k).2 k .refl
  rw[e]at h1
  exact h1
 ·obtain⟨h0,C,hM0,hd0,hC,hsC,hwC⟩:=(hc i hi (fun hl=>hn ((hd i).2 hl))).out
  have hf:=filled hF hM0 hC hM (fun k x _ e=>(hd x).2 (hd0 x ⟨k,e⟩))
  have hall:∀k',Way S h k k'→C k':=fun k' hk'=>by
   induction hk' with
   | refl=>exact hsC k hs
   | @step ka kb x _ e s ih =>
    obtain⟨y,ey,k1,hk1,e1⟩:=hf ka ih
    rw[e]at ey;cases ey
    obtain⟨z,ez,hz⟩:=hC.shut k1 hk1
    rw[e1]at ez;cases ez
    exact hz kb s
  obtain⟨y,ey,k1,hk1,e1⟩:=hf _ (hall _ (hr k).1)
  show w i≤ov w (h (r k))
  rw[ey]
  exact hwC k1 y hk1 e1
 ·have h1:=bij hF hM u
  have h2:sm nO (fun o=>if Dom h o then u o else 0)=sm nO u:=fv fun o _=>by
   by_cases hx:Dom h o
   ·rw[if_pos hx]
   ·rw[if_neg hx,hunot o hx]
  have h3:sm nB (fun k=>ov u (h k))=sm nB (fun k=>ov w (h k)-q k):=fv fun k _=>by
   cases e:h k with
   | none=>rw[hfree k e];rfl
   | some x=>exact huset k x e
  have h4:=sm_sub (fun k=>ov w (h k)) q nB
  have e5:sm nB (fun k=>ov w (h k))=wor nB w h:=rfl
  omega
 ·by_cases hk:r k<nB
  ·exact way_less hF w hM hk (hr k).1
  ·have hout:h (r k)=none:=by
    cases e:h (r k)with
    | none=>rfl
    | some x=>exact absurd (hF.bay x _ (hM.suit _ x e)) hk
   have hq:q k=0:=by show ov w (h (r k))=0;rw[hout];rfl
   by_cases hk2:h k=none
   ·exact⟨h,hM,hk2,by omega⟩
   ·exfalso
    have:=(hr k).1
    have hstep:∀k',Way S h k k'→k'<nB:=fun k' hk'=>by
     cases hk' with
     | refl =>
      cases e:h k with
      | none=>exact absurd e hk2
      | some x=>exact hF.bay x k (hM.suit k x e)
     | step _ _ s=>exact hF.bay _ _ s
    exact hk (hstep _ this)
theorem Prices.without {S:Nat→Nat→Prop} {w:Nat→Int} {nB nO:Nat} (hF:Fit S nB nO) {h:Nat→Option Nat} (hM:Mat S h) {q u:Nat→Int} (hp:Prices S w nB nO h q u) {k:Nat} (hk:k<nB):Opt (fun i j=>S i j∧j≠k) w nB (wor nB w h-q k):=by
 refine⟨?_,fun h2 hM2=>?_⟩
 ·obtain⟨h',hM',hn,e⟩:=hp.less k
  refine⟨h',⟨fun j o ej=>⟨hM'.suit j o ej,fun ejk=>?_⟩,hM'.inj⟩,e⟩
  subst ejk;rw[hn]at ej;cases ej
 ·have hM3:Mat S h2:=⟨fun j o e=>(hM2.suit j o e).1,hM2.inj⟩
  have hn:h2 k=none:=by
   cases e:h2 k with
   | none=>rfl
   | some x=>exact absurd E (hM2.suit k x e).2
  have:=weak_but (w:=w) (q:=q) (u:=u) hF (fun k _=>hp.q0 k) (fun i _=>hp.u0 i) (fun i k hs=>hp.feas hF hs) hM3 hk hn
  rw[hp.total]
  omega
theorem Greedy.prices {S:Nat→Nat→Prop} {w:Nat→Int} {nB nO:Nat} (hF:Fit S nB nO) (hw:∀i,0≤w i) {P L:Nat→Prop} (hg:Greedy S w P L) (hP:∀i,i<nO→P i) {h:Nat→Option Nat} (hM:Mat S h) (hd:∀x,Dom h x↔L x):∃q u,Prices S w nB nO h q u:=Go.Proofs.YthndghnkebboaaaGreat.prices hF hw hM hd fun i hi hn=>hg.cert i (hP i hi) hn
set_option linter.unusedSimpArgs false
def oat (y:TY) (o:Nat):TO:=y.fR.getD o default
def bat (y:TY) (k:Nat):TBay:=y.fB.getD k default
theorem rdL_oat (y:TY) (o:Nat):rdL y.fR (o:Int)=oat y o:=by unfold rdL oat;rw[Int.toNat_natCast]
theorem rdL_bat (y:TY) (k:Nat):rdL y.fB (k:Int)=bat y k:=by unfold rdL bat;rw[Int.toNat_natCast]
def pY (o:TO) (b:TBay):Bool:=decide (o.fH.fLo≤b.fHour∧b.fHour≤o.fH.fHi)&&decide (o.fD≤b.fD)
theorem suits_eq (o:TO) (b:TBay):jB o b=some (pY o b):=by unfold jB;rw[iX];rfl
def Su (y:TY) (o k:Nat):Prop:=o<y.fR.length∧k<y.fB.length∧pY (oat y o) (bat y k)=true
def wo (y:TY) (o:Nat):Int:=(oat y o).fW
theorem Su.fit (y:TY):Fit (Su y) y.fB.length y.fR.length:=⟨fun o k h=>h.2.1,fun o k h=>h.1⟩
def pw (g:List (Int × Int)) (k:Nat):Option Nat:=if bm g (k:Int)=true then some (aA 0 g (k:Int)).toNat else none
def tri (t:List (Int × Bool)) (k:Nat):Prop:=aA false t (k:Int)=true
def OkG (nB nO:Nat) (g:List (Int × Int)):Prop:=∀p∈g,∃k o:Nat,p=((k:Int),(o:Int))∧k<nB∧o<nO
theorem OkG.nil {nB nO:Nat}:OkG nB nO []:=fun p hp=>by cases hp
theorem OkG.cons {nB nO k o:Nat} {g:List (Int × Int)} (h:OkG nB nO g) (hk:k<nB) (ho:o<nO):OkG nB nO (((k:Int),(o:Int))::g):=fun p hp=>by
 rcases List.mem_cons.1 hp with rfl|hp
 ·exact⟨k,o,E,hk,ho⟩
 ·exact h p hp
theorem nQ (g:List (Int × Int)) (k o:Nat):pw (((k:Int),(o:Int))::g)=fun j=>if j=k then some o else pw g j:=by
 funext j
 unfold pw
 rw[dS,fh]
 by_cases h:j=k
 ·subst h
  rw[if_pos E,if_pos E,if_pos E,if_pos E,Int.toNat_natCast]
 ·rw[if_neg (show ¬((k:Int)=(j:Int)) by omega),if_neg (show ¬((k:Int)=(j:Int)) by omega),if_neg h]
theorem l5 (t:List (Int × Bool)) (k:Nat):tri (((k:Int),true)::t)=fun j=>tri t j∨j=k:=by
 funext j
 unfold tri
 rw[fh]
 refine propext ?_
 by_cases h:j=k
 ·subst h;rw[if_pos E];exact⟨fun _=>.inr E,fun _=>E⟩
 ·rw[if_neg (show ¬((k:Int)=(j:Int)) by omega)];exact⟨.inl,fun hh=>hh.elim id fun e=>absurd e h⟩
theorem so {nB nO:Nat}:∀{g:List (Int × Int)},OkG nB nO g→∀{k x:Nat},pw g k=some x→bm g (k:Int)=true∧aA 0 g (k:Int)=(x:Int)∧k<nB∧x<nO
 | [],_,k,x,e=>by cases e
 | p::g,hg,k,x,e=>by
  obtain⟨k',o,rfl,hk',ho⟩:=hg p (List.mem_cons_self ..)
  rw[nQ]at e
  rw[dS,fh]
  by_cases h:k=k'
  ·subst h
   rw[if_pos E,if_pos E]
   simp only[if_true]at e
   cases e
   exact⟨E,E,hk',ho⟩
  ·rw[if_neg (show ¬((k':Int)=(k:Int)) by omega),if_neg (show ¬((k':Int)=(k:Int)) by omega)]
   simp only[if_neg h]at e
   exact so (g:=g) (fun q hq=>hg q (List.mem_cons_of_mem _ hq)) e
theorem hold_has {g:List (Int × Int)} {k:Nat} (e:pw g k=none):bm g (k:Int)=false:=by
 unfold pw at e
 by_cases h:bm g (k:Int)=true
 ·rw[if_pos h]at e;cases e
 ·exact Bool.eq_false_iff.2 h
theorem o3 {k:Nat} (h:k<1000000):eg (k:Int)=true:=by
 unfold eg
 rw[Bool.and_eq_true,decide_eq_true_eq,decide_eq_true_eq];omega
theorem look (y:TY) (hB:y.fB.length≤1000) (hO:y.fR.length≤1000):∀(fuel o:Nat) (t:List (Int × Bool)) (g:List (Int × Int)),o<y.fR.length→OkG y.fB.length y.fR.length g→unt y.fB.length (tri t)<(fuel:Int)→(t.length:Int)+unt y.fB.length (tri t)≤2000→(g.length:Int)+unt y.fB.length (tri t)≤100000→MatX (Su y) (tri t) (pw g)→¬DomX (tri t) (pw g) o →
  ∃r t' g',bv fuel (o:Int) y t g=some (r,t',g')∧OkG y.fB.length y.fR.length g'∧(t'.length:Int)+unt y.fB.length (tri t')≤(t.length:Int)+unt y.fB.length (tri t)∧(g'.length:Int)+unt y.fB.length (tri t')≤(g.length:Int)+unt y.fB.length (tri t)∧(∀k,tri t k→tri t' k)∧((r=true∧AugY (Su y) (tri t) o (pw g) (pw g'))∨(r=false∧g'=g∧AugN (Su y) (tri t) (tri t') o (pw g))):=by
 intro fuel
 induction fuel with
 | zero =>
  intro o t g _ _ hu
  have:=jv y.fB.length (tri t)
  omega
 | succ fuel ih =>
  intro o t g ho hg hu hlt hlg hM hn
  have hinv:=bq (body:=bP (o:Int) y (bv fuel))
   (fun s=>∃(i:Nat) (t1:List (Int × Bool)),s=(false,(i:Int),t1,g)∧i≤y.fB.length∧(∀k,tri t k→tri t1 k)∧(t1.length:Int)+unt y.fB.length (tri t1)≤(t.length:Int)+unt y.fB.length (tri t)∧(∀k,tri t1 k→¬tri t k→∃x,pw g k=some x∧∀k',Su y x k'→tri t1 k')∧(∀k,k<i→Su y o k→tri t1 k))
   (fun _ out=>match out with
    | .inl u=>u.1=true∧OkG y.fB.length y.fR.length u.2.2.2∧(u.2.2.1.length:Int)+unt y.fB.length (tri u.2.2.1)≤(t.length:Int)+unt y.fB.length (tri t)∧(u.2.2.2.length:Int)+unt y.fB.length (tri u.2.2.1)≤(g.length:Int)+unt y.fB.length (tri t)∧(∀k,tri t k→tri u.2.2.1 k)∧AugY (Su y) (tri t) o (pw g) (pw u.2.2.2)
    | .inr u=>u.2.2.2=g∧(u.2.2.1.length:Int)+unt y.fB.length (tri u.2.2.1)≤(t.length:Int)+unt y.fB.length (tri t)∧AugN (Su y) (tri t) (tri u.2.2.1) o (pw g))
   (fun s=>y.fB.length-s.2.1.toNat) (by
    rintro _ ⟨i,t1,rfl,hi,hsub,hlen,hsh,hown⟩
    have hu1:unt y.fB.length (tri t1)≤unt y.fB.length (tri t):=unt_le hsub
    have hu0:=jv y.fB.length (tri t1)
    rcases Nat.lt_or_ge i y.fB.length with hlt' | hge
    ·have c1:(0:Int)≤(i:Int)∧(i:Int)<((y.fB.length:Nat):Int):=by omega
     have c2:(0:Int)≤(o:Int)∧(o:Int)<((y.fR.length:Nat):Int):=by omega
     have hb:bP (o:Int) y (bv fuel) (false,(i:Int),t1,g)=(if(aA false t1 (i:Int) || !pY (oat y o) (bat y i))=true then some (.inl (false,((i+1:Nat):Int),t1,g))else ap (eg (i:Int)=true∧List.length t1<1000000000) ((if(!(bm g (i:Int)))=true then(ap (eg (i:Int)=true∧List.length g<1000000000) (some (.inr (.inl (true,(i:Int),(((i:Int),true)::t1),(((i:Int),(o:Int))::g))))))else((bv fuel (aA 0 g (i:Int)) y (((i:Int),true)::t1) g).bind fun y17=>(if y17.1=true then ap (eg (i:Int)=true∧List.length y17.2.2<1000000000) (some (.inr (.inl (true,(i:Int),y17.2.1,(((i:Int),(o:Int))::y17.2.2)))))else some (.inl (false,((i+1:Nat):Int),y17.2.1,y17.2.2))))))):=by
      unfold bP;dsimp only
      rw[ff (show(i:Int)<((y.fB.length:Nat):Int) by omega),gPo c1,gPo (o3 (by omega))]
      simp only[rdL_oat,rdL_bat,TSpan_eta,tA,TBay_eta,suits_eq,oB,gPo c2,bj (show i<9223372036854775807 by omega),gPo (o3 (show i<1000000 by omega))]
      cases aA false t1 (i:Int) <;> cases pY (oat y o) (bat y i) <;> rfl
     by_cases hsk:(aA false t1 (i:Int) || !pY (oat y o) (bat y i))=true
     ·refine .inl ⟨_,by rw[hb,if_pos hsk],⟨i+1,t1,E,hlt',hsub,hlen,hsh,fun k hk hs=>?_⟩,by dsimp only;omega,fun t h=>h⟩
      rcases Nat.lt_or_ge k i with h|h
      ·exact hown k h hs
      ·have:k=i:=by omega
       subst this
       rcases Bool.or_eq_true_iff.1 hsk with h|h
       ·exact h
       ·rw[hs.2.2]at h;cases h
     ·rw[if_neg hsk]at hb
      have hsk2:=Bool.eq_false_iff.2 hsk
      rw[Bool.or_eq_false_iff]at hsk2
      have hnt:¬tri t1 i:=by unfold tri;rw[hsk2.1];exact Bool.false_ne_true
      have hS:Su y o i:=⟨ho,hlt',by have:=hsk2.2;simpa using this⟩
      have hua:=ry hlt' hnt
      rw[←l5]at hua
      have hM1:MatX (Su y) (tri t1) (pw g):=hM.more hsub
      have hn1:¬DomX (tri t1) (pw g) o:=fun⟨j,hj,e⟩=>hn ⟨j,fun h=>hj (hsub j h),e⟩
      have hsub':∀k,tri t1 k→tri (((i:Int),true)::t1) k:=fun k hk=>by rw[l5];exact .inl hk
      have hi1:tri (((i:Int),true)::t1) i:=by rw[l5];exact .inr E
      rw[gPo ⟨o3 (by omega),by omega⟩]at hb
      cases hh:pw g i with
      | none =>
       rw[hold_has hh,if_pos (by rfl),gPo ⟨o3 (by omega),by omega⟩]at hb
       refine .inr ⟨_,hb,E,hg.cons hlt' ho,?_,?_,fun k hk=>hsub' k (hsub k hk),?_⟩
       ·dsimp only;rw[List.length_cons];omega
       ·dsimp only;rw[List.length_cons];omega
       ·dsimp only
        rw[nQ]
        exact pM hM hsub hn (r7 hM1 hnt hS hh hn1)
      | some x =>
       obtain⟨hx1,hx2,_,hx3⟩:=so hg hh
       rw[hx1,if_neg (by simp),hx2]at hb
       have hMi:MatX (Su y) (tri (((i:Int),true)::t1)) (pw g):=hM1.more hsub'
       have hni:¬DomX (tri (((i:Int),true)::t1)) (pw g) x:=fun⟨j,hj,e⟩=>by
        have:j=i:=hM1.inj j i x (fun h=>hj (hsub' j h)) hnt e hh
        subst this;exact hj hi1
       obtain⟨r,t',g',hr,hg',hl1,hl2,hs',hcase⟩:=ih x (((i:Int),true)::t1) g hx3 hg (by omega) (by rw[List.length_cons];omega) (by omega) hMi hni
       rw[hr,oB]at hb
       dsimp only at hb
       rw[List.length_cons]at hl1
       have hut:=jv y.fB.length (tri t')
       rcases hcase with⟨rfl,hA⟩|⟨rfl,rfl,hA⟩
       ·rw[if_pos E,gPo ⟨o3 (by omega),by omega⟩]at hb
        refine .inr ⟨_,hb,E,hg'.cons hlt' ho,?_,?_,fun k hk=>hs' k (hsub' k (hsub k hk)),?_⟩
        ·dsimp only;omega
        ·dsimp only;rw[List.length_cons];omega
        ·dsimp only
         rw[nQ]
         rw[l5]at hA
         exact pM hM hsub hn (qW hM1 hnt hS hh hn1 hA)
       ·rw[if_neg (by simp)]at hb
        refine .inl ⟨_,hb,⟨i+1,t',E,hlt',fun k hk=>hs' k (hsub' k (hsub k hk)),by omega,fun k hk hnk=>?_,fun k hk hs=>?_⟩,by dsimp only;omega,fun t h=>h⟩
        ·by_cases hk1:tri (((i:Int),true)::t1) k
         ·by_cases hki:k=i
          ·subst hki
           exact⟨x,hh,fun k' hk'=>hA.own k' hk'⟩
          ·rw[l5]at hk1
           have hk2:tri t1 k:=hk1.elim id fun e=>absurd e hki
           obtain⟨z,e,hz⟩:=hsh k hk2 hnk
           exact⟨z,e,fun k' hk'=>hs' k' (hsub' k' (hz k' hk'))⟩
         ·exact hA.shut k hk hk1
        ·rcases Nat.lt_or_ge k i with h|h
         ·exact hs' k (hsub' k (hown k h hs))
         ·have:k=i:=by omega
          subst this;exact hs' k hi1
    ·have:i=y.fB.length:=by omega
     subst this
     refine .inr ⟨.inr (false,((y.fB.length:Nat):Int),t1,g),?_,E,hlen,hsub,hsh,fun k hs=>hown k hs.2.1 hs⟩
     unfold bP;dsimp only
     rw[ei (by omega)]) (false,0,t,g) ⟨0,t,E,Nat.zero_le _,fun _ h=>h,Int.le_refl _,fun k h1 h2=>absurd h1 h2,fun k hk=>absurd hk (Nat.not_lt_zero _)⟩
  obtain⟨out,hr,hpost⟩:=hinv
  unfold bv dP
  rw[hr,oB]
  rcases out with u|u
  ·obtain⟨h1,h2,h3,h4,h5,h6⟩:=hpost
   refine⟨u.1,u.2.2.1,u.2.2.2,E,h2,h3,h4,h5,.inl ⟨h1,h6⟩⟩
  ·obtain⟨h1,h2,h3⟩:=hpost
   have:=unt_le (nB:=y.fB.length) h3.sub
   refine⟨false,u.2.2.1,u.2.2.2,E,by rw[h1];exact hg,h2,by rw[h1];omega,h3.sub,.inr ⟨E,h1,h3⟩⟩
set_option linter.unusedSimpArgs false
structure Fine (y:TY):Prop where
 bays:y.fB.length≤24
 ords:y.fR.length<20
 low:∀i,0≤wo y i
 high:∀i,wo y i≤2000
def isum (f:Int→Int):List Int→Int
 | []=>0
 | k::ks=>f k+isum f ks
open Classical in
theorem isum_sm {f:Int→Int} {n:Nat}:∀(ks:List Int),ks.Nodup→(∀k∈ks,∃j:Nat,k=(j:Int)∧j<n)→isum f ks=sm n fun j=>if(j:Int)∈ks then f (j:Int)else 0
 | [],_,_=>by rw[pS fun i _=>by simp];rfl
 | k::ks,hn,h=>by
  obtain⟨j,rfl,hj⟩:=h k (List.mem_cons_self ..)
  rw[List.nodup_cons]at hn
  have ih:=isum_sm (f:=f) (n:=n) ks hn.2 fun k hk=>h k (List.mem_cons_of_mem _ hk)
  show f (j:Int)+isum f ks=_
  rw[ih]
  have:=oR (f:=fun i:Nat=>if(i:Int)∈ks then f (i:Int)else 0) (g:=fun i:Nat=>if(i:Int)∈(j:Int)::ks then f (i:Int)else 0) hj (fun i _ hi=>by
   have e:((i:Int)∈(j:Int)::ks)↔((i:Int)∈ks):=by rw[List.mem_cons];exact⟨fun h=>h.elim (fun e=>absurd (by omega) hi) id,.inr⟩
   by_cases hc:(i:Int)∈ks
   ·rw[if_pos hc,if_pos (e.2 hc)]
   ·rw[if_neg hc,if_neg fun hh=>hc (e.1 hh)])
  rw[this,if_neg hn.1,if_pos (List.mem_cons_self ..)]
  omega
theorem Opt.bound {S:Nat→Nat→Prop} {w:Nat→Int} {nB:Nat} {V:Int} (h:Opt S w nB V) (hl:∀i,0≤w i) (hw:∀i,w i≤2000):0≤V∧V≤2000*(nB:Int):=by
 obtain⟨m,_,e⟩:=h.some
 have h1:∀n,sm n (fun k=>ov w (m k))≤2000*(n:Int):=fun n=>by
  induction n with
  | zero=>exact Int.le_refl _
  | succ n ih =>
   show sm n (fun k=>ov w (m k))+ov w (m n)≤_
   have:ov w (m n)≤2000:=by
    cases m n with
    | none=>show(0:Int)≤2000;omega
    | some x=>exact hw x
   omega
 have h2:0≤wor nB w m:=lK fun k _=>by
  cases m k with
  | none=>exact Int.le_refl _
  | some x=>exact hl x
 have:=h1 nB
 unfold wor at h2 e
 omega
set_option linter.unusedSimpArgs false
def bayB (b:TBay):Bool:=decide (1≤b.fID∧b.fID≤1099511627776)&&(decide (0≤b.fHour∧b.fHour≤16384)&&decide (0≤b.fD∧b.fD≤9))
def ordB (o:TO):Bool:=decide (1≤o.fID∧o.fID≤1099511627776)&&(decide (0≤o.fH.fLo∧o.fH.fLo≤16384)&&(decide (0≤o.fH.fHi∧o.fH.fHi≤16384)&&(!decide (o.fH.fHi<o.fH.fLo)&&(decide (0≤o.fD∧o.fD≤9)&&decide (1≤o.fW∧o.fW≤1000)))))
def qL {α:Type} [Inhabited α] (l:List α) (ok:α→Bool) (id:α→Int) (k:Nat):Option Int:=if ok (l.getD k default)=false then some 1 else if nr l (fun x=>id x==id (l.getD k default))<(k:Int)then some 6 else none
def qA {α:Type} [Inhabited α] (l:List α) (ok:α→Bool) (id:α→Int):Option Int:=(List.range l.length).findSome? (qL l ok id)
theorem pD {α:Type} [Inhabited α] {l:List α} {ok:α→Bool} {id:α→Int}:qA l ok id=none↔(∀x∈l,ok x=true)∧(l.map id).Nodup:=by
 unfold qA
 rw[List.findSome?_eq_none_iff]
 constructor
 ·intro h
  have h1:∀k,(hk:k<l.length)→ok l[k]=true∧¬nr l (fun x=>id x==id l[k])<(k:Int):=fun k hk=>by
   have:=h k (List.mem_range.2 hk)
   unfold qL at this
   rw[eD hk]at this
   split at this
   ·cases this
   ·split at this
    ·cases this
    ·rename_i a b
     exact⟨by cases hh:ok l[k];exact absurd hh a;rfl,b⟩
  refine⟨fun x hx=>?_,kG.1 fun k hk=>(h1 k hk).2⟩
  obtain⟨k,hk,rfl⟩:=List.mem_iff_getElem.1 hx
  exact(h1 k hk).1
 ·rintro⟨h1,h2⟩ k hk
  have hk':=List.mem_range.1 hk
  unfold qL
  rw[eD hk',if_neg (by rw[h1 _ (List.getElem_mem hk')];simp),if_neg (kG.2 h2 k hk')]
theorem tp {α:Type} [Inhabited α] {l:List α} {ok:α→Bool} {id:α→Int} {e:Int} (h:qA l ok id=some e):e=1∨e=6:=by
 obtain⟨k,hk,he⟩:=List.exists_of_findSome?_eq_some h
 unfold qL at he
 split at he
 ·cases he;exact .inl E
 ·split at he
  ·cases he;exact .inr E
  ·cases he
structure Good (y:TY):Prop where
 bays:y.fB.length≤24
 ords:y.fR.length≤24
 bay:∀b∈y.fB,bayB b=true
 ord:∀o∈y.fR,ordB o=true
 bayN:(y.fB.map (·.fID)).Nodup
 ordN:(y.fR.map (·.fID)).Nodup
theorem find_pair {n:Nat} (R:Nat→Option Int):(List.range n).findSome? (fun k=>(R k).map fun e=>(Sum.inl (e,(k:Int)):(Int × Int) ⊕ (Int × Int)))=none∧(List.range n).findSome? R=none∨∃e k,(List.range n).findSome? (fun k=>(R k).map fun e=>(Sum.inl (e,(k:Int)):(Int × Int) ⊕ (Int × Int)))=some (.inl (e,k))∧(List.range n).findSome? R=some e:=by
 induction n with
 | zero=>exact .inl ⟨E,E⟩
 | succ n ih =>
  rw[List.range_succ,List.findSome?_append,List.findSome?_append]
  rcases ih with⟨h1,h2⟩|⟨e,k,h1,h2⟩
  ·rw[h1,h2]
   cases hR:R n with
   | none=>exact .inl (by simp[hR])
   | some e=>exact .inr ⟨e,(n:Int),by simp[hR]⟩
  ·rw[h1,h2]
   exact .inr ⟨e,k,E,E⟩
theorem pK {body:(Int × Int)→Option ((Int × Int) ⊕ ((Int × Int) ⊕ (Int × Int)))} {n:Nat} (R:Nat→Option Int) {e0:Int} (h:∀k,k<n→body (e0,(k:Int))=some (match R k with|none=>.inl (e0,((k+1:Nat):Int))|some e=>.inr (.inl (e,(k:Int))))) (hs:body (e0,(n:Int))=some (.inr (.inr (e0,(n:Int))))) :
  ((List.range n).findSome? R=none∧aK body (e0,0)=some (.inr (e0,(n:Int))))∨∃e k,(List.range n).findSome? R=some e∧aK body (e0,0)=some (.inl (e,k)):=by
 have:=iZ (body:=body) (fun k=>(e0,(k:Int))) n (fun k=>(R k).map fun e=>(Sum.inl (e,(k:Int)):(Int × Int) ⊕ (Int × Int))) (t0:=.inr (e0,(n:Int))) (fun k hk=>by
  rw[h k hk]
  cases R k <;> rfl) hs
 have h0:aK body (e0,0)=_:=this
 rw[h0]
 rcases find_pair (n:=n) R with⟨h1,h2⟩|⟨e,k,h1,h2⟩
 ·exact .inl ⟨h2,by rw[h1];rfl⟩
 ·exact .inr ⟨e,k,h2,by rw[h1];rfl⟩
theorem te {α:Type} [Inhabited α] {l:List α} {f:α→Int} {k:Nat} (hk:k<l.length):nr l (fun x=>f x==f l[k])<(k:Int)↔(List.range k).findSome? (fun j=>if(f (l.getD j default)==f l[k])=true then some (6:Int)else none)≠none:=by
 rw[idxI_lt hk]
 constructor
 ·rintro⟨j,hj,e⟩ h
  have:=List.findSome?_eq_none_iff.1 h j (List.mem_range.2 hj)
  rw[eD (by omega),e]at this
  simp at this
 ·intro h
  by_cases hc:∃j,∃h:j<k,f (l[j]'(by omega))=f l[k]
  ·exact hc
  ·exfalso
   apply h
   rw[List.findSome?_eq_none_iff]
   intro j hj
   have hj':=List.mem_range.1 hj
   rw[eD (by omega),if_neg (by simp;exact fun e=>hc ⟨j,hj',e⟩)]
theorem six {n:Nat} {q:Nat→Bool} {e:Int} (h:(List.range n).findSome? (fun j=>if q j=true then some (6:Int)else none)=some e):e=6:=by
 obtain⟨k,hk,he⟩:=List.exists_of_findSome?_eq_some h
 split at he
 ·cases he;rfl
 ·cases he
theorem Good.worth {y:TY} (h:Good y) {i:Nat} (hi:i<y.fR.length):1≤wo y i∧wo y i≤1000:=by
 have:=h.ord y.fR[i] (List.getElem_mem hi)
 unfold ordB at this
 simp only[Bool.and_eq_true,decide_eq_true_eq]at this
 unfold wo oat
 rw[eD hi]
 exact this.2.2.2.2.2
set_option linter.unusedSimpArgs false
theorem orB {b c:Bool}:(if b=true then(some true)else(some c))=some (b||c):=by cases b <;> rfl
theorem andB {b c:Bool}:(if b=true then(some c)else(some false))=some (b&&c):=by cases b <;> rfl
def mM (n:Int):Bool:=decide (0≤n∧n≤16384)
def eB (last:Int):List TSpan→Bool
 | []=>true
 | s::l => !((decide (s.fLo<last+2)||decide (s.fHi<s.fLo))||decide (16384<s.fHi))&&eB s.fHi l
theorem nP (last:Int) (s:TSpan) (l:List TSpan):eB last (s::l)=(!((decide (s.fLo<last+2)||decide (s.fHi<s.fLo))||decide (16384<s.fHi))&&eB s.fHi l):=rfl
theorem jN {last:Int} {s:TSpan} {l:List TSpan}:eB last (s::l)=true↔last+2≤s.fLo∧s.fLo≤s.fHi∧s.fHi≤16384∧eB s.fHi l=true:=by
 rw[nP,Bool.and_eq_true,Bool.not_eq_true',Bool.or_eq_false_iff,Bool.or_eq_false_iff,decide_eq_false_iff_not,decide_eq_false_iff_not,decide_eq_false_iff_not]
 constructor
 ·rintro⟨⟨⟨h1,h2⟩,h3⟩,h4⟩
  exact⟨by omega,by omega,by omega,h4⟩
 ·rintro⟨h1,h2,h3,h4⟩
  exact⟨⟨⟨by omega,by omega⟩,by omega⟩,h4⟩
theorem closed_eq {l:List TSpan} (hl:l.length≤1000000):gz l=some (eB (-2) l&&decide (l.length≤4)):=by
 have hinv:=bq (body:=fk l)
  (fun s=>∃(k:Nat) (last:Int),s=(false,last,(k:Int))∧k≤l.length ∧ -2≤last∧last≤16384∧eB (-2) l=eB last (l.drop k))
  (fun _ out=>match out with
   | .inl u=>u.1=false∧eB (-2) l=false
   | .inr _=>eB (-2) l=true)
  (fun s=>l.length-s.2.2.toNat) (by
   rintro _ ⟨k,last,rfl,hk,h1,h2,hs⟩
   rcases Nat.lt_or_ge k l.length with hlt|hge
   ·rw[List.drop_eq_getElem_cons hlt,nP]at hs
    unfold fk;dsimp only
    rw[ff (by omega),gPo (by omega),bh hlt,ci (by omega) (by omega),bj (by omega)]
    by_cases hc:((decide (l[k].fLo<last+2)||decide (l[k].fHi<l[k].fLo))||decide (16384<l[k].fHi))=true
    ·rw[if_pos hc]
     exact .inr ⟨_,E,E,by rw[hs,hc];rfl⟩
    ·rw[if_neg hc]
     have hc2:=Bool.eq_false_iff.2 hc
     rw[Bool.or_eq_false_iff,Bool.or_eq_false_iff,decide_eq_false_iff_not,decide_eq_false_iff_not,decide_eq_false_iff_not]at hc2
     refine .inl ⟨_,E,⟨k+1,_,E,hlt,by omega,by omega,?_⟩,by dsimp only;omega,fun t h=>?_⟩
     ·rw[hs,Bool.eq_false_iff.2 hc,Bool.not_false,Bool.true_and]
     ·exact h
   ·have hke:k=l.length:=by omega
    subst hke
    rw[List.drop_length]at hs
    refine .inr ⟨.inr (false,last,(l.length:Int)),?_,hs⟩
    unfold fk;dsimp only
    rw[ei (by omega)]) (false,-2,0) ⟨0,-2,E,Nat.zero_le _,by omega,by omega,E⟩
 obtain⟨out,hr,hp⟩:=hinv
 unfold gz
 rw[hr,oB]
 rcases out with u|u
 ·rw[hp.2];exact congrArg some hp.1
 ·rw[hp,Bool.true_and]
  exact congrArg some (decide_eq_decide.2 (by omega))
def g9 (h:Int) (s:TSpan):Int:=if s.fLo≤h∧h≤s.fHi then s.fHi+1 else h
def dL (l:List TSpan) (h:Int):Int:=l.foldl g9 h
theorem stepS_le (h:Int) (s:TSpan):h≤g9 h s:=by unfold g9;split <;> omega
theorem tc {h h':Int} (hh:h≤h') (s:TSpan):g9 h s≤g9 h' s:=by unfold g9;split <;> split <;> omega
theorem iP:∀(l:List TSpan) (h:Int),h≤dL l h
 | [],h=>Int.le_refl _
 | s::l,h=>Int.le_trans (stepS_le h s) (iP l (g9 h s))
theorem n0:∀(l:List TSpan) {h h':Int},h≤h'→dL l h≤dL l h'
 | [],_,_,hh=>hh
 | s::l,_,_,hh=>n0 l (tc hh s)
theorem nJ:∀{l:List TSpan} {last h:Int},eB last l=true→h<last+2→dL l h=h
 | [],_,_,_,_=>rfl
 | s::l,last,h,hs,hh=>by
  obtain⟨h1,h2,h3,h4⟩:=jN.1 hs
  show dL l (g9 h s)=h
  have:g9 h s=h:=if_neg (by omega)
  rw[this]
  exact nJ h4 (by omega)
theorem lU:∀{l:List TSpan} {last:Int} (h:Int),eB last l=true→dL l (dL l h)=dL l h
 | [],_,_,_=>rfl
 | s::l,last,h,hs=>by
  obtain⟨h1,h2,h3,h4⟩:=jN.1 hs
  show dL l (g9 (dL l (g9 h s)) s)=dL l (g9 h s)
  by_cases hc:s.fLo≤h∧h≤s.fHi
  ·have e:g9 h s=s.fHi+1:=if_pos hc
   have e2:dL l (s.fHi+1)=s.fHi+1:=nJ h4 (by omega)
   rw[e,e2,show g9 (s.fHi+1) s=s.fHi+1 from if_neg (by omega),e2]
  ·have e:g9 h s=h:=if_neg hc
   rw[e]
   have hn:g9 (dL l h) s=dL l h:=by
    refine if_neg fun h5=>?_
    by_cases h6:h<s.fLo
    ·rw[nJ h4 (by omega)]at h5;omega
    ·have:=iP l h;omega
   rw[hn]
   exact lU h h4
theorem qB:∀{l:List TSpan} {last h:Int},eB last l=true→h≤16384→dL l h≤16385
 | [],_,_,_,hh=>by unfold dL;simp;omega
 | s::l,last,h,hs,hh=>by
  obtain⟨h1,h2,h3,h4⟩:=jN.1 hs
  show dL l (g9 h s)≤16385
  unfold g9
  split
  ·rw[nJ h4 (by omega)];omega
  ·exact qB h4 hh
theorem p7:∀{l:List TSpan} {last:Int},eB last l=true → -2≤last→∀s∈l,-2≤s.fHi∧s.fHi≤16384
 | [],_,_,_,s,hm=>by cases hm
 | s::l,last,hs,h0,x,hm=>by
  obtain⟨h1,h2,h3,h4⟩:=jN.1 hs
  rcases List.mem_cons.1 hm with rfl|hm
  ·omega
  ·exact p7 h4 (by omega) x hm
theorem pU {t:TT} (hs:eB (-2) t.fK=true) (hl:t.fK.length≤1000000) (h:Int):f4 t h=some (dL t.fK h,mM (dL t.fK h)):=by
 have hh:=p7 hs (by omega)
 have hrun:=jH (body:=eM t) (fun k=>(dL (t.fK.take k) h,(k:Int))) t.fK.length (t:=(dL t.fK h,(t.fK.length:Int))) (fun k hk=>by
  have h1:=hh _ (List.getElem_mem hk)
  unfold eM;dsimp only
  have e:dL (t.fK.take (k+1)) h=g9 (dL (t.fK.take k) h) t.fK[k]:=by
   rw[List.take_succ_eq_append_getElem hk]
   unfold dL
   rw[List.foldl_append]
   rfl
  rw[ff (by omega),gPo (by omega),bh hk,iX,oB,bj (by omega),ci (by omega) (by omega),e]
  unfold g9
  by_cases hc:(t.fK[k]).fLo≤dL (t.fK.take k) h∧dL (t.fK.take k) h≤(t.fK[k]).fHi
  ·rw[if_pos (decide_eq_true hc),if_pos hc]
  ·rw[if_neg (by rw[decide_eq_true_eq];exact hc),if_neg hc]) (by
  unfold eM;dsimp only
  rw[ei (by omega),List.take_length])
 have h0:aK (eM t) (h,0)=_:=hrun
 unfold f4
 rw[h0,oB,mK]
 rfl
def oQ (l:List TSpan):Bool:=eB (-2) l&&decide (l.length≤4)
def trB (n:Int) (t:TT):Bool:=!((((((!decide (1≤t.fID∧t.fID≤1099511627776) || !decide (0≤t.fFrom∧t.fFrom≤n-1)) || !decide (0≤t.fTo∧t.fTo≤n-1))||t.fFrom==t.fTo) || !decide (1≤t.fLong∧t.fLong≤72)) || !decide (0≤t.fToll∧t.fToll≤40)) || !oQ t.fK)
structure GoodT (n:Int) (t:TT):Prop where
 id:1≤t.fID∧t.fID≤1099511627776
 fr:0≤t.fFrom∧t.fFrom≤n-1
 to:0≤t.fTo∧t.fTo≤n-1
 ne:t.fFrom≠t.fTo
 long:1≤t.fLong∧t.fLong≤72
 toll:0≤t.fToll∧t.fToll≤40
 spans:eB (-2) t.fK=true
 few:t.fK.length≤4
theorem trB_iff {n:Int} {t:TT}:trB n t=true↔GoodT n t:=by
 unfold trB oQ
 simp only[Bool.not_eq_true',Bool.or_eq_false_iff,Bool.not_eq_false',decide_eq_true_eq,beq_eq_false_iff_ne,Bool.and_eq_true]
 constructor
 ·rintro⟨⟨⟨⟨⟨⟨h1,h2⟩,h3⟩,h4⟩,h5⟩,h6⟩,h7,h8⟩
  exact⟨h1,h2,h3,h4,h5,h6,h7,h8⟩
 ·intro h
  exact⟨⟨⟨⟨⟨⟨h.id,h.fr⟩,h.to⟩,h.ne⟩,h.long⟩,h.toll⟩,h.spans,h.few⟩
def j7 (r:TR):Int:=if ¬(1≤r.fPlaces∧r.fPlaces≤16)then 1 else if r.fTracks.length>48 then 2 else(qA r.fTracks (trB r.fPlaces) (·.fID)).getD 0
structure GoodR (r:TR):Prop where
 places:1≤r.fPlaces∧r.fPlaces≤16
 len:r.fTracks.length≤48
 trk:∀t∈r.fTracks,GoodT r.fPlaces t
 once:(r.fTracks.map (·.fID)).Nodup
theorem iS {r:TR}:j7 r=0↔GoodR r:=by
 unfold j7
 constructor
 ·intro h
  by_cases h1:1≤r.fPlaces∧r.fPlaces≤16
  ·rw[if_neg (by simp[h1])]at h
   by_cases h2:r.fTracks.length>48
   ·rw[if_pos h2]at h;cases h
   ·rw[if_neg h2]at h
    cases he:qA r.fTracks (trB r.fPlaces) (·.fID)with
    | some e=>rw[he]at h;have:=tp he;dsimp only[Option.getD]at h;omega
    | none =>
     obtain⟨h3,h4⟩:=pD.1 he
     exact⟨h1,by omega,fun t ht=>trB_iff.1 (h3 t ht),h4⟩
  ·rw[if_pos h1]at h;cases h
 ·intro h
  rw[if_neg (by simp[h.places]),if_neg (by have:=h.len;omega),pD.2 ⟨fun t ht=>trB_iff.2 (h.trk t ht),h.once⟩]
  rfl
def eu (r:TR) (id:Int):Int:=nr r.fTracks fun n=>n.fID==id
theorem rV {r:TR} (hl:r.fTracks.length<1000000000) (id:Int):iu r id=some (eu r id):=by
 unfold iu cd
 rw[qp (f:=fun x3=>gU x3 id) (q:=fun x=>x.fID==id) hl (fun x _=>E)]
 rfl
theorem Check_eq {r:TR} (hr:∀t∈r.fTracks,t.fK.length≤1000000):jw r=some (j7 r):=by
 unfold jw j7
 rw[iX,oB]
 by_cases h1:1≤r.fPlaces∧r.fPlaces≤16
 ·rw[if_neg (show ¬((!decide (1≤r.fPlaces∧r.fPlaces≤16))=true) by simp[h1]),if_neg (show ¬¬(1≤r.fPlaces∧r.fPlaces≤16) by simp[h1])]
  by_cases h2:r.fTracks.length>48
  ·rw[if_pos (by rw[decide_eq_true_eq];omega),if_pos h2]
  ·rw[if_neg (by rw[decide_eq_true_eq];omega),if_neg h2]
   have hb:=pK (body:=gh r) (n:=r.fTracks.length) (qL r.fTracks (trB r.fPlaces) (·.fID)) (e0:=0) (fun k hk=>by
    have hc:=closed_eq (hr _ (List.getElem_mem hk))
    unfold gh gW;dsimp only
    rw[ff (by omega),gPo (by omega),ci (by omega) (by omega),bh hk,hc]
    simp only[iX,oB,orB,rV (show r.fTracks.length<1000000000 by omega),bj (show k<9223372036854775807 by omega)]
    unfold qL
    rw[eD hk,show(((((((!decide (1≤(r.fTracks[k]).fID∧(r.fTracks[k]).fID≤1099511627776)) || !decide (0≤(r.fTracks[k]).fFrom∧(r.fTracks[k]).fFrom≤r.fPlaces-1)) || !decide (0≤(r.fTracks[k]).fTo∧(r.fTracks[k]).fTo≤r.fPlaces-1))||(r.fTracks[k]).fFrom==(r.fTracks[k]).fTo) || !decide (1≤(r.fTracks[k]).fLong∧(r.fTracks[k]).fLong≤72)) || !decide (0≤(r.fTracks[k]).fToll∧(r.fTracks[k]).fToll≤40)) || !(eB (-2) (r.fTracks[k]).fK&&decide ((r.fTracks[k]).fK.length≤4))) = !trB r.fPlaces r.fTracks[k]from by unfold trB oQ;rw[Bool.not_not]]
    cases hT:trB r.fPlaces r.fTracks[k]with
    | false=>rfl
    | true =>
     rw[if_neg (show ¬((!true)=true) by simp),if_neg (show ¬(true=false) by simp)]
     unfold eu
     dsimp only
     by_cases hi:nr r.fTracks (fun n=>n.fID==(r.fTracks[k]).fID)<(k:Int)
     ·rw[if_pos (decide_eq_true hi),if_pos hi]
     ·rw[if_neg (by simpa using hi),if_neg hi]) (by
    unfold gh;dsimp only
    rw[ei (by omega)])
   rcases hb with⟨h3,h4⟩|⟨e,k,h3,h4⟩
   ·rw[h4,show qA r.fTracks (trB r.fPlaces) (·.fID)=none from h3];rfl
   ·rw[h4,show qA r.fTracks (trB r.fPlaces) (·.fID)=some e from h3];rfl
 ·rw[if_pos (by simp;omega),if_pos h1]
def inB (r:TR) (f t h p:Int):Bool:=((decide (0≤f∧f≤r.fPlaces-1)&&decide (0≤t∧t≤r.fPlaces-1))&&decide (0≤h∧h≤16384))&&decide (0≤p∧p≤60)
def hU (r:TR) (f t h p:Int):Int:=if j7 r≠0 then j7 r else if inB r f t h p=true then 0 else 1
theorem kV {r:TR} (hr:∀t∈r.fTracks,t.fK.length≤1000000) (f t h p:Int):dY r f t h p=some (hU r f t h p):=by
 unfold dY hU
 rw[Check_eq hr,oB]
 by_cases hv:j7 r=0
 ·rw[if_neg (by simp[hv]),if_neg (by simp[hv])]
  have hp:=(iS.1 hv).places
  rw[ci (by omega) (by omega)]
  simp only[iX,mK,oB,orB]
  unfold inB
  cases decide (0≤f∧f≤r.fPlaces-1) <;> cases decide (0≤t∧t≤r.fPlaces-1) <;> cases decide (0≤h∧h≤16384) <;> cases decide (0≤p∧p≤60) <;> rfl
 ·rw[if_pos (by simpa using hv),if_pos hv]
structure AskedOk (r:TR) (f t h p:Int):Prop where
 good:GoodR r
 fr:0≤f∧f<r.fPlaces
 to:0≤t∧t<r.fPlaces
 hour:0≤h∧h≤16384
 purse:0≤p∧p≤60
theorem gG {r:TR} {f t h p:Int}:hU r f t h p=0↔AskedOk r f t h p:=by
 unfold hU inB
 by_cases hv:j7 r=0
 ·rw[if_neg (by simp[hv])]
  constructor
  ·intro h1
   split at h1
   ·rename_i h2
    simp only[Bool.and_eq_true,decide_eq_true_eq]at h2
    obtain⟨⟨⟨a,b⟩,c⟩,d⟩:=h2
    exact⟨iS.1 hv,⟨a.1,by omega⟩,⟨b.1,by omega⟩,c,d⟩
   ·cases h1
  ·intro h1
   have h2:=h1.fr;have h3:=h1.to
   rw[if_pos]
   simp only[Bool.and_eq_true,decide_eq_true_eq]
   exact⟨⟨⟨by omega,by omega⟩,h1.hour⟩,h1.purse⟩
 ·rw[if_pos hv]
  exact⟨fun h=>absurd h hv,fun h=>absurd (iS.2 h.good) hv⟩
set_option linter.unusedSimpArgs false
open Classical
theorem tq {l:List TSpan}:gV l=some (oQ l):=by
 unfold gV oQ
 by_cases h4:4<l.length
 ·rw[if_pos (by rw[decide_eq_true_eq];omega),decide_eq_false (show ¬l.length≤4 by omega),Bool.and_false]
 ·rw[if_neg (by rw[decide_eq_true_eq];omega),decide_eq_true (show l.length≤4 by omega),Bool.and_true]
  have hinv:=bq (body:=dC l)
   (fun s=>∃(k:Nat) (last:Int),s=(false,(k:Int))∧k≤l.length∧((k=0∧last = -2)∨(0<k∧last=(rdL l ((k-1:Nat):Int)).fHi∧0≤last∧last≤16384))∧eB (-2) l=eB last (l.drop k))
   (fun _ out=>match out with
    | .inl u=>u.1=false∧eB (-2) l=false
    | .inr _=>eB (-2) l=true)
   (fun s=>l.length-s.2.toNat) (by
    rintro _ ⟨k,last,rfl,hk,hlast,hs⟩
    rcases Nat.lt_or_ge k l.length with hlt|hge
    ·rw[List.drop_eq_getElem_cons hlt,nP]at hs
     have hb:dC l (false,(k:Int))=some (if((decide (l[k].fLo<last+2)||decide (l[k].fHi<l[k].fLo))||decide (16384<l[k].fHi))=true then .inr (.inl (false,(k:Int)))else .inl (false,((k+1:Nat):Int))):=by
      unfold dC;dsimp only
      rw[ff (by omega),gPo (by omega),bh hlt,ma,oB,gPo (by omega),ma,oB,gPo (by omega),gPo (by omega),bj (by omega),orB,oB]
      rcases hlast with⟨rfl,rfl⟩|⟨h0,hla,g1,g2⟩
      ·rw[if_neg (show ¬decide ((0:Int)<((0:Nat):Int))=true by simp),oB,orB,oB]
       rw[show((((!decide ((0:Int)≤l[0].fLo∧l[0].fLo≤16384))||(!decide ((0:Int)≤l[0].fHi∧l[0].fHi≤16384)))||decide (l[0].fHi<l[0].fLo))||false)=((decide (l[0].fLo < -2+2)||decide (l[0].fHi<l[0].fLo))||decide (16384<l[0].fHi)) by
        rw[Bool.eq_iff_iff]
        simp only[Bool.or_eq_true,Bool.not_eq_true',decide_eq_true_eq,decide_eq_false_iff_not,Bool.false_eq_true,or_false]
        omega]
       exact apply_ite some _ _ _ |>.symm
      ·have e1:w64 ((k:Int)-1)=((k-1:Nat):Int):=by rw[ci (by omega) (by omega)];omega
       rw[if_pos (show decide ((0:Int)<(k:Int))=true by rw[decide_eq_true_eq];omega),gPo (by omega),e1,show max (0:Int) ((k-1:Nat):Int)=((k-1:Nat):Int) by omega,gPo (by omega),←hla,ci (by omega) (by omega),oB,orB,oB]
       rw[show((((!decide (0≤l[k].fLo∧l[k].fLo≤16384))||(!decide (0≤l[k].fHi∧l[k].fHi≤16384)))||decide (l[k].fHi<l[k].fLo))||decide (l[k].fLo<last+2))=((decide (l[k].fLo<last+2)||decide (l[k].fHi<l[k].fLo))||decide (16384<l[k].fHi)) by
        rw[Bool.eq_iff_iff]
        simp only[Bool.or_eq_true,Bool.not_eq_true',decide_eq_true_eq,decide_eq_false_iff_not]
        omega]
       exact apply_ite some _ _ _ |>.symm
     rw[hb]
     by_cases hc:((decide (l[k].fLo<last+2)||decide (l[k].fHi<l[k].fLo))||decide (16384<l[k].fHi))=true
     ·rw[if_pos hc]
      exact .inr ⟨_,E,E,by rw[hs,hc];rfl⟩
     ·rw[if_neg hc]
      have hc2:=Bool.eq_false_iff.2 hc
      rw[Bool.or_eq_false_iff,Bool.or_eq_false_iff,decide_eq_false_iff_not,decide_eq_false_iff_not,decide_eq_false_iff_not]at hc2
      refine .inl ⟨_,E,⟨k+1,l[k].fHi,E,hlt,.inr ⟨by omega,?_,by omega,by omega⟩,?_⟩,by dsimp only;omega,fun t h=>h⟩
      ·rw[show k+1-1=k from E,bh hlt]
      ·rw[hs,Bool.eq_false_iff.2 hc,Bool.not_false,Bool.true_and]
    ·have hke:k=l.length:=by omega
     subst hke
     rw[List.drop_length]at hs
     refine .inr ⟨.inr (false,(l.length:Int)),?_,hs⟩
     unfold dC;dsimp only
     rw[ei (by omega)]) (false,0) ⟨0,-2,E,Nat.zero_le _,.inl ⟨E,E⟩,E⟩
  obtain⟨out,hr,hp⟩:=hinv
  rw[hr,oB]
  rcases out with u|u
  ·exact congrArg some (hp.1.trans hp.2.symm)
  ·exact congrArg some hp.symm
theorem rright_eq {r:TR} (hp:1≤r.fPlaces∧r.fPlaces≤16) (t:TT):iK r t=some (trB r.fPlaces t):=by
 unfold iK
 simp only[gB,oB,tq,ci (show -9223372036854775808≤r.fPlaces-1 by omega) (show r.fPlaces-1≤9223372036854775807 by omega)]
 unfold trB
 refine congrArg some ?_
 simp only[Bool.not_or,Bool.not_not]
 rfl
theorem rCheck_eq (r:TR):iL r=some (j7 r):=by
 unfold iL j7
 by_cases h1:1≤r.fPlaces∧r.fPlaces≤16
 ·rw[if_neg (by rw[Bool.or_eq_true,decide_eq_true_eq,decide_eq_true_eq];omega),if_neg (show ¬¬(1≤r.fPlaces∧r.fPlaces≤16) by simp[h1])]
  by_cases h2:r.fTracks.length>48
  ·rw[if_pos (by rw[decide_eq_true_eq];omega),if_pos h2]
  ·rw[if_neg (by rw[decide_eq_true_eq];omega),if_neg h2]
   have hb:=pK (body:=fu r) (n:=r.fTracks.length) (qL r.fTracks (trB r.fPlaces) (·.fID)) (e0:=0) (fun k hk=>by
    unfold fu;dsimp only
    rw[ff (by omega),gPo (by omega),bh hk,gF,rright_eq h1,oB]
    have hin:=pK (body:=fj r (0,(k:Int))) (n:=k) (fun j=>if((r.fTracks.getD j default).fID==r.fTracks[k].fID)=true then some 6 else none) (e0:=0) (fun j hj=>by
     unfold fj;dsimp only
     rw[ff (by omega),gPo (by omega),gPo (by omega)]
     simp only[bh hk,bh (show j<r.fTracks.length by omega),eD (show j<r.fTracks.length by omega),bj (show j<9223372036854775807 by omega)]
     cases (r.fTracks[j].fID==r.fTracks[k].fID) <;> rfl) (by
     unfold fj;dsimp only
     rw[ei (by omega)])
    have hid:=te (l:=r.fTracks) (f:=(·.fID)) hk
    unfold qL
    rw[eD hk]
    cases hT:trB r.fPlaces r.fTracks[k]with
    | false=>rfl
    | true =>
     rw[if_neg (show ¬((!true)=true) by simp),if_neg (show ¬(true=false) by simp)]
     dsimp only at hid ⊢
     rcases hin with⟨g1,g2⟩|⟨e,i,g1,g2⟩
     ·rw[g2,if_neg (fun h=>hid.1 h g1),oB]
      dsimp only
      rw[bj (by omega)]
     ·rw[g2,if_pos (hid.2 (by rw[g1];simp)),oB]
      dsimp only
      rw[six g1]) (by
    unfold fu;dsimp only
    rw[ei (by omega)])
   rcases hb with⟨h3,h4⟩|⟨e,k,h3,h4⟩
   ·rw[h4,show qA r.fTracks (trB r.fPlaces) (·.fID)=none from h3];rfl
   ·rw[h4,show qA r.fTracks (trB r.fPlaces) (·.fID)=some e from h3];rfl
 ·rw[if_pos (by rw[Bool.or_eq_true,decide_eq_true_eq,decide_eq_true_eq];omega),if_pos h1]
theorem renter_eq {t:TT} (hs:eB (-2) t.fK=true) (hl:t.fK.length≤1000000) (h:Int):iQ t h=some (if mM (dL t.fK h)=true then dL t.fK h else -1):=by
 have hh:=p7 hs (by omega)
 have hrun:=jH (body:=dU t) (fun k=>(dL (t.fK.take k) h,(k:Int))) t.fK.length (t:=(dL t.fK h,(t.fK.length:Int))) (fun k hk=>by
  have h1:=hh _ (List.getElem_mem hk)
  unfold dU;dsimp only
  have e:dL (t.fK.take (k+1)) h=g9 (dL (t.fK.take k) h) t.fK[k]:=by
   rw[List.take_succ_eq_append_getElem hk]
   unfold dL
   rw[List.foldl_append]
   rfl
  rw[ff (by omega),gPo (by omega),gPo (by omega),bh hk,gB,oB,gPo (by omega),bj (by omega),ci (by omega) (by omega),e]
  unfold g9
  by_cases hc:(t.fK[k]).fLo≤dL (t.fK.take k) h∧dL (t.fK.take k) h≤(t.fK[k]).fHi
  ·rw[if_pos (decide_eq_true hc),if_pos hc]
  ·rw[if_neg (by rw[decide_eq_true_eq];exact hc),if_neg hc]) (by
  unfold dU;dsimp only
  rw[ei (by omega),List.take_length])
 have h0:aK (dU t) (h,0)=_:=hrun
 unfold iQ
 rw[h0,oB,ma,oB]
 dsimp only
 show(if(!mM (dL t.fK h))=true then _ else _)=_
 cases mM (dL t.fK h) <;> rfl
theorem rtrack_eq {r:TR} (hl:r.fTracks.length<1000000000) (id:Int):i7 r id=some (eu r id):=by
 unfold i7
 have:=iZ (body:=dX r id) (fun k=>((0:Int),(k:Int))) r.fTracks.length (fun k=>if((r.fTracks.getD k default).fID==id)=true then some (Sum.inl ((k:Int),(k:Int)))else none) (t0:=.inr (0,(r.fTracks.length:Int))) (fun k hk=>by
  have c1:decide ((k:Int)<((r.fTracks.length:Nat):Int))=true:=decide_eq_true (by omega)
  have c2:(0:Int)≤(k:Int)∧(k:Int)<((r.fTracks.length:Nat):Int):=by omega
  unfold dX;dsimp only
  simp only[c1,if_true,gPo c2,bh hk,eD hk,bj (show k<9223372036854775807 by omega)]
  cases (r.fTracks[k].fID==id) <;> rfl) (by
  unfold dX;dsimp only
  rw[ei (by omega)])
 have h0:aK (dX r id) (0,0)=_:=this
 rw[h0,oB]
 exact nw r.fTracks fun n=>n.fID==id
set_option linter.unusedSimpArgs false
theorem qy {q:List Twait} {i k:Nat} (hi:i<q.length) (hk:k<q.length):ck q (i:Int) (k:Int)=some (decide ((q[i]).f_at<(q[k]).f_at)):=by
 unfold ck
 rw[gPo (by omega),gPo (by omega),bh hi,bh hk]
theorem rq {q:List Twait} {i k:Nat} (hi:i<q.length) (hk:k<q.length):∃q',bL q (i:Int) (k:Int)=some q'∧q'.Perm q:=by
 unfold bL
 rw[gPo (by omega),gPo (by omega),gPo (by omega),gPo (by omega),bh hi,bh hk,Int.toNat_natCast,Int.toNat_natCast]
 exact⟨_,E,List.set_set_perm hi hk⟩
theorem up_ok {q:List Twait} (hl:q.length≤1000000000) {j:Nat} (hj:j<q.length):∃q',du q (j:Int)=some q'∧q'.Perm q:=by
 have hinv:=bq (body:=dp) (fun s=>∃(k:Nat) (p:List Twait),s=((k:Int),p)∧k<q.length∧p.Perm q) (fun _ t=>t.2.Perm q) (fun s=>s.1.toNat) (by
  rintro _ ⟨k,p,rfl,hk,hp⟩
  have hpl:=hp.length_eq
  unfold dp;dsimp only
  rcases Nat.eq_zero_or_pos k with rfl|h0
  ·have e:w64 (Int.tdiv (w64 (((0:Nat):Int)-1)) 2)=0:=by decide
   rw[e,if_pos (by rfl),oB,if_pos E]
   exact .inr ⟨_,E,hp⟩
  ·have e1:w64 ((k:Int)-1)=((k-1:Nat):Int):=by rw[ci (by omega) (by omega)];omega
   have e2:Int.tdiv ((k-1:Nat):Int) 2=(((k-1) / 2:Nat):Int):=rfl
   have e:w64 (Int.tdiv (w64 ((k:Int)-1)) 2)=(((k-1) / 2:Nat):Int):=by rw[e1,e2,ci (by omega) (by omega)]
   rw[e,if_neg (by rw[beq_iff_eq];omega),qy (q:=p) (by omega) (by omega),oB,oB]
   by_cases hc:(p[k]).f_at<(p[(k-1) / 2]).f_at
   ·obtain⟨p',hs,hp'⟩:=rq (q:=p) (i:=(k-1) / 2) (k:=k) (by omega) (by omega)
    rw[decide_eq_true hc,if_neg (by simp),hs,oB]
    exact .inl ⟨_,E,⟨(k-1) / 2,p',E,by omega,hp'.trans hp⟩,by dsimp only;omega,fun t h=>h⟩
   ·rw[decide_eq_false hc,if_pos (by rfl)]
    exact .inr ⟨_,E,hp⟩) ((j:Int),q) ⟨j,q,E,hj,List.Perm.refl _⟩
 obtain⟨t,ht,hp⟩:=hinv
 unfold du
 rw[ht]
 exact⟨_,E,hp⟩
theorem down_ok {q:List Twait} (hl:q.length≤1000000000) {n:Nat} (hn:n≤q.length):∃b q',cE q 0 (n:Int)=some (b,q')∧q'.Perm q:=by
 have hinv:=bq (body:=cN (n:Int)) (fun s=>∃(k:Nat) (p:List Twait),s=((k:Int),p)∧k≤q.length∧p.Perm q) (fun _ t=>t.2.Perm q) (fun s=>q.length-s.1.toNat) (by
  rintro _ ⟨k,p,rfl,hk,hp⟩
  have hpl:=hp.length_eq
  have e1:w64 (2*(k:Int))=((2*k:Nat):Int):=by rw[ci (by omega) (by omega)];omega
  have e2:w64 (w64 (2*(k:Int))+1)=((2*k+1:Nat):Int):=by rw[e1,ci (by omega) (by omega)];omega
  have e3:w64 (w64 (w64 (2*(k:Int))+1)+1)=((2*k+2:Nat):Int):=by rw[e2,ci (by omega) (by omega)];omega
  unfold cN;dsimp only
  rw[e3,e2]
  have move:∀j:Nat,k<j→j<n→∃s',(bL p (k:Int) (j:Int)).bind (fun y=>(some (Sum.inl ((j:Int),y)):Option ((Int × List Twait) ⊕ (Int × List Twait))))=some (.inl s')∧(∃(k:Nat) (p:List Twait),s'=((k:Int),p)∧k≤q.length∧p.Perm q)∧q.length-s'.1.toNat<q.length-k∧∀t:Int × List Twait,t.2.Perm q→t.2.Perm q:=fun j h1 h2=>by
   obtain⟨p',hs,hp'⟩:=rq (q:=p) (i:=k) (k:=j) (by omega) (by omega)
   rw[hs,oB]
   exact⟨_,E,⟨j,p',E,by omega,hp'.trans hp⟩,by dsimp only;omega,fun t h=>h⟩
  have hk2:(k:Int).toNat=k:=Int.toNat_natCast k
  by_cases h1:n≤2*k+1
  ·rw[if_pos (by rw[Bool.or_eq_true,decide_eq_true_eq];exact .inl (by omega))]
   exact .inr ⟨_,E,hp⟩
  ·rw[if_neg (by rw[Bool.or_eq_true,decide_eq_true_eq,decide_eq_true_eq];omega)]
   have hc1:=qy (q:=p) (i:=2*k+1) (k:=k) (by omega) (by omega)
   by_cases h2:2*k+2<n
   ·have hc2:=qy (q:=p) (i:=2*k+2) (k:=2*k+1) (by omega) (by omega)
    have hc3:=qy (q:=p) (i:=2*k+2) (k:=k) (by omega) (by omega)
    rw[ff (by omega),hc2,oB,oB]
    by_cases hc:(p[2*k+2]'(by omega)).f_at<(p[2*k+1]'(by omega)).f_at
    ·rw[if_pos (decide_eq_true hc),hc3,oB]
     by_cases hd:(p[2*k+2]'(by omega)).f_at<(p[k]'(by omega)).f_at
     ·rw[decide_eq_true hd,if_neg (by simp),hk2]
      exact .inl (move (2*k+2) (by omega) h2)
     ·rw[decide_eq_false hd,if_pos (by rfl)]
      exact .inr ⟨_,E,hp⟩
    ·rw[if_neg (by simp[hc]),hc1,oB]
     by_cases hd:(p[2*k+1]'(by omega)).f_at<(p[k]'(by omega)).f_at
     ·rw[decide_eq_true hd,if_neg (by simp),hk2]
      exact .inl (move (2*k+1) (by omega) (by omega))
     ·rw[decide_eq_false hd,if_pos (by rfl)]
      exact .inr ⟨_,E,hp⟩
   ·rw[ei (by omega),oB,if_neg (by simp),hc1,oB]
    by_cases hd:(p[2*k+1]'(by omega)).f_at<(p[k]'(by omega)).f_at
    ·rw[decide_eq_true hd,if_neg (by simp),hk2]
     exact .inl (move (2*k+1) (by omega) (by omega))
    ·rw[decide_eq_false hd,if_pos (by rfl)]
     exact .inr ⟨_,E,hp⟩) (0,q) ⟨0,q,E,Nat.zero_le _,List.Perm.refl _⟩
 obtain⟨t,ht,hp⟩:=hinv
 unfold cE
 rw[ht]
 exact⟨_,_,E,hp⟩
theorem Pop_ok {q:List Twait} (hl:q.length≤1000000000) (h0:0<q.length):∃x l,da q=some (x,l)∧(x::l).Perm q:=by
 have ew:w64 (((q.length:Nat):Int)-1)=((q.length-1:Nat):Int):=by rw[ci (by omega) (by omega)];omega
 obtain⟨q1,h1,p1⟩:=rq (q:=q) (i:=0) (k:=q.length-1) (by omega) (by omega)
 have l1:=p1.length_eq
 obtain⟨b,q2,h2,p2⟩:=down_ok (q:=q1) (by omega) (n:=q.length-1) (by omega)
 have l2:=p2.length_eq
 unfold da bY
 rw[oB,ew,show(0:Int)=((0:Nat):Int)from E,h1,oB,show((0:Nat):Int)=0 from E,h2,oB]
 unfold gK
 dsimp only
 have ew2:w64 (((q2.length:Nat):Int)-1)=((q2.length-1:Nat):Int):=by rw[ci (by omega) (by omega)];omega
 rw[ew2,gPo (by omega),gPo (by omega),bh (by omega),oB,Int.toNat_natCast]
 refine⟨_,_,E,?_⟩
 have e:q2.take (q2.length-1)++[q2[q2.length-1]'(by omega)]=q2:=by
  rw[←List.take_succ_eq_append_getElem (by omega),List.take_of_length_le (by omega)]
 refine List.Perm.trans ?_ (p2.trans p1)
 show((q2[q2.length-1]'(by omega))::q2.take (q2.length-1)).Perm q2
 conv=>rhs;rw[←e]
 exact(List.perm_append_comm (l₁:=[q2[q2.length-1]'(by omega)]) (l₂:=q2.take (q2.length-1)))
theorem Push_ok {q:List Twait} (hl:q.length+1≤1000000000) (x:Twait):∃q',cM q x=some q'∧q'.Perm (x::q):=by
 unfold cM gu bY
 have e:(q++[x]).length=q.length+1:=by simp
 obtain⟨q',h,hp⟩:=up_ok (q:=q++[x]) (by omega) (j:=q.length) (by omega)
 have ew:w64 (((q++[x]).length:Int)-1)=(q.length:Int):=by rw[e,ci (by omega) (by omega)];omega
 rw[gPo hl,oB,oB,ew,h]
 exact⟨_,E,hp.trans (List.perm_append_comm (l₁:=q) (l₂:=[x]))⟩
set_option linter.unusedSimpArgs false
def lb0:Tl:=Tl.mk 0 (Ts.mk 0 0) (TLeg.mk 0 0) false
def lab (m:List (Ts × Tl)) (s:Ts):Option Tl:=if bm m s=true then some (aA lb0 m s)else none
theorem gq (k:Ts) (v:Tl) (m:List (Ts × Tl)) (s:Ts):lab ((k,v)::m) s=if k=s then some v else lab m s:=by
 unfold lab
 rw[dS,fh]
 by_cases h:k=s
 ·rw[if_pos h,if_pos h,if_pos h,if_pos E]
 ·rw[if_neg h,if_neg h,if_neg h]
theorem pT {m:List (Ts × Tl)} {s:Ts} {l:Tl} (h:lab m s=some l):bm m s=true∧aA lb0 m s=l:=by
 unfold lab at h
 by_cases hh:bm m s=true
 ·rw[if_pos hh]at h;exact⟨hh,Option.some.inj h⟩
 ·rw[if_neg hh]at h;cases h
theorem sO {m:List (Ts × Tl)} {s:Ts} (h:lab m s=none):bm m s=false:=by
 unfold lab at h
 by_cases hh:bm m s=true
 ·rw[if_pos hh]at h;cases h
 ·exact Bool.eq_false_iff.2 hh
def arr (t:TT) (h:Int):Int:=if dL t.fK h+t.fLong≤16384 then dL t.fK h+t.fLong else -1
theorem og {t:TT} {h:Int} (h1:0≤arr t h):dL t.fK h+t.fLong≤16384∧arr t h=dL t.fK h+t.fLong:=by
 unfold arr at h1 ⊢
 by_cases hc:dL t.fK h+t.fLong≤16384
 ·rw[if_pos hc];exact⟨hc,E⟩
 ·rw[if_neg hc]at h1;omega
structure LOk (r:TR) (f h:Int) (m:List (Ts × Tl)) (s:Ts) (l:Tl):Prop where
 at0:h≤l.f_at
 at1:l.f_at≤16384
 place:0≤s.f_place∧s.f_place<r.fPlaces
 toll:0≤s.f_toll∧s.f_toll≤60
 src:(l.f_begin=true∧s=⟨f,0⟩∧l.f_at=h)∨(l.f_begin=false∧∃lp t,lab m l.f_from=some lp∧t∈r.fTracks∧t.fFrom=l.f_from.f_place∧s=⟨t.fTo,l.f_from.f_toll+t.fToll⟩∧l.f_leg.fTrack=t.fID∧lp.f_at≤l.f_leg.fHour∧dL t.fK l.f_leg.fHour=l.f_leg.fHour∧l.f_at=l.f_leg.fHour+t.fLong)
def Relax (m:List (Ts × Tl)) (s:Ts) (l:Tl) (t:TT):Prop:=s.f_toll+t.fToll≤60→0≤arr t l.f_at→∃l',lab m ⟨t.fTo,s.f_toll+t.fToll⟩=some l'∧l'.f_at≤arr t l.f_at
def rm (m:List (Ts × Tl)) (p c:Nat):Int:=match lab m ⟨(p:Int),(c:Int)⟩with
 | some l=>l.f_at
 | none=>16385
def pot (m:List (Ts × Tl)):Int:=sm 16 fun p=>sm 61 fun c=>rm m p c
structure LInv (r:TR) (f h:Int) (D:Ts→List TT) (q:List Twait) (m:List (Ts × Tl)):Prop where
 beg:lab m ⟨f,0⟩=some ⟨h,⟨0,0⟩,⟨0,0⟩,true⟩
 lok:∀s l,lab m s=some l→LOk r f h m s l
 que:∀w∈q,∃l,lab m w.f_stop=some l∧l.f_at≤w.f_at
 rel:∀s l,lab m s=some l→(Twait.mk l.f_at s)∈q∨∀t∈D s,Relax m s l t
 szm:(m.length:Int)+pot m≤16000000
 szq:(q.length:Int)+pot m≤16000000
theorem sm_ub {f:Nat→Int} {B:Int}:∀{n:Nat},(∀i,i<n→f i≤B)→sm n f≤(n:Int)*B
 | 0,_=>by show(0:Int)≤_;omega
 | n+1,h=>by
  have ih:=sm_ub (n:=n) fun i hi=>h i (by omega)
  have h1:=h n (by omega)
  show sm n f+f n≤_
  have e:((n+1:Nat):Int)*B=(n:Int)*B+B:=by rw[Int.natCast_add,Int.add_mul];simp
  omega
theorem pval_hi {m:List (Ts × Tl)} (h:∀s l,lab m s=some l→l.f_at≤16384) (p c:Nat):rm m p c≤16385:=by
 unfold rm
 cases e:lab m ⟨(p:Int),(c:Int)⟩with
 | none=>exact Int.le_refl _
 | some l=>have:=h _ _ e;dsimp only;omega
theorem pot_hi {m:List (Ts × Tl)} (h:∀s l,lab m s=some l→l.f_at≤16384):pot m≤15991760:=by
 have h1:=sm_ub (n:=16) (f:=fun p=>sm 61 fun c=>rm m p c) (B:=999485) fun p _=>by
  have:=sm_ub (n:=61) (f:=fun c=>rm m p c) (B:=16385) fun c _=>pval_hi h p c
  omega
 unfold pot
 omega
theorem pot_lo {m:List (Ts × Tl)} (h:∀s l,lab m s=some l→0≤l.f_at):0≤pot m:=lK fun p _=>lK fun c _=>by
 unfold rm
 cases e:lab m ⟨(p:Int),(c:Int)⟩with
 | none=>dsimp only;omega
 | some l=>have:=h _ _ e;dsimp only;omega
theorem LInv.pot0 {r:TR} {f h:Int} {D:Ts→List TT} {q:List Twait} {m:List (Ts × Tl)} (hI:LInv r f h D q m) (hh:0≤h):0≤pot m:=pot_lo fun s l e=>Int.le_trans hh (hI.lok s l e).at0
theorem pot_put {m:List (Ts × Tl)} {k:Ts} {v:Tl} (hp:0≤k.f_place∧k.f_place<16) (ht:0≤k.f_toll∧k.f_toll≤60) (hv:v.f_at≤16384) (h0:0≤v.f_at) (hlt:∀l,lab m k=some l→v.f_at<l.f_at):pot ((k,v)::m)+1≤pot m:=by
 obtain⟨p,ep⟩:∃p:Nat,k.f_place=(p:Int):=⟨k.f_place.toNat,by omega⟩
 obtain⟨c,ec⟩:∃c:Nat,k.f_toll=(c:Int):=⟨k.f_toll.toNat,by omega⟩
 have ek:k=⟨(p:Int),(c:Int)⟩:=by cases k;simp only at ep ec;rw[ep,ec]
 have hle:∀i j,rm ((k,v)::m) i j≤rm m i j:=fun i j=>by
  unfold rm
  rw[gq]
  by_cases e:k=⟨(i:Int),(j:Int)⟩
  ·rw[if_pos e]
   cases el:lab m ⟨(i:Int),(j:Int)⟩with
   | none=>dsimp only;omega
   | some l=>have:=hlt l (by rw[e];exact el);dsimp only;omega
  ·rw[if_neg e];exact Int.le_refl _
 have hlt2:rm ((k,v)::m) p c<rm m p c:=by
  unfold rm
  rw[gq,if_pos ek]
  cases el:lab m ⟨(p:Int),(c:Int)⟩with
  | none=>dsimp only;omega
  | some l=>have:=hlt l (by rw[ek];exact el);dsimp only;omega
 have h1:=sm_lt (n:=61) (k:=c) (by omega) (f:=fun j=>rm ((k,v)::m) p j) (g:=fun j=>rm m p j) (fun j _=>hle p j) hlt2
 have h2:=sm_lt (n:=16) (k:=p) (by omega) (f:=fun i=>sm 61 fun j=>rm ((k,v)::m) i j) (g:=fun i=>sm 61 fun j=>rm m i j) (fun i _=>pk fun j _=>hle i j) h1
 unfold pot
 omega
theorem LInv.put {r:TR} (hR:GoodR r) {f h:Int} (hh:0≤h) {D:Ts→List TT} {q q':List Twait} {m:List (Ts × Tl)} (hI:LInv r f h D q m) {k:Ts} {v:Tl} (hv:LOk r f h m k v) (hb:v.f_begin=false) (hne:v.f_from≠k) (hlt:∀l,lab m k=some l→v.f_at<l.f_at) (hq:q'.Perm (⟨v.f_at,k⟩::q)):LInv r f h D q' ((k,v)::m):=by
 have hk:k≠⟨f,0⟩:=fun e=>by
  have h1:=hlt _ (by rw[e];exact hI.beg)
  have h2:=hv.at0
  dsimp only at h1
  omega
 have hp:=pot_put (m:=m) (k:=k) (v:=v) (by have:=hv.place;have:=hR.places;omega) hv.toll hv.at1 (by have:=hv.at0;omega) hlt
 have low:∀s l,lab m s=some l→∃l',lab ((k,v)::m) s=some l'∧l'.f_at≤l.f_at:=fun s l e=>by
  rw[gq]
  by_cases e2:k=s
  ·rw[if_pos e2]
   have:=hlt l (by rw[e2];exact e)
   exact⟨v,E,by omega⟩
  ·rw[if_neg e2];exact⟨l,e,Int.le_refl _⟩
 refine⟨by rw[gq,if_neg hk];exact hI.beg,fun s l e=>?_,fun w hw=>?_,fun s l e=>?_,?_,?_⟩
 ·rw[gq]at e
  have key:∀s l,LOk r f h m s l→(l.f_begin=false→l.f_from≠k∨True)→LOk r f h ((k,v)::m) s l:=fun s l ho _=>by
   refine⟨ho.at0,ho.at1,ho.place,ho.toll,?_⟩
   rcases ho.src with hs|⟨hs,lp,t,h1,h2,h3,h4,h5,h6,h7,h8⟩
   ·exact .inl hs
   ·obtain⟨l',e1,e2⟩:=low _ _ h1
    exact .inr ⟨hs,l',t,e1,h2,h3,h4,h5,by omega,h7,h8⟩
  by_cases e2:k=s
  ·rw[if_pos e2]at e
   cases e
   rw[←e2]
   exact key k v hv fun _=>.inr trivial
  ·rw[if_neg e2]at e
   exact key s l (hI.lok s l e) fun _=>.inr trivial
 ·rcases List.mem_cons.1 (hq.mem_iff.1 hw)with rfl|hw
  ·exact⟨v,by rw[gq,if_pos E],Int.le_refl _⟩
  ·obtain⟨l,e1,e2⟩:=hI.que w hw
   obtain⟨l',e3,e4⟩:=low _ _ e1
   exact⟨l',e3,by omega⟩
 ·rw[gq]at e
  by_cases e2:k=s
  ·rw[if_pos e2]at e
   cases e
   subst e2
   exact .inl (hq.mem_iff.2 List.mem_cons_self)
  ·rw[if_neg e2]at e
   rcases hI.rel s l e with hw|hr
   ·exact .inl (hq.mem_iff.2 (List.mem_cons_of_mem _ hw))
   ·refine .inr fun t ht h1 h2=>?_
    obtain⟨l',e3,e4⟩:=hr t ht h1 h2
    obtain⟨l2,e5,e6⟩:=low _ _ e3
    exact⟨l2,e5,by omega⟩
 ·have:=hI.szm
  rw[List.length_cons];omega
 ·have:=hI.szq
  rw[hq.length_eq,List.length_cons];omega
theorem r2_ok {r:TR} (hR:GoodR r) {x:Twait × List Twait} (ha:0≤x.1.f_at∧x.1.f_at≤16384) (hc:0≤x.1.f_stop.f_toll∧x.1.f_stop.f_toll≤60) {t:TT} (ht:t∈r.fTracks) {m:List (Ts × Tl)} {q:List Twait} (hm:m.length<1000000000) (hq:q.length+1≤1000000000) :
  (ct x (m,q) t=some (.inl (m,q))∧(x.1.f_stop.f_toll+t.fToll≤60→0≤arr t x.1.f_at→∃l',lab m ⟨t.fTo,x.1.f_stop.f_toll+t.fToll⟩=some l'∧l'.f_at≤arr t x.1.f_at)) ∨
  (x.1.f_stop.f_toll+t.fToll≤60∧0≤arr t x.1.f_at∧(∀l',lab m ⟨t.fTo,x.1.f_stop.f_toll+t.fToll⟩=some l'→arr t x.1.f_at<l'.f_at)∧∃q',ct x (m,q) t=some (.inl ((⟨t.fTo,x.1.f_stop.f_toll+t.fToll⟩,⟨arr t x.1.f_at,x.1.f_stop,⟨t.fID,dL t.fK x.1.f_at⟩,false⟩)::m,q'))∧q'.Perm (⟨arr t x.1.f_at,⟨t.fTo,x.1.f_stop.f_toll+t.fToll⟩⟩::q)):=by
 have hT:=hR.trk t ht
 have h1:=hT.long
 have h2:=hT.toll
 have h3:=iP t.fK x.1.f_at
 have h4:=qB hT.spans ha.2
 have h5:=hT.to
 have hp:=hR.places
 have ew:w64 (x.1.f_stop.f_toll+t.fToll)=x.1.f_stop.f_toll+t.fToll:=ci (by omega) (by omega)
 have ew2:w64 (dL t.fK x.1.f_at+t.fLong)=dL t.fK x.1.f_at+t.fLong:=ci (by omega) (by omega)
 have hokk:a5 ⟨t.fTo,x.1.f_stop.f_toll+t.fToll⟩=true:=by
  unfold a5 eg
  simp only[Bool.and_eq_true,decide_eq_true_eq]
  exact⟨⟨by omega,by omega⟩,by omega,by omega⟩
 unfold ct
 rw[pU hT.spans (by have:=hT.few;omega),oB]
 dsimp only
 rw[ew,ew2,mK,oB,orB,oB]
 by_cases hgo:x.1.f_stop.f_toll+t.fToll≤60∧dL t.fK x.1.f_at+t.fLong≤16384
 ·have ea:arr t x.1.f_at=dL t.fK x.1.f_at+t.fLong:=if_pos hgo.2
  have c1:((!mM (dL t.fK x.1.f_at)||decide (60<x.1.f_stop.f_toll+t.fToll)) || !decide (0≤dL t.fK x.1.f_at+t.fLong∧dL t.fK x.1.f_at+t.fLong≤16384))=false:=by
   unfold mM
   simp only[Bool.or_eq_false_iff,Bool.not_eq_false',decide_eq_true_eq,decide_eq_false_iff_not]
   omega
  rw[c1,if_neg (by simp),gPo hokk,gPo ⟨hokk,hm⟩,←ea]
  obtain⟨q',hpu,hpp⟩:=Push_ok (q:=q) hq ⟨arr t x.1.f_at,⟨t.fTo,x.1.f_stop.f_toll+t.fToll⟩⟩
  rw[hpu,oB]
  cases el:lab m ⟨t.fTo,x.1.f_stop.f_toll+t.fToll⟩with
  | none =>
   rw[sO el,if_neg (by simp)]
   exact .inr ⟨hgo.1,by omega,fun l' e=>(by cases e),q',E,hpp⟩
  | some l =>
   obtain⟨e1,e2⟩:=pT el
   rw[e1,show(Tl.mk 0 (Ts.mk 0 0) (TLeg.mk 0 0) false)=lb0 from E,e2,Bool.true_and]
   by_cases hle:l.f_at≤arr t x.1.f_at
   ·rw[if_pos (decide_eq_true hle)]
    exact .inl ⟨E,fun _ _=>⟨l,E,hle⟩⟩
   ·rw[if_neg (by simpa using hle)]
    exact .inr ⟨hgo.1,by omega,fun l' e=>by cases e;omega,q',E,hpp⟩
 ·have c1:((!mM (dL t.fK x.1.f_at)||decide (60<x.1.f_stop.f_toll+t.fToll)) || !decide (0≤dL t.fK x.1.f_at+t.fLong∧dL t.fK x.1.f_at+t.fLong≤16384))=true:=by
   unfold mM
   simp only[Bool.or_eq_true,Bool.not_eq_true',decide_eq_true_eq,decide_eq_false_iff_not]
   omega
  rw[c1,if_pos E]
  refine .inl ⟨E,fun h6 h7=>?_⟩
  have:=(og h7).1
  omega
theorem rc {S T α:Type} {fn:S→α→Option (S ⊕ T)} (J:List α→S→Prop):∀(l done:List α) (s:S),J done s→(∀done x s,x∈l→J done s→∃s',fn s x=some (.inl s')∧J (done++[x]) s')→∃s',g8 fn l s=some (.inl s')∧J (done++l) s'
 | [],done,s,h,_=>⟨s,E,by rw[List.append_nil];exact h⟩
 | x::l,done,s,h,hs=>by
  obtain⟨s',e,h'⟩:=hs done x s List.mem_cons_self h
  obtain⟨s2,e2,h2⟩:=rc J l (done++[x]) s' h' fun d z u hz hu=>hs d z u (List.mem_cons_of_mem _ hz) hu
  refine⟨s2,?_,by rw[List.append_assoc]at h2;exact h2⟩
  show(match fn s x with|none=>none|some (.inl s')=>g8 fn l s' | some (.inr t)=>some (.inr t))=_
  rw[e]
  exact e2
def lP (r:TR) (s:Ts):List TT:=r.fTracks.filter fun z=>z.fFrom==s.f_place
theorem qN {r:TR} (hR:GoodR r) {f h:Int} (hh:0≤h) {q:List Twait} {m:List (Ts × Tl)} (hI:LInv r f h (lP r) q m) (h0:0<q.length):∃q' m',dV r (q,m)=some (.inl (q',m'))∧LInv r f h (lP r) q' m'∧2*pot m'+(q'.length:Int)<2*pot m+(q.length:Int):=by
 have hp0:=hI.pot0 hh
 have hzq:=hI.szq
 obtain⟨x,rest,hpop,hperm⟩:=Pop_ok (q:=q) (by omega) h0
 have hlen:=hperm.length_eq
 rw[List.length_cons]at hlen
 obtain⟨l0,hl0,hle0⟩:=hI.que x (hperm.mem_iff.1 List.mem_cons_self)
 have hlo:=hI.lok _ _ hl0
 obtain⟨e1,e2⟩:=pT hl0
 have hpl:=hlo.place
 have htl:=hlo.toll
 have hpr:=hR.places
 have ha0:=hlo.at0
 have ha1:=hlo.at1
 have hokk:a5 x.f_stop=true:=by
  unfold a5 eg
  simp only[Bool.and_eq_true,decide_eq_true_eq]
  exact⟨⟨by omega,by omega⟩,by omega,by omega⟩
 unfold dV bY
 dsimp only
 rw[oB,ff (by omega),hpop,oB]
 dsimp only
 rw[gPo hokk,show(Tl.mk 0 (Ts.mk 0 0) (TLeg.mk 0 0) false)=lb0 from E,e2]
 by_cases hlt:l0.f_at<x.f_at
 ·rw[if_pos (decide_eq_true hlt)]
  refine⟨rest,m,E,⟨hI.beg,hI.lok,fun w hw=>hI.que w (hperm.mem_iff.1 (List.mem_cons_of_mem _ hw)),fun s l e=>?_,hI.szm,by omega⟩,by omega⟩
  rcases hI.rel s l e with hw|hr
  ·rcases List.mem_cons.1 (hperm.mem_iff.2 hw)with hx|hw
   ·rw[←hx]at hl0 hlt
    dsimp only at hl0 hlt
    rw[e]at hl0;cases hl0
    omega
   ·exact .inl hw
  ·exact .inr hr
 ·rw[if_neg (by simpa using hlt)]
  have hat:x.f_at=l0.f_at:=by omega
  unfold jV
  rw[oB,gPo (show f5 (r,x.f_stop.f_place) by show r.fTracks.length≤1000;have:=hR.len;omega)]
  have hstart:LInv r f h (fun s=>if s=x.f_stop then[]else lP r s) rest m:=⟨hI.beg,hI.lok,fun w hw=>hI.que w (hperm.mem_iff.1 (List.mem_cons_of_mem _ hw)),fun s l e=>by
   by_cases hs:s=x.f_stop
   ·refine .inr fun t ht=>?_
    rw[if_pos hs]at ht;cases ht
   ·rw[if_neg hs]
    rcases hI.rel s l e with hw|hr
    ·rcases List.mem_cons.1 (hperm.mem_iff.2 hw)with hx|hw
     ·rw[←hx]at hs;exact absurd E hs
     ·exact .inl hw
    ·exact .inr hr,hI.szm,by omega⟩
  obtain⟨⟨m',q'⟩,hf,hJ⟩:=rc (fn:=ct (x,rest)) (fun done (s:List (Ts × Tl) × List Twait)=>LInv r f h (fun z=>if z=x.f_stop then done else lP r z) s.2 s.1∧lab s.1 x.f_stop=some l0∧2*pot s.1+(s.2.length:Int)≤2*pot m+(rest.length:Int)) (n3 (r,x.f_stop.f_place)) [] (m,rest) ⟨hstart,hl0,Int.le_refl _⟩ (fun done t s hts hs=>by
   obtain⟨m1,q1⟩:=s
   obtain⟨j1,j2,j3⟩:=hs
   dsimp only at j1 j2 j3
   unfold n3 at hts
   obtain⟨htr,hfr⟩:=List.mem_filter.1 hts
   have hfr2:t.fFrom=x.f_stop.f_place:=by simpa using hfr
   have hT:=hR.trk t htr
   have hpt:=hT.to
   have hne:=hT.ne
   have htt:=hT.toll
   have hp1:=j1.pot0 hh
   have hz1:=j1.szm
   have hz2:=j1.szq
   have hkne:(⟨t.fTo,x.f_stop.f_toll+t.fToll⟩:Ts)≠x.f_stop:=fun e=>by
    have:=congrArg Ts.f_place e
    dsimp only at this
    omega
   rcases r2_ok hR (x:=(x,rest)) (by dsimp only;omega) (by dsimp only;omega) htr (m:=m1) (q:=q1) (by omega) (by omega)with⟨h1,h2⟩|⟨h1,h2,h3,q2,h4,h5⟩
   ·dsimp only at h2
    refine⟨_,h1,⟨j1.beg,j1.lok,j1.que,fun s l e=>?_,j1.szm,j1.szq⟩,j2,j3⟩
    rcases j1.rel s l e with hw|hr
    ·exact .inl hw
    ·refine .inr fun t' ht'=>?_
     by_cases hs:s=x.f_stop
     ·rw[if_pos hs]at ht' hr
      rcases List.mem_append.1 ht' with h6|h6
      ·exact hr t' h6
      ·rw[List.mem_singleton.1 h6]
       subst hs
       rw[j2]at e;cases e
       intro h7 h8
       rw[hat]at h2
       exact h2 h7 h8
     ·rw[if_neg hs]at ht' hr
      exact hr t' ht'
   ·dsimp only at h1 h2 h3 h4 h5
    obtain⟨ea1,ea2⟩:=og h2
    have hen:=iP t.fK x.f_at
    have hidem:=lU x.f_at hT.spans
    have hlg:=hT.long
    have hput:=j1.put hR hh (k:=⟨t.fTo,x.f_stop.f_toll+t.fToll⟩) (v:=⟨arr t x.f_at,x.f_stop,⟨t.fID,dL t.fK x.f_at⟩,false⟩) ⟨by dsimp only;omega,by dsimp only;omega,⟨hpt.1,by dsimp only;omega⟩,by dsimp only;omega,.inr ⟨E,l0,t,j2,htr,hfr2,E,E,by dsimp only;omega,hidem,ea2⟩⟩ E (fun e=>hkne e.symm) h3 h5
    have hpp:=pot_put (m:=m1) (k:=⟨t.fTo,x.f_stop.f_toll+t.fToll⟩) (v:=⟨arr t x.f_at,x.f_stop,⟨t.fID,dL t.fK x.f_at⟩,false⟩) ⟨hpt.1,by dsimp only;omega⟩ (by dsimp only;omega) (by dsimp only;omega) (by dsimp only;omega) h3
    have hl5:=h5.length_eq
    rw[List.length_cons]at hl5
    refine⟨_,h4,⟨hput.beg,hput.lok,hput.que,fun s l e=>?_,hput.szm,hput.szq⟩,by dsimp only;rw[gq,if_neg hkne];exact j2,by dsimp only;omega⟩
    rcases hput.rel s l e with hw|hr
    ·exact .inl hw
    ·refine .inr fun t' ht'=>?_
     by_cases hs:s=x.f_stop
     ·rw[if_pos hs]at ht' hr
      rcases List.mem_append.1 ht' with h6|h6
      ·exact hr t' h6
      ·rw[List.mem_singleton.1 h6]
       subst hs
       rw[gq,if_neg hkne,j2]at e;cases e
       intro h7 h8
       refine⟨_,by rw[gq,if_pos E],?_⟩
       dsimp only
       rw[hat]
       exact Int.le_refl _
     ·rw[if_neg hs]at ht' hr
      exact hr t' ht')
  rw[hf]
  obtain⟨j1,j2,j3⟩:=hJ
  dsimp only at j1 j2 j3
  refine⟨q',m',E,⟨j1.beg,j1.lok,j1.que,fun s l e=>?_,j1.szm,j1.szq⟩,by omega⟩
  rcases j1.rel s l e with hw|hr
  ·exact .inl hw
  ·refine .inr ?_
   by_cases hs:s=x.f_stop
   ·rw[if_pos hs]at hr
    rw[hs]
    rw[hs]at hr
    exact hr
   ·rw[if_neg hs]at hr
    exact hr
theorem labels_ok {r:TR} (hR:GoodR r) {f h:Int} (hf:0≤f∧f<r.fPlaces) (hh:0≤h∧h≤16384):∃m,fM r f h=some m∧LInv r f h (lP r) [] m:=by
 have hpr:=hR.places
 have hokk:a5 ⟨f,0⟩=true:=by
  unfold a5 eg
  simp only[Bool.and_eq_true,decide_eq_true_eq]
  exact⟨⟨by omega,by omega⟩,by omega,by omega⟩
 have hlab:∀s,lab [(⟨f,0⟩,⟨h,⟨0,0⟩,⟨0,0⟩,true⟩)] s=if(⟨f,0⟩:Ts)=s then some ⟨h,⟨0,0⟩,⟨0,0⟩,true⟩else none:=fun s=>gq _ _ [] s
 have hst:LInv r f h (lP r) [⟨h,⟨f,0⟩⟩] [(⟨f,0⟩,⟨h,⟨0,0⟩,⟨0,0⟩,true⟩)]:=by
  have hall:∀s l,lab [((⟨f,0⟩:Ts),(⟨h,⟨0,0⟩,⟨0,0⟩,true⟩:Tl))] s=some l→s=⟨f,0⟩∧l=⟨h,⟨0,0⟩,⟨0,0⟩,true⟩:=fun s l e=>by
   rw[hlab]at e
   by_cases e2:(⟨f,0⟩:Ts)=s
   ·rw[if_pos e2]at e;exact⟨e2.symm,(Option.some.inj e).symm⟩
   ·rw[if_neg e2]at e;cases e
  have hpot:=pot_hi (m:=[((⟨f,0⟩:Ts),(⟨h,⟨0,0⟩,⟨0,0⟩,true⟩:Tl))]) fun s l e=>by rw[(hall s l e).2];exact hh.2
  refine⟨by rw[hlab,if_pos E],fun s l e=>?_,fun w hw=>?_,fun s l e=>?_,by simp;omega,by simp;omega⟩
  ·obtain⟨rfl,rfl⟩:=hall s l e
   exact⟨Int.le_refl _,hh.2,hf,⟨Int.le_refl _,by dsimp only;omega⟩,.inl ⟨E,E,E⟩⟩
  ·rw[List.mem_singleton.1 hw]
   exact⟨_,by rw[hlab,if_pos E],Int.le_refl _⟩
  ·obtain⟨rfl,rfl⟩:=hall s l e
   exact .inl List.mem_cons_self
 have hinv:=bq (body:=dV r) (fun s=>LInv r f h (lP r) s.1 s.2) (fun _ t=>LInv r f h (lP r) [] t.2) (fun s=>(2*pot s.2+(s.1.length:Int)).toNat) (by
  rintro⟨q,m⟩ hI
  dsimp only at hI
  rcases Nat.eq_zero_or_pos q.length with h0|h0
  ·have hq:q=[]:=List.eq_nil_of_length_eq_zero h0
   subst hq
   refine .inr ⟨([],m),?_,hI⟩
   unfold dV bY
   rfl
  ·obtain⟨q',m',h1,h2,h3⟩:=qN hR hh.1 hI h0
   have hp:=h2.pot0 hh.1
   exact .inl ⟨_,h1,h2,by dsimp only;omega,fun t h=>h⟩) ([⟨h,⟨f,0⟩⟩],[(⟨f,0⟩,⟨h,⟨0,0⟩,⟨0,0⟩,true⟩)]) hst
 obtain⟨t,ht,hI⟩:=hinv
 unfold fM
 rw[gPo ⟨hokk,by simp⟩,ht]
 exact⟨t.2,E,hI⟩
set_option linter.unusedSimpArgs false
structure PlanOf (y:TY) (h:Nat→Option Nat) (q:Nat→Int) (p:TPlan):Prop where
 worth:p.fW=wor y.fB.length (wo y) h
 len:p.fG.length=y.fR.length
 got:∀o k,h k=some o→p.fG.getD o 0=(bat y k).fID
 not:∀o,¬Dom h o→p.fG.getD o 0=0
 plen:p.fPrices.length=y.fB.length
 price:∀k,k<y.fB.length→p.fPrices.getD k 0=q k
set_option linter.unusedSimpArgs false
def OkH (nB nO:Nat) (held:List Int):Prop:=held.length=nB∧∀k,k<nB→rdL held (k:Int)<0∨∃o:Nat,rdL held (k:Int)=(o:Int)∧o<nO
theorem rdL_set {α:Type} [Inhabited α] (l:List α) {k:Nat} (hk:k<l.length) (v:α) (j:Nat):rdL (l.set k v) (j:Int)=if j=k then v else rdL l (j:Int):=by
 unfold rdL
 rw[Int.toNat_natCast,List.getD_eq_getElem?_getD,List.getD_eq_getElem?_getD]
 by_cases h:j=k
 ·subst h;rw[if_pos E,List.getElem?_set_self hk];rfl
 ·rw[if_neg h,List.getElem?_set_ne (fun e=>h e.symm)]
theorem OkH.set {nB nO:Nat} {held:List Int} (h:OkH nB nO held) {k o:Nat} (hk:k<nB) (ho:o<nO):OkH nB nO (held.set k (o:Int)):=by
 refine⟨by rw[List.length_set];exact h.1,fun j hj=>?_⟩
 rw[rdL_set held (by rw[h.1];exact hk)]
 by_cases e:j=k
 ·rw[if_pos e];exact .inr ⟨o,E,ho⟩
 ·rw[if_neg e];exact h.2 j hj
structure Nums (n:Nat) (l:List Int):Prop where
 nat:∀x∈l,∃k:Nat,x=(k:Int)∧k<n
 once:l.Nodup
set_option linter.unusedSimpArgs false
inductive Tr (r:TR) (f h:Int):Int→Int→Int→Prop
 | start:Tr r f h f 0 h
 | step {p c a:Int} (t:TT) (n:Int):Tr r f h p c a→t∈r.fTracks→t.fFrom=p→a≤n→dL t.fK n=n→Tr r f h t.fTo (c+t.fToll) (n+t.fLong)
theorem Tr.low {r:TR} (hR:GoodR r) {f h p c a:Int} (ht:Tr r f h p c a):h≤a∧0≤c:=by
 induction ht with
 | start=>exact⟨Int.le_refl _,Int.le_refl _⟩
 | step t n _ hm _ hn _ ih =>
  have h1:=(hR.trk t hm).long
  have h2:=(hR.trk t hm).toll
  omega
theorem LInv.reach {r:TR} (hR:GoodR r) {f h:Int} {m:List (Ts × Tl)} (hh:0≤h) (hI:LInv r f h (lP r) [] m) {p c a:Int} (ht:Tr r f h p c a):c≤60→a≤16384→∃l,lab m ⟨p,c⟩=some l∧l.f_at≤a:=by
 induction ht with
 | start=>exact fun _ _=>⟨_,hI.beg,Int.le_refl _⟩
 | @step p c a t n hp hm hf hn he ih =>
  intro hc ha
  have hT:=hR.trk t hm
  have h1:=hT.long
  have h2:=hT.toll
  obtain⟨l,hl,hle⟩:=ih (by omega) (by omega)
  rcases hI.rel _ _ hl with hw|hr
  ·cases hw
  ·have h3:=n0 t.fK (Int.le_trans hle hn)
   have e:arr t l.f_at=dL t.fK l.f_at+t.fLong:=if_pos (by omega)
   have h4:=iP t.fK l.f_at
   have h5:=(hI.lok _ _ hl).at0
   obtain⟨l',h6,h7⟩:=hr t (List.mem_filter.2 ⟨hm,by rw[beq_iff_eq];exact hf⟩) hc (by omega)
   exact⟨l',h6,by omega⟩
theorem LInv.attain {r:TR} (hR:GoodR r) {f h:Int} {q:List Twait} {D:Ts→List TT} {m:List (Ts × Tl)} (hI:LInv r f h D q m):∀(n:Nat) (s:Ts) (l:Tl),l.f_at-h≤(n:Int)→lab m s=some l→Tr r f h s.f_place s.f_toll l.f_at:=by
 intro n
 induction n with
 | zero =>
  intro s l hn hl
  rcases (hI.lok s l hl).src with⟨_,e,e2⟩|⟨_,lp,t,h1,h2,h3,h4,h5,h6,h7,h8⟩
  ·rw[e,e2];exact .start
  ·have:=(hI.lok _ _ h1).at0
   have:=(hR.trk t h2).long
   omega
 | succ n ih =>
  intro s l hn hl
  rcases (hI.lok s l hl).src with⟨_,e,e2⟩|⟨_,lp,t,h1,h2,h3,h4,h5,h6,h7,h8⟩
  ·rw[e,e2];exact .start
  ·have hlg:=(hR.trk t h2).long
   have h9:=ih l.f_from lp (by omega) h1
   rw[h4,h8]
   exact .step t _ h9 h2 h3 h6 h7
def po (r:TR):List TLeg→Int→Int→Int→Option (Int × Int × Int)
 | [],p,h,c=>some (p,h,c)
 | l::ls,p,h,c=>if 0≤eu r l.fTrack∧(rdL r.fTracks (eu r l.fTrack)).fFrom=p∧h≤l.fHour∧(0≤l.fHour∧l.fHour≤16384)∧dL (rdL r.fTracks (eu r l.fTrack)).fK l.fHour=l.fHour then po r ls (rdL r.fTracks (eu r l.fTrack)).fTo (l.fHour+(rdL r.fTracks (eu r l.fTrack)).fLong) (c+(rdL r.fTracks (eu r l.fTrack)).fToll)else none
theorem nY (r:TR) (l:TLeg) (ls:List TLeg) (p h c:Int):po r (l::ls) p h c=if 0≤eu r l.fTrack∧(rdL r.fTracks (eu r l.fTrack)).fFrom=p∧h≤l.fHour∧(0≤l.fHour∧l.fHour≤16384)∧dL (rdL r.fTracks (eu r l.fTrack)).fK l.fHour=l.fHour then po r ls (rdL r.fTracks (eu r l.fTrack)).fTo (l.fHour+(rdL r.fTracks (eu r l.fTrack)).fLong) (c+(rdL r.fTracks (eu r l.fTrack)).fToll)else none:=rfl
theorem trav_tr {r:TR} {f h0:Int}:∀(ls:List TLeg) {p h c:Int} {x:Int × Int × Int},Tr r f h0 p c h→po r ls p h c=some x→Tr r f h0 x.1 x.2.2 x.2.1
 | [],p,h,c,x,ht,e=>by cases e;exact ht
 | l::ls,p,h,c,x,ht,e=>by
  rw[nY]at e
  by_cases hc:0≤eu r l.fTrack∧(rdL r.fTracks (eu r l.fTrack)).fFrom=p∧h≤l.fHour∧(0≤l.fHour∧l.fHour≤16384)∧dL (rdL r.fTracks (eu r l.fTrack)).fK l.fHour=l.fHour
  ·rw[if_pos hc]at e
   exact trav_tr ls (.step _ l.fHour ht (qq (q:=fun n:TT=>n.fID==l.fTrack) hc.1) hc.2.1 hc.2.2.1 hc.2.2.2.2) e
  ·rw[if_neg hc]at e;cases e
theorem sM (r:TR) (id:Int):eu r id<(r.fTracks.length:Int):=rL _ _
theorem mH {r:TR} (hR:GoodR r) {f to h:Int} (hh:0≤h∧h≤16384) {j:TJ} (hj:j.fLegs.length≤1000000):f6 r f to h j=some (match po r j.fLegs f h 0 with|none=>false|some x=>(((x.1==to&&x.2.1==j.fA)&&x.2.2==j.fToll)&&decide (0≤x.2.1∧x.2.1≤16384))&&decide (x.2.2≤60)):=by
 have hrl:=hR.len
 have hinv:=bq (body:=eC r j)
  (fun s=>∃(k:Nat) (p a c:Int),s=(p,a,false,c,(k:Int))∧k≤j.fLegs.length∧0≤a∧a≤16456∧0≤c∧c≤40*(k:Int)∧po r j.fLegs f h 0=po r (j.fLegs.drop k) p a c)
  (fun _ out=>match out with
   | .inl u=>u.2.2.1=false∧po r j.fLegs f h 0=none
   | .inr u=>po r j.fLegs f h 0=some (u.1,u.2.1,u.2.2.2.1))
  (fun s=>j.fLegs.length-s.2.2.2.2.toNat) (by
   rintro _ ⟨k,p,a,c,rfl,hk,ha0,ha1,hc0,hc1,he⟩
   rcases Nat.lt_or_ge k j.fLegs.length with hlt|hge
   ·rw[List.drop_eq_getElem_cons hlt,nY]at he
    unfold eC;dsimp only
    rw[ff (by omega),gPo (by omega),bh hlt,rV (by omega),oB,mK,oB,bj (by omega)]
    have htl:=sM r (j.fLegs[k]).fTrack
    by_cases h1:0≤eu r (j.fLegs[k]).fTrack
    ·have hm:=qq (q:=fun n:TT=>n.fID==(j.fLegs[k]).fTrack) h1
     have hT:=hR.trk _ hm
     generalize hi:eu r (j.fLegs[k]).fTrack=i at he htl h1 ⊢
     have hT2:GoodT r.fPlaces (rdL r.fTracks i):=by rw[←hi];exact hT
     have hlg:=hT2.long
     have htoll:=hT2.toll
     rw[if_neg (by simp;omega),gPo (by omega),oB,orB,oB]
     by_cases h2:(rdL r.fTracks i).fFrom=p∧a≤(j.fLegs[k]).fHour∧(0≤(j.fLegs[k]).fHour∧(j.fLegs[k]).fHour≤16384)
     ·obtain⟨h3,h4,h5⟩:=h2
      have hb:(((rdL r.fTracks i).fFrom !=p||decide ((j.fLegs[k]).fHour<a)) || !decide (0≤(j.fLegs[k]).fHour∧(j.fLegs[k]).fHour≤16384))=false:=by
       simp only[Bool.or_eq_false_iff,Bool.not_eq_false',decide_eq_true_eq,decide_eq_false_iff_not,bne_eq_false_iff_eq]
       exact⟨⟨h3,by omega⟩,h5⟩
      rw[hb,if_neg (by simp),gPo (by omega),gF,pU hT2.spans (by have:=hT2.few;omega),oB]
      dsimp only
      by_cases h6:dL (rdL r.fTracks i).fK (j.fLegs[k]).fHour=(j.fLegs[k]).fHour
      ·rw[if_pos ⟨h1,h3,h4,h5,h6⟩]at he
       have hb2:(!mM (dL (rdL r.fTracks i).fK (j.fLegs[k]).fHour)||(dL (rdL r.fTracks i).fK (j.fLegs[k]).fHour !=(j.fLegs[k]).fHour))=false:=by
        rw[h6]
        unfold mM
        simp only[Bool.or_eq_false_iff,Bool.not_eq_false',decide_eq_true_eq,bne_self_eq_false,and_true]
        exact h5
       rw[hb2,if_neg (by simp),gPo (by omega),gPo (by omega),gPo (by omega),ci (by omega) (by omega),ci (by omega) (by omega)]
       exact .inl ⟨_,E,⟨k+1,_,_,_,E,hlt,by omega,by omega,by omega,by omega,he⟩,by dsimp only;omega,fun t h=>h⟩
      ·rw[if_neg fun hc=>h6 hc.2.2.2.2]at he
       rw[if_pos (by rw[Bool.or_eq_true];exact .inr (by simpa using h6))]
       exact .inr ⟨_,E,E,he⟩
     ·rw[if_neg fun hc=>h2 ⟨hc.2.1,hc.2.2.1,hc.2.2.2.1⟩]at he
      have hb:(((rdL r.fTracks i).fFrom !=p||decide ((j.fLegs[k]).fHour<a)) || !decide (0≤(j.fLegs[k]).fHour∧(j.fLegs[k]).fHour≤16384))=true:=by
       simp only[Bool.or_eq_true,Bool.not_eq_true',decide_eq_true_eq,decide_eq_false_iff_not,bne_iff_ne]
       by_cases h3:(rdL r.fTracks i).fFrom=p
       ·by_cases h4:a≤(j.fLegs[k]).fHour
        ·exact .inr fun h5=>h2 ⟨h3,h4,h5⟩
        ·exact .inl (.inr (by omega))
       ·exact .inl (.inl h3)
      rw[hb,if_pos E]
      exact .inr ⟨_,E,E,he⟩
    ·rw[if_neg fun hc=>h1 hc.1]at he
     rw[if_pos (by simp;omega),oB,orB,oB,Bool.true_or,Bool.true_or,if_pos E]
     exact .inr ⟨_,E,E,he⟩
   ·have hke:k=j.fLegs.length:=by omega
    subst hke
    rw[List.drop_length]at he
    refine .inr ⟨.inr (p,a,false,c,(j.fLegs.length:Int)),?_,he⟩
    unfold eC;dsimp only
    rw[ei (by omega)]) (f,h,false,0,0) ⟨0,f,h,0,E,Nat.zero_le _,hh.1,by omega,Int.le_refl _,by omega,E⟩
 obtain⟨out,hr,hp⟩:=hinv
 unfold f6
 rw[hr,oB]
 rcases out with u|u
 ·rw[hp.2];exact congrArg some hp.1
 ·dsimp only at hp ⊢
  rw[hp,mK,oB,andB,oB]
set_option linter.unusedSimpArgs false
open Classical
theorem ox:∀(l:List TSpan) (n:Int),dL l n=n↔∀s∈l,¬(s.fLo≤n∧n≤s.fHi)
 | [],n=>⟨fun _ s hs=>(by cases hs),fun _=>rfl⟩
 | s::l,n=>by
  show dL l (g9 n s)=n↔_
  by_cases hc:s.fLo≤n∧n≤s.fHi
  ·have e:g9 n s=s.fHi+1:=if_pos hc
   have h1:=iP l (s.fHi+1)
   rw[e]
   exact⟨fun h=>by omega,fun h=>absurd hc (h s List.mem_cons_self)⟩
  ·have e:g9 n s=n:=if_neg hc
   rw[e,ox l n]
   refine⟨fun h x hx=>?_,fun h x hx=>h x (List.mem_cons_of_mem _ hx)⟩
   rcases List.mem_cons.1 hx with rfl|hx
   ·exact hc
   ·exact h x hx
theorem ropen_eq {t:TT} (hl:t.fK.length≤1000000) (h:Int):jC t h=some (decide (dL t.fK h=h)):=by
 have hinv:=bq (body:=ir t h)
  (fun s=>∃k:Nat,s=(false,(k:Int))∧k≤t.fK.length∧∀i,(hi:i<t.fK.length)→i<k→¬((t.fK[i]).fLo≤h∧h≤(t.fK[i]).fHi))
  (fun _ out=>match out with
   | .inl u=>u.1=false∧¬dL t.fK h=h
   | .inr _=>dL t.fK h=h)
  (fun s=>t.fK.length-s.2.toNat) (by
   rintro _ ⟨k,rfl,hk,hall⟩
   unfold ir;dsimp only
   rcases Nat.lt_or_ge k t.fK.length with hlt|hge
   ·rw[ff (by omega),gPo (by omega),gPo (by omega),bh hlt,gB,oB,bj (by omega)]
    by_cases hc:(t.fK[k]).fLo≤h∧h≤(t.fK[k]).fHi
    ·rw[if_pos (decide_eq_true hc)]
     exact .inr ⟨_,E,E,fun e=>(ox _ _).1 e _ (List.getElem_mem hlt) hc⟩
    ·rw[if_neg (by rw[decide_eq_true_eq];exact hc)]
     refine .inl ⟨_,E,⟨k+1,E,hlt,fun i hi h1=>?_⟩,by dsimp only;omega,fun t h=>h⟩
     by_cases e:i=k
     ·subst e;exact hc
     ·exact hall i hi (by omega)
   ·rw[ei (by omega)]
    refine .inr ⟨_,E,(ox _ _).2 fun s hs=>?_⟩
    obtain⟨i,hi,rfl⟩:=List.mem_iff_getElem.1 hs
    exact hall i hi (by omega)) (false,0) ⟨0,E,Nat.zero_le _,fun i hi h=>by omega⟩
 obtain⟨out,hr,hp⟩:=hinv
 unfold jC
 rw[hr,oB]
 rcases out with u|u
 ·dsimp only at hp ⊢
  rw[hp.1,decide_eq_false hp.2]
 ·dsimp only at hp ⊢
  rw[decide_eq_true hp]
theorem tn {r:TR} (hR:GoodR r) {f to h:Int} (hh:0≤h∧h≤16384) {j:TJ} (hj:j.fLegs.length≤1000000):fa r f to h j=some (match po r j.fLegs f h 0 with|none=>false|some x=>(((x.1==to&&x.2.1==j.fA)&&decide (x.2.1≤16384))&&x.2.2==j.fToll)&&decide (x.2.2≤60)):=by
 have hrl:=hR.len
 have hinv:=bq (body:=fF r j)
  (fun s=>∃(k:Nat) (p a c:Int),s=(false,p,a,min 100000 c,(k:Int))∧k≤j.fLegs.length∧0≤a∧a≤16456∧0≤c∧po r j.fLegs f h 0=po r (j.fLegs.drop k) p a c)
  (fun _ out=>match out with
   | .inl u=>u.1=false∧po r j.fLegs f h 0=none
   | .inr u=>∃c,u.2.2.2.1=min 100000 c∧po r j.fLegs f h 0=some (u.2.1,u.2.2.1,c))
  (fun s=>j.fLegs.length-s.2.2.2.2.toNat) (by
   rintro _ ⟨k,p,a,c,rfl,hk,ha0,ha1,hc0,he⟩
   unfold fF;dsimp only
   rcases Nat.lt_or_ge k j.fLegs.length with hlt|hge
   ·rw[List.drop_eq_getElem_cons hlt,nY]at he
    rw[ff (by omega),gPo (by omega),bh hlt,rtrack_eq (by omega),oB,bj (by omega)]
    have htl:=sM r (j.fLegs[k]).fTrack
    by_cases h1:0≤eu r (j.fLegs[k]).fTrack
    ·have hm:=qq (q:=fun n:TT=>n.fID==(j.fLegs[k]).fTrack) h1
     have hT:=hR.trk _ hm
     generalize hi:eu r (j.fLegs[k]).fTrack=i at he htl h1 ⊢
     have hT2:GoodT r.fPlaces (rdL r.fTracks i):=by rw[←hi];exact hT
     have hlg:=hT2.long
     have htoll:=hT2.toll
     rw[if_neg (by simp;omega),gPo (by omega),gPo (by omega),ma,oB,gF,ropen_eq (by have:=hT2.few;omega),oB]
     by_cases h2:(rdL r.fTracks i).fFrom=p∧a≤(j.fLegs[k]).fHour∧(0≤(j.fLegs[k]).fHour∧(j.fLegs[k]).fHour≤16384)∧dL (rdL r.fTracks i).fK (j.fLegs[k]).fHour=(j.fLegs[k]).fHour
     ·rw[if_pos ⟨h1,h2⟩]at he
      rw[if_neg (by simp only[Bool.or_eq_true,Bool.not_eq_true',decide_eq_true_eq,decide_eq_false_iff_not,bne_iff_ne];omega),ci (x:=(j.fLegs[k]).fHour+_) (by omega) (by omega),ci (by omega) (by omega)]
      exact .inl ⟨_,E,⟨k+1,_,_,c+(rdL r.fTracks i).fToll,by rw[show min 100000 (min 100000 c+(rdL r.fTracks i).fToll)=min 100000 (c+(rdL r.fTracks i).fToll) by omega],hlt,by omega,by omega,by omega,he⟩,by dsimp only;omega,fun t h=>h⟩
     ·rw[if_neg fun hc=>h2 hc.2]at he
      rw[if_pos (by simp only[Bool.or_eq_true,Bool.not_eq_true',decide_eq_true_eq,decide_eq_false_iff_not,bne_iff_ne];omega)]
      exact .inr ⟨_,E,E,he⟩
    ·rw[if_neg fun hc=>h1 hc.1]at he
     rw[if_pos (by rw[decide_eq_true_eq];omega)]
     exact .inr ⟨_,E,E,he⟩
   ·have hke:k=j.fLegs.length:=by omega
    subst hke
    rw[List.drop_length]at he
    rw[ei (by omega)]
    exact .inr ⟨_,E,c,E,he⟩) (false,f,h,0,0) ⟨0,f,h,0,E,Nat.zero_le _,hh.1,by omega,Int.le_refl _,E⟩
 obtain⟨out,hr,hp⟩:=hinv
 unfold fa
 rw[hr,oB]
 rcases out with u|u
 ·dsimp only at hp ⊢
  rw[hp.1,hp.2]
 ·dsimp only at hp ⊢
  obtain⟨c,e1,e2⟩:=hp
  rw[e2,e1]
  dsimp only
  refine congrArg some ?_
  by_cases h60:c≤60
  ·rw[show min 100000 c=c by omega]
  ·rw[decide_eq_false h60,decide_eq_false (show ¬min 100000 c≤60 by omega),Bool.and_false,Bool.and_false]
set_option linter.unusedSimpArgs false
structure Least (r:TR) (f h p c v:Int):Prop where
 lo : -1≤v
 hi:v≤16384
 some:0≤v→∃c',c'≤c∧Tr r f h p c' v
 all:∀c' a,Tr r f h p c' a→c'≤c→a≤16384→0≤v∧v≤a
theorem Least.unique {r:TR} {f h p c v v':Int} (a:Least r f h p c v) (b:Least r f h p c v'):v=v':=by
 have h1:=a.lo;have h2:=b.lo
 by_cases hv:0≤v
 ·obtain⟨c1,e1,t1⟩:=a.some hv
  obtain⟨g1,g2⟩:=b.all c1 v t1 e1 a.hi
  obtain⟨c2,e2,t2⟩:=b.some g1
  have:=a.all c2 v' t2 e2 b.hi
  omega
 ·by_cases hv':0≤v'
  ·obtain⟨c2,e2,t2⟩:=b.some hv'
   have:=a.all c2 v' t2 e2 b.hi
   omega
  ·omega
def eb (m:List (Ts × Tl)) (p:Int):Nat→Int
 | 0 => -1
 | c+1=>match lab m ⟨p,(c:Int)⟩with
  | some l=>if eb m p c<0∨l.f_at<eb m p c then l.f_at else eb m p c
  | none=>eb m p c
theorem rH (m:List (Ts × Tl)) (p:Int) (c:Nat):eb m p (c+1)=match lab m ⟨p,(c:Int)⟩with|some l=>if eb m p c<0∨l.f_at<eb m p c then l.f_at else eb m p c|none=>eb m p c:=rfl
theorem eb_ok {m:List (Ts × Tl)} {p:Int} (h0:∀s l,lab m s=some l→0≤l.f_at):∀c:Nat,-1≤eb m p c∧(0≤eb m p c→∃c' l,c'<c∧lab m ⟨p,((c':Nat):Int)⟩=some l∧l.f_at=eb m p c)∧∀c' l,c'<c→lab m ⟨p,((c':Nat):Int)⟩=some l→0≤eb m p c∧eb m p c≤l.f_at
 | 0=>⟨Int.le_refl _,fun h=>by unfold eb at h;omega,fun c' l h=>by omega⟩
 | c+1=>by
  obtain⟨h1,h2,h3⟩:=eb_ok (p:=p) h0 c
  rw[rH]
  have old:∀c' l,c'<c+1→lab m ⟨p,((c':Nat):Int)⟩=some l→c'<c∨c'=c:=fun c' l h _=>by omega
  cases e:lab m ⟨p,(c:Int)⟩with
  | none =>
   refine⟨h1,fun h=>?_,fun c' l hc hl=>?_⟩
   ·obtain⟨c',l,a,b,d⟩:=h2 h
    exact⟨c',l,by omega,b,d⟩
   ·rcases old c' l hc hl with h|h
    ·exact h3 c' l h hl
    ·rw[h,e]at hl;cases hl
  | some l0 =>
   have hl0:=h0 _ _ e
   dsimp only
   by_cases hc:eb m p c<0∨l0.f_at<eb m p c
   ·rw[if_pos hc]
    refine⟨by omega,fun _=>⟨c,l0,by omega,e,E⟩,fun c' l hc' hl=>?_⟩
    rcases old c' l hc' hl with h|h
    ·have:=h3 c' l h hl;omega
    ·rw[h,e]at hl;cases hl;omega
   ·rw[if_neg hc]
    refine⟨h1,fun h=>?_,fun c' l hc' hl=>?_⟩
    ·obtain⟨c',l,a,b,d⟩:=h2 h
     exact⟨c',l,by omega,b,d⟩
    ·rcases old c' l hc' hl with h|h
     ·exact h3 c' l h hl
     ·rw[h,e]at hl;cases hl;omega
theorem eb_new {m:List (Ts × Tl)} {p:Int} {c:Nat} (hne:eb m p (c+1)≠eb m p c):∃l,lab m ⟨p,(c:Int)⟩=some l∧l.f_at=eb m p (c+1)∧(eb m p c<0∨l.f_at<eb m p c):=by
 rw[rH]at hne ⊢
 cases e:lab m ⟨p,(c:Int)⟩with
 | none=>rw[e]at hne;exact absurd E hne
 | some l =>
  rw[e]at hne
  dsimp only at hne ⊢
  by_cases hc:eb m p c<0∨l.f_at<eb m p c
  ·rw[if_pos hc];exact⟨l,E,E,hc⟩
  ·rw[if_neg hc]at hne;exact absurd E hne
theorem eb_anti {m:List (Ts × Tl)} {p:Int} (h0:∀s l,lab m s=some l→0≤l.f_at) {c:Nat}:∀d,eb m p c<0∨(0≤eb m p (c+d)∧eb m p (c+d)≤eb m p c)
 | 0=>by by_cases h:eb m p c<0;exact .inl h;exact .inr ⟨by rw[Nat.add_zero];omega,Int.le_refl _⟩
 | d+1=>by
  rcases eb_anti h0 (c:=c) d with h|h
  ·exact .inl h
  ·refine .inr ?_
   by_cases hne:eb m p (c+d+1)=eb m p (c+d)
   ·rw[←Nat.add_assoc,hne];exact h
   ·obtain⟨l,h1,h2,h3⟩:=eb_new hne
    have:=h0 _ _ h1
    rw[←Nat.add_assoc]
    omega
theorem LInv.at0 {r:TR} {f h:Int} {q:List Twait} {D:Ts→List TT} {m:List (Ts × Tl)} (hI:LInv r f h D q m) (hh:0≤h):∀s l,lab m s=some l→0≤l.f_at:=fun s l e=>Int.le_trans hh (hI.lok s l e).at0
theorem sJ {r:TR} (hR:GoodR r) {f h:Int} (hh:0≤h) {m:List (Ts × Tl)} (hI:LInv r f h (lP r) [] m) (p:Int) {c:Nat} (hc:c≤60):Least r f h p (c:Int) (eb m p (c+1)):=by
 obtain⟨h1,h2,h3⟩:=eb_ok (p:=p) (hI.at0 hh) (c+1)
 refine⟨h1,?_,fun hv=>?_,fun c' a ht hc' ha=>?_⟩
 ·by_cases hv:0≤eb m p (c+1)
  ·obtain⟨c',l,a,b,d⟩:=h2 hv
   have:=(hI.lok _ _ b).at1
   omega
  ·omega
 ·obtain⟨c',l,a,b,d⟩:=h2 hv
  have ht:=hI.attain hR (l.f_at-h).toNat _ l (by have:=(hI.lok _ _ b).at0;omega) b
  exact⟨(c':Int),by omega,by rw[←d];exact ht⟩
 ·obtain⟨l,e1,e2⟩:=hI.reach hR hh ht (by omega) ha
  have hl:=ht.low hR
  obtain⟨k,ek⟩:∃k:Nat,c'=(k:Int):=⟨c'.toNat,by omega⟩
  rw[ek]at e1
  have:=h3 k l (by omega) e1
  omega
def qH (m:List (Ts × Tl)) (p:Int):List Int:=(List.range 61).map fun c=>eb m p (c+1)
theorem lB (m:List (Ts × Tl)) (p:Int) {c:Nat} (hc:c<61):rdL (qH m p) (c:Int)=eb m p (c+1):=by
 have hl:(qH m p).length=61:=by simp[qH]
 rw[bh (by omega)]
 unfold qH
 rw[List.getElem_map,List.getElem_range]
theorem rJ {r:TR} (hR:GoodR r) {f h:Int} (hh:0≤h) {q:List Twait} {D:Ts→List TT} {m:List (Ts × Tl)} (hI:LInv r f h D q m) {p:Int} (hp:0≤p∧p<r.fPlaces):eP m p=some (qH m p):=by
 have hpr:=hR.places
 have hset:∀k,k<61→((List.range k).map (fun c=>eb m p (c+1))++List.replicate (61-k) 0).set k (eb m p (k+1))=(List.range (k+1)).map (fun c=>eb m p (c+1))++List.replicate (61-(k+1)) 0:=fun k hk=>by
  rw[List.set_append_right _ _ (by simp),List.length_map,List.length_range,Nat.sub_self,show 61-k=(61-(k+1))+1 by omega,List.replicate_succ,List.set_cons_zero,List.range_succ,List.map_append,List.append_assoc]
  rfl
 have hrun:=jH (body:=cX m p) (fun k=>(eb m p k,(k:Int),(List.range k).map (fun c=>eb m p (c+1))++List.replicate (61-k) 0)) 61 (t:=(eb m p 61,(61:Int),qH m p)) (fun k hk=>by
  have hokk:a5 ⟨p,(k:Int)⟩=true:=by
   unfold a5 eg
   simp only[Bool.and_eq_true,decide_eq_true_eq]
   exact⟨⟨by omega,by omega⟩,by omega,by omega⟩
  unfold cX;dsimp only
  rw[ff (by omega),gPo hokk,gPo (by omega),gPo (by omega),bj (by omega),Int.toNat_natCast,show(Tl.mk 0 (Ts.mk 0 0) (TLeg.mk 0 0) false)=lb0 from E,←hset k hk,rH]
  cases e:lab m ⟨p,(k:Int)⟩with
  | none =>
   rw[sO e,if_neg (by simp)]
  | some l =>
   obtain⟨e1,e2⟩:=pT e
   rw[e1,e2,Bool.true_and]
   dsimp only
   by_cases hc:eb m p k<0∨l.f_at<eb m p k
   ·rw[if_pos (by simpa using hc),if_pos hc]
   ·rw[if_neg (by simpa using hc),if_neg hc]) (by
  unfold cX;dsimp only
  rw[ei (by omega)]
  simp[qH])
 have h0:aK (cX m p) (-1,0,List.replicate 61 0)=_:=hrun
 unfold eP
 rw[h0]
 rfl
structure FrontOf (r:TR) (f to h:Int) (m:List (Ts × Tl)) (k:Nat) (js:List TJ):Prop where
 each:∀j∈js,∃c:Nat,c<k∧j.fToll=(c:Int)∧j.fA=eb m to (c+1)∧eb m to (c+1)≠eb m to c∧po r j.fLegs f h 0=some (to,j.fA,j.fToll)∧j.fLegs.length≤16384
 every:∀c,c<k→eb m to (c+1)≠eb m to c→∃j∈js,j.fToll=(c:Int)
 sorted:js.Pairwise fun a b=>a.fToll<b.fToll
 len:js.length≤k
structure BestJ (r:TR) (f to h purse:Int) (j:TJ):Prop where
 pos:0≤j.fA
 least:Least r f h to purse j.fA
 toll:0≤j.fToll∧j.fToll≤purse
 legs:po r j.fLegs f h 0=some (to,j.fA,j.fToll)
 len:j.fLegs.length≤16384
 least2:Least r f h to j.fToll j.fA
 first:∀c v,0≤c→c<j.fToll→Least r f h to c v→v≠j.fA
set_option linter.unusedSimpArgs false
theorem few_eq {r:TR} (hl:r.fTracks.length≤9223372036854775807):∃b,gn r=some b∧(b=true→∀t∈r.fTracks,t.fK.length≤12):=by
 have hinv:=bq (body:=fx r)
  (fun s=>∃k:Nat,s=(false,(k:Int))∧k≤r.fTracks.length∧∀i,(hi:i<r.fTracks.length)→i<k→(r.fTracks[i]).fK.length≤12)
  (fun _ out=>match out with
   | .inl u=>u.1=false
   | .inr _=>∀i,(hi:i<r.fTracks.length)→(r.fTracks[i]).fK.length≤12)
  (fun s=>r.fTracks.length-s.2.toNat) (by
   rintro _ ⟨k,rfl,hk,hall⟩
   unfold fx;dsimp only
   rcases Nat.lt_or_ge k r.fTracks.length with hlt|hge
   ·rw[ff (by omega),gPo (by omega),bh hlt,bj (by omega)]
    by_cases hc:12<(((r.fTracks[k]).fK.length:Nat):Int)
    ·rw[if_pos (decide_eq_true hc)]
     exact .inr ⟨_,E,E⟩
    ·rw[if_neg (by simpa using hc)]
     refine .inl ⟨_,E,⟨k+1,E,hlt,fun i hi h=>?_⟩,by dsimp only;omega,fun t h=>h⟩
     rcases Nat.lt_or_ge i k with h' | h'
     ·exact hall i hi h'
     ·have:i=k:=by omega
      subst this;omega
   ·rw[ei (by omega)]
    exact .inr ⟨_,E,fun i hi=>hall i hi (by omega)⟩) (false,0) ⟨0,E,Nat.zero_le _,fun i hi h=>by omega⟩
 obtain⟨out,hr,hp⟩:=hinv
 unfold gn
 rw[hr,oB]
 rcases out with u|u
 ·exact⟨_,E,fun h=>by dsimp only at hp h;rw[hp]at h;cases h⟩
 ·exact⟨_,E,fun _ t ht=>by obtain⟨i,hi,rfl⟩:=List.mem_iff_getElem.1 ht;exact hp i hi⟩
set_option linter.unusedSimpArgs false
open Classical
theorem rG {l:List (List Int)} {f:List Int→Option Bool} {q:List Int→Bool} (hl:l.length<1000000000) (h:∀x∈l,f x=some (q x)):bp l f=some (nr l q):=by
 unfold bp
 have:=iZ (body:=aZ l f) (fun k=>((0:Int),(k:Int))) l.length (fun k=>if q (l.getD k default)=true then some (Sum.inl ((k:Int),(k:Int)))else none) (t0:=.inr (0,(l.length:Int))) (fun k hk=>by
  have c1:decide ((k:Int)<((l.length:Nat):Int))=true:=decide_eq_true (by omega)
  have c2:(0:Int)≤(k:Int)∧(k:Int)<((l.length:Nat):Int):=by omega
  unfold aZ;dsimp only
  simp only[c1,if_true,gPo c2,bh hk,h _ (List.getElem_mem hk),oB,eD hk,bj (show k<9223372036854775807 by omega)]
  cases q l[k] <;> rfl) (by
  unfold aZ;dsimp only
  rw[ei (by omega)])
 have h0:aK (aZ l f) (0,0)=_:=this
 rw[h0,oB]
 exact nw l q
structure Falling (l:List Int):Prop where
 len:l.length=61
 rng:∀c:Nat,c<l.length → -1≤rdL l (c:Int)∧rdL l (c:Int)≤16384
 fall:∀c:Nat,c+1<l.length→0≤rdL l (c:Int)→0≤rdL l ((c+1:Nat):Int)∧rdL l ((c+1:Nat):Int)≤rdL l (c:Int)
theorem tg {l:List Int} (hl:l.length≤1000000):g6 l=some (decide (Falling l)):=by
 have hinv:=bq (body:=gv l)
  (fun s=>∃(k:Nat) (last:Int),s=(false,last,(k:Int))∧k≤l.length∧(k=0→last = -1)∧(∀c:Nat,c+1=k→last=rdL l (c:Int))∧(∀c:Nat,c<k → -1≤rdL l (c:Int)∧rdL l (c:Int)≤16384)∧∀c:Nat,c+1<k→0≤rdL l (c:Int)→0≤rdL l ((c+1:Nat):Int)∧rdL l ((c+1:Nat):Int)≤rdL l (c:Int))
  (fun _ out=>match out with
   | .inl u=>u.1=false∧¬Falling l
   | .inr _=>(∀c:Nat,c<l.length → -1≤rdL l (c:Int)∧rdL l (c:Int)≤16384)∧∀c:Nat,c+1<l.length→0≤rdL l (c:Int)→0≤rdL l ((c+1:Nat):Int)∧rdL l ((c+1:Nat):Int)≤rdL l (c:Int))
  (fun s=>l.length-s.2.2.toNat) (by
   rintro _ ⟨k,last,rfl,hk,h0,h1,h2,h3⟩
   unfold gv;dsimp only
   rcases Nat.lt_or_ge k l.length with hlt|hge
   ·rw[ff (by omega),gPo (by omega),iX,oB,bj (by omega)]
    by_cases hb:((!decide (-1≤rdL l (k:Int)∧rdL l (k:Int)≤16384))||(decide (0≤last)&&(decide (rdL l (k:Int)<0)||decide (last<rdL l (k:Int)))))=true
    ·rw[if_pos hb]
     refine .inr ⟨_,E,E,fun hF=>?_⟩
     rw[Bool.or_eq_true,Bool.and_eq_true,Bool.or_eq_true,Bool.not_eq_true',decide_eq_false_iff_not,decide_eq_true_eq,decide_eq_true_eq,decide_eq_true_eq]at hb
     rcases hb with hb|⟨ha,hb⟩
     ·exact hb (hF.rng k hlt)
     ·cases k with
      | zero=>have:=h0 E;omega
      | succ c =>
       have e:=h1 c E
       have:=hF.fall c hlt (by rw[←e];exact ha)
       omega
    ·rw[if_neg hb]
     rw[Bool.or_eq_true,Bool.and_eq_true,Bool.or_eq_true,Bool.not_eq_true',decide_eq_false_iff_not,decide_eq_true_eq,decide_eq_true_eq,decide_eq_true_eq]at hb
     refine .inl ⟨_,E,⟨k+1,_,E,hlt,fun h=>by omega,fun c hc=>by rw[show c=k by omega],fun c hc=>?_,fun c hc hp=>?_⟩,by dsimp only;omega,fun t h=>h⟩
     ·by_cases e:c=k
      ·rw[e]
       by_cases h4 : -1≤rdL l (k:Int)∧rdL l (k:Int)≤16384
       ·exact h4
       ·exact absurd (.inl h4) hb
      ·exact h2 c (by omega)
     ·by_cases e:c+1=k
      ·have e1:=h1 c e
       rw[e]
       rw[←e1]at hp ⊢
       by_cases h5:rdL l (k:Int)<0
       ·exact absurd (.inr ⟨hp,.inl h5⟩) hb
       ·by_cases h6:last<rdL l (k:Int)
        ·exact absurd (.inr ⟨hp,.inr h6⟩) hb
        ·exact⟨by omega,by omega⟩
      ·exact h3 c (by omega) hp
   ·have hke:k=l.length:=by omega
    subst hke
    rw[ei (by omega)]
    exact .inr ⟨_,E,h2,h3⟩) (false,-1,0) ⟨0,-1,E,Nat.zero_le _,fun _=>E,fun c hc=>by omega,fun c hc=>by omega,fun c hc=>by omega⟩
 obtain⟨out,hr,hp⟩:=hinv
 unfold g6
 rw[hr,oB]
 rcases out with u|u
 ·dsimp only at hp ⊢
  rw[hp.1,decide_eq_false hp.2]
 ·dsimp only at hp ⊢
  refine congrArg some ?_
  rw[Bool.eq_iff_iff,beq_iff_eq,decide_eq_true_eq]
  exact⟨fun h=>⟨by omega,hp.1,hp.2⟩,fun h=>by have:=h.len;omega⟩
def tAt (t:TTimes) (p:Int) (c:Int):Int:=rdL (rdL t.fH p) c
def okC (t:TTimes) (x:TT) (c:Nat):Prop:=0≤tAt t x.fFrom (c:Int)→(c:Int)+x.fToll≤60→0≤arr x (tAt t x.fFrom (c:Int))→0≤tAt t x.fTo ((c:Int)+x.fToll)∧tAt t x.fTo ((c:Int)+x.fToll)≤arr x (tAt t x.fFrom (c:Int))
structure Bounded (r:TR) (f h:Int) (t:TTimes):Prop where
 len:(t.fH.length:Int)=r.fPlaces
 fall:∀l∈t.fH,Falling l
 start:∀n∈rdL t.fH f,0≤n∧n≤h
 step:∀x∈r.fTracks,∀c:Nat,c<61→okC t x c
theorem row_in {t:TTimes} {p:Int} (h:0≤p∧p<(t.fH.length:Int)):rdL t.fH p∈t.fH:=by
 obtain⟨k,e⟩:∃k:Nat,p=(k:Int):=⟨p.toNat,by omega⟩
 subst e
 rw[bh (by omega)]
 exact List.getElem_mem _
theorem pH {r:TR} (hR:GoodR r) {f h:Int} (hf:0≤f∧f<r.fPlaces) {t:TTimes} (ht:t.fH.length≤1000) (hrow:∀l∈t.fH,l.length≤1000):g3 r f h t=some (decide (Bounded r f h t)):=by
 have hpr:=hR.places
 have hrl:=hR.len
 unfold g3
 by_cases hlen:(t.fH.length:Int)=r.fPlaces
 ·rw[if_neg (by simpa using hlen)]
  unfold fb
  rw[rG (f:=fun x45=>dW x45) (q:=fun l => !decide (Falling l)) (by omega) (fun x hx=>by unfold dW;rw[tg (by have:=hrow x hx;omega)];rfl),oB,oB,oB]
  by_cases hfall:∀l∈t.fH,Falling l
  ·have hidx:¬0≤nr t.fH fun l => !decide (Falling l):=by
    rw[jO]
    rintro⟨l,hl,e⟩
    rw[decide_eq_true (hfall l hl)]at e
    cases e
   rw[if_neg (by simpa using hidx),gPo (by omega)]
   have hrf:=row_in (t:=t) (p:=f) (by omega)
   have hlf:=(hfall _ hrf).len
   unfold gM
   rw[ro (f:=fun x9=>fq x9 h) (q:=fun n=>decide (n<0)||decide (h<n)) (by omega) (fun x _=>E),oB,oB]
   by_cases hst:∀n∈rdL t.fH f,0≤n∧n≤h
   ·have hidx2:¬0≤nr (rdL t.fH f) fun n=>decide (n<0)||decide (h<n):=by
     rw[jO]
     rintro⟨n,hn,e⟩
     have:=hst n hn
     rw[Bool.or_eq_true,decide_eq_true_eq,decide_eq_true_eq]at e
     omega
    rw[if_neg (by simpa using hidx2)]
    -- the tracks
    have inner:∀(k:Nat) (b:Bool),(hk:k<r.fTracks.length)→∃out,aK (eI r t (b,(k:Int))) (b,0)=some out∧(match out with
      | .inl u=>u.1=false∧¬∀c:Nat,c<61→okC t r.fTracks[k] c
      | .inr u=>u.1=b∧∀c:Nat,c<61→okC t r.fTracks[k] c):=fun k b hk=>by
     have hT:=hR.trk _ (List.getElem_mem hk)
     have hfr:=hT.fr
     have hto:=hT.to
     have htl:=hT.toll
     have hlg:=hT.long
     have g1:=hfall _ (row_in (t:=t) (p:=(r.fTracks[k]).fFrom) (by omega))
     have g2:=hfall _ (row_in (t:=t) (p:=(r.fTracks[k]).fTo) (by omega))
     have l1:=g1.len
     have l2:=g2.len
     have hinv:=bq (body:=eI r t (b,(k:Int)))
      (fun s=>∃c:Nat,s=(b,(c:Int))∧c≤61∧∀j:Nat,j<c→okC t r.fTracks[k] j)
      (fun _ out=>match out with
       | .inl u=>u.1=false∧¬∀c:Nat,c<61→okC t r.fTracks[k] c
       | .inr u=>u.1=b∧∀c:Nat,c<61→okC t r.fTracks[k] c)
      (fun s=>61-s.2.toNat) (by
       rintro _ ⟨c,rfl,hc,hall⟩
       unfold eI;dsimp only
       rw[bh hk]
       rcases Nat.lt_or_ge c 61 with hlt|hge
       ·have hrg:=g1.rng c (by omega)
        have go:okC t r.fTracks[k] c→∃c':Nat,((b,((c+1:Nat):Int)):Bool × Int)=(b,(c':Int))∧c'≤61∧∀j:Nat,j<c'→okC t r.fTracks[k] j:=fun ho=>⟨c+1,E,hlt,fun j hj=>by
         by_cases e:j=c
         ·rw[e];exact ho
         ·exact hall j (by omega)⟩
        have hmes:61-((b,((c+1:Nat):Int)):Bool × Int).2.toNat<61-(c:Int).toNat:=by dsimp only;omega
        rw[ff (by omega),gPo (by omega),ci (x:=(c:Int)+(r.fTracks[k]).fToll) (by omega) (by omega),bj (by omega)]
        by_cases h1:rdL (rdL t.fH (r.fTracks[k]).fFrom) (c:Int)<0∨60<(c:Int)+(r.fTracks[k]).fToll
        ·rw[if_pos (by rw[Bool.or_eq_true,decide_eq_true_eq,decide_eq_true_eq];exact h1)]
         exact .inl ⟨_,E,go (fun a1 a2 _=>by unfold tAt at a1;omega),hmes,fun t h=>h⟩
        ·rw[if_neg (by rw[Bool.or_eq_true,decide_eq_true_eq,decide_eq_true_eq];exact h1),gF,pU hT.spans (by have:=hT.few;omega),oB]
         dsimp only
         have h2:=iP (r.fTracks[k]).fK (rdL (rdL t.fH (r.fTracks[k]).fFrom) (c:Int))
         have h3:=qB hT.spans hrg.2
         rw[ci (by omega) (by omega),mK,oB,orB,oB]
         by_cases h4:dL (r.fTracks[k]).fK (rdL (rdL t.fH (r.fTracks[k]).fFrom) (c:Int))+(r.fTracks[k]).fLong≤16384
         ·have ea:arr r.fTracks[k] (rdL (rdL t.fH (r.fTracks[k]).fFrom) (c:Int))=dL (r.fTracks[k]).fK (rdL (rdL t.fH (r.fTracks[k]).fFrom) (c:Int))+(r.fTracks[k]).fLong:=if_pos h4
          rw[if_neg (by unfold mM;simp;omega),gPo (by omega),gPo (by omega),←ea]
          by_cases h5:rdL (rdL t.fH (r.fTracks[k]).fTo) ((c:Int)+(r.fTracks[k]).fToll)<0∨arr r.fTracks[k] (rdL (rdL t.fH (r.fTracks[k]).fFrom) (c:Int))<rdL (rdL t.fH (r.fTracks[k]).fTo) ((c:Int)+(r.fTracks[k]).fToll)
          ·rw[if_pos (by rw[Bool.or_eq_true,decide_eq_true_eq,decide_eq_true_eq];exact h5)]
           refine .inr ⟨_,E,E,fun hh=>?_⟩
           have:=hh c hlt (by unfold tAt;omega) (by omega) (by unfold tAt;omega)
           unfold tAt at this
           omega
          ·rw[if_neg (by rw[Bool.or_eq_true,decide_eq_true_eq,decide_eq_true_eq];exact h5)]
           exact .inl ⟨_,E,go (fun _ _ _=>by unfold tAt;omega),hmes,fun t h=>h⟩
         ·rw[if_pos (by unfold mM;simp;omega)]
          refine .inl ⟨_,E,go (fun _ _ a3=>?_),hmes,fun t h=>h⟩
          have:=(og a3).1
          unfold tAt at this
          omega
       ·rw[ei (by omega)]
        exact .inr ⟨_,E,E,fun j hj=>hall j (by omega)⟩) (b,0) ⟨0,E,by omega,fun j hj=>by omega⟩
     exact hinv
    have hinv:=bq (body:=gi r t)
     (fun s=>∃k:Nat,s=(false,(k:Int))∧k≤r.fTracks.length∧∀i,(hi:i<r.fTracks.length)→i<k→∀c:Nat,c<61→okC t r.fTracks[i] c)
     (fun _ out=>match out with
      | .inl u=>u.1=false∧¬Bounded r f h t
      | .inr _=>Bounded r f h t)
     (fun s=>r.fTracks.length-s.2.toNat) (by
      rintro _ ⟨k,rfl,hk,hall⟩
      unfold gi;dsimp only
      rcases Nat.lt_or_ge k r.fTracks.length with hlt|hge
      ·have hT:=hR.trk _ (List.getElem_mem hlt)
       have hfr:=hT.fr
       obtain⟨out,ho,hp⟩:=inner k false hlt
       rw[ff (by omega),gPo (by omega),bh hlt,gPo (by omega),ho,oB,bj (by omega)]
       rcases out with u|u
       ·exact .inr ⟨_,E,hp.1,fun hB=>hp.2 (hB.step _ (List.getElem_mem hlt))⟩
       ·refine .inl ⟨_,E,⟨k+1,by dsimp only at hp ⊢;rw[hp.1],hlt,fun i hi h=>?_⟩,by dsimp only;omega,fun t h=>h⟩
        rcases Nat.lt_or_ge i k with h' | h'
        ·exact hall i hi h'
        ·have:i=k:=by omega
         subst this;exact hp.2
      ·rw[ei (by omega)]
       refine .inr ⟨_,E,hlen,hfall,hst,fun x hx=>?_⟩
       obtain⟨i,hi,rfl⟩:=List.mem_iff_getElem.1 hx
       exact hall i hi (by omega)) (false,0) ⟨0,E,Nat.zero_le _,fun i hi h=>by omega⟩
    obtain⟨out,hr,hp⟩:=hinv
    rw[hr,oB]
    rcases out with u|u
    ·dsimp only at hp ⊢
     rw[hp.1,decide_eq_false hp.2]
    ·dsimp only at hp ⊢
     rw[decide_eq_true hp]
   ·have hidx2:0≤nr (rdL t.fH f) fun n=>decide (n<0)||decide (h<n):=by
     rw[jO]
     by_cases hex:∃n∈rdL t.fH f,¬(0≤n∧n≤h)
     ·obtain⟨n,hn,hc⟩:=hex
      exact⟨n,hn,by rw[Bool.or_eq_true,decide_eq_true_eq,decide_eq_true_eq];omega⟩
     ·exact absurd (fun n hn=>Classical.byContradiction fun hc=>hex ⟨n,hn,hc⟩) hst
    rw[if_pos (decide_eq_true hidx2),decide_eq_false fun hB:Bounded r f h t=>hst hB.start]
  ·have hidx:0≤nr t.fH fun l => !decide (Falling l):=by
    rw[jO]
    by_cases hex:∃l∈t.fH,¬Falling l
    ·obtain⟨l,hl,hc⟩:=hex
     exact⟨l,hl,by rw[decide_eq_false hc];rfl⟩
    ·exact absurd (fun l hl=>Classical.byContradiction fun hc=>hex ⟨l,hl,hc⟩) hfall
   rw[if_pos (decide_eq_true hidx),decide_eq_false fun hB:Bounded r f h t=>hfall hB.fall]
 ·rw[if_pos (by simpa using hlen),oB,if_pos E,decide_eq_false fun hB:Bounded r f h t=>hlen hB.len]
def jX (r:TR) (m:List (Ts × Tl)):TTimes:=⟨(List.range r.fPlaces.toNat).map fun p:Nat=>qH m (p:Int)⟩
theorem lX {r:TR} {m:List (Ts × Tl)} {p:Int} (hp:0≤p∧p<r.fPlaces):rdL (jX r m).fH p=qH m p:=by
 obtain⟨k,e⟩:∃k:Nat,p=(k:Int):=⟨p.toNat,by omega⟩
 subst e
 unfold jX
 dsimp only
 rw[bh (by simp;omega),List.getElem_map,List.getElem_range]
theorem rD {r:TR} (hr:∀t∈r.fTracks,t.fK.length≤1000000) {f h:Int} (hA:AskedOk r f f h 0):∃m,fM r f h=some m∧LInv r f h (lP r) [] m∧cY r f h=some (jX r m,0):=by
 obtain⟨m,hm,hI⟩:=labels_ok hA.good hA.fr hA.hour
 have hpr:=hA.good.places
 have hrun:=jH (body:=cW r m) (fun k=>((k:Int),(List.range k).map fun p:Nat=>qH m (p:Int))) r.fPlaces.toNat (t:=(r.fPlaces,(List.range r.fPlaces.toNat).map fun p:Nat=>qH m (p:Int))) (fun k hk=>by
  have hl:(qH m (k:Int)).length=61:=by simp[qH]
  unfold cW;dsimp only
  rw[ff (by omega),rJ hA.good hA.hour.1 hI (by omega),oB]
  unfold bN
  rw[gPo (by omega),oB,List.nil_append,gPo (by simp;omega),bj (by omega),List.range_succ,List.map_append]
  rfl) (by
  unfold cW;dsimp only
  rw[ei (by omega),show((r.fPlaces.toNat:Nat):Int)=r.fPlaces by omega])
 have h0:aK (cW r m) (0,[])=_:=hrun
 refine⟨m,hm,hI,?_⟩
 unfold cY
 rw[kV hr,oB,gG.2 hA,if_neg (by simp),hm,oB,h0]
 rfl
theorem o7 {r:TR} (hR:GoodR r) {f h:Int} (hf:0≤f∧f<r.fPlaces) (hh:0≤h∧h≤16384) {m:List (Ts × Tl)} (hI:LInv r f h (lP r) [] m):Bounded r f h (jX r m):=by
 have hpr:=hR.places
 have hlen:((jX r m).fH.length:Int)=r.fPlaces:=by unfold jX;simp;omega
 have hl61:∀p,(qH m p).length=61:=fun p=>by simp[qH]
 have hat:=hI.at0 hh.1
 have hL:=fun(p:Int) (c:Nat) (hc:c≤60)=>sJ hR hh.1 hI p hc
 refine⟨hlen,fun l hl=>?_,fun n hn=>?_,fun x hx c hc=>?_⟩
 ·unfold jX at hl
  obtain⟨p,_,rfl⟩:=List.mem_map.1 hl
  refine⟨hl61 _,fun c hc=>?_,fun c hc hp=>?_⟩
  ·rw[hl61]at hc
   rw[lB m _ hc]
   have:=hL (p:Int) c (by omega)
   exact⟨this.lo,this.hi⟩
  ·rw[hl61]at hc
   rw[lB m _ (show c<61 by omega)]at hp
   rw[lB m _ hc,lB m _ (show c<61 by omega)]
   rcases eb_anti hat (p:=(p:Int)) (c:=c+1) 1 with h|h
   ·omega
   ·exact h
 ·rw[lX hf]at hn
  unfold qH at hn
  obtain⟨c,_,rfl⟩:=List.mem_map.1 hn
  exact(eb_ok (p:=f) hat (c+1)).2.2 0 _ (by omega) hI.beg
 ·have hT:=hR.trk x hx
  have hfr:=hT.fr
  have hto:=hT.to
  have htl:=hT.toll
  have hlg:=hT.long
  intro h1 h2 h3
  unfold tAt at h1 h3 ⊢
  have e1:rdL (rdL (jX r m).fH x.fFrom) (c:Int)=eb m x.fFrom (c+1):=by rw[lX (by omega),lB m _ hc]
  rw[e1]at h1 h3 ⊢
  rw[lX (by omega)]
  obtain⟨k,ek⟩:∃k:Nat,(c:Int)+x.fToll=(k:Int):=⟨((c:Int)+x.fToll).toNat,by omega⟩
  rw[ek,lB m _ (by omega)]
  obtain⟨c',a1,a2⟩:=(hL x.fFrom c (by omega)).some h1
  obtain⟨g1,g2⟩:=og h3
  have hstep:=Tr.step x (dL x.fK (eb m x.fFrom (c+1))) a2 hx E (iP _ _) (lU _ hT.spans)
  have:=(hL x.fTo k (by omega)).all _ _ hstep (by omega) (by omega)
  rw[g2]
  exact this
end Go.Proofs.YthndghnkebboaaaGreat
