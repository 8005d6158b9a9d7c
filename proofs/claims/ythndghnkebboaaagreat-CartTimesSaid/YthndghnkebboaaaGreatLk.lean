import Derived.Test.YthndghnkebboaaaGreatYn
import Derived.Test.YthndghnkebboaaaGreatP
import Derived.KernelRfl
set_option linter.unusedSimpArgs false
set_option linter.unusedVariables false
namespace Go.Proofs.YthndghnkebboaaaGreat
open Classical
theorem mf (r:TR) (f t h p:Int):fU r f t h p=some (hU r f t h p):=by
 unfold fU hU inB
 rw[rCheck_eq,oB]
 by_cases hv:j7 r=0
 ·have hR:=iS.1 hv
  have hp:=hR.places
  rw[if_neg (by simp[hv]),if_neg (by simp[hv])]
  simp only[gB,ma,oB,ci (show -9223372036854775808≤r.fPlaces-1 by omega) (show r.fPlaces-1≤9223372036854775807 by omega)]
  by_cases c1:0≤f∧f≤r.fPlaces-1 <;> by_cases c2:0≤t∧t≤r.fPlaces-1 <;> by_cases c3:0≤h∧h≤16384 <;> by_cases c4:0≤p∧p≤60 <;> simp[c1,c2,c3,c4]
 ·rw[if_pos (by simpa using hv),if_pos hv]
def qI (t:TT) (h:Int):Int:=if h<0 then -1 else arr t h
theorem pq {n:Int} {t:TT} (ht:GoodT n t) {h:Int} (hh : -1≤h∧h≤16384):eV t h=some (qI t h):=by
 unfold eV qI
 by_cases h0:h<0
 ·rw[if_pos (decide_eq_true h0),if_pos h0]
 ·rw[if_neg (by simpa using h0),if_neg h0,renter_eq ht.spans (by have:=ht.few;omega),oB]
  have h1:=qB ht.spans (h:=h) (by omega)
  have h2:=iP t.fK h
  have hl:=ht.long
  unfold arr mM
  by_cases hc:dL t.fK h≤16384
  ·rw[if_pos (decide_eq_true ⟨by omega,hc⟩),ci (by omega) (by omega)]
   by_cases hc2:dL t.fK h+t.fLong≤16384
   ·rw[if_neg (by simp;omega),if_pos hc2]
   ·rw[if_pos (by simp;omega),if_neg hc2]
  ·have e:decide (0≤dL t.fK h∧dL t.fK h≤16384)=false:=decide_eq_false (by omega)
   rw[e,if_neg (show ¬dL t.fK h+t.fLong≤16384 by omega)]
   rfl
def At (o:List (List Int)) (p c:Nat):Int:=(o.getD p []).getD c 0
def Grid (n:Nat) (o:List (List Int)):Prop:=o.length=n∧∀l∈o,l.length=61
def wv (v:Int):Nat:=if v<0 then 16385 else v.toNat
def pot5 (o:List (List Int)):Nat:=(o.map fun l=>(l.map wv).sum).sum
def nX (o:List (List Int)) (p c:Nat) (v:Int):List (List Int):=o.set p ((o.getD p []).set c v)
theorem Grid.row {n:Nat} {o:List (List Int)} (hG:Grid n o) {p:Nat} (hp:p<n):(o.getD p []).length=61:=by
 have hl:p<o.length:=by rw[hG.1];exact hp
 rw[List.getD_eq_getElem?_getD,List.getElem?_eq_getElem hl]
 exact hG.2 _ (List.getElem_mem hl)
theorem Grid.put {n:Nat} {o:List (List Int)} (hG:Grid n o) {p c:Nat} (v:Int) (hp:p<n):Grid n (nX o p c v):=by
 refine⟨by unfold nX;rw[List.length_set];exact hG.1,fun l hl=>?_⟩
 rcases List.mem_or_eq_of_mem_set hl with h|rfl
 ·exact hG.2 l h
 ·rw[List.length_set];exact hG.row hp
theorem At_put {n:Nat} {o:List (List Int)} (hG:Grid n o) {p c:Nat} (v:Int) (hp:p<n) (hc:c≤60) (p' c':Nat):At (nX o p c v) p' c'=if p'=p∧c'=c then v else At o p' c':=by
 have hl:p<o.length:=by rw[hG.1];exact hp
 have hr:=hG.row hp
 unfold At nX
 by_cases h1:p'=p
 ·subst h1
  have e1:(o.set p' ((o.getD p' []).set c v)).getD p' []=(o.getD p' []).set c v:=by rw[List.getD_eq_getElem?_getD (l:=o.set p' _),List.getElem?_set_self hl,Option.getD_some]
  rw[e1]
  by_cases h2:c'=c
  ·subst h2
   rw[if_pos ⟨E,E⟩,List.getD_eq_getElem?_getD,List.getElem?_set_self (by omega),Option.getD_some]
  ·rw[if_neg (fun h=>h2 h.2),List.getD_eq_getElem?_getD,List.getElem?_set_ne (fun e=>h2 e.symm),←List.getD_eq_getElem?_getD]
 ·rw[if_neg (fun h=>h1 h.1)]
  have e1:(o.set p ((o.getD p []).set c v)).getD p' []=o.getD p' []:=by rw[List.getD_eq_getElem?_getD (l:=o.set p _),List.getElem?_set_ne (fun e=>h1 e.symm),←List.getD_eq_getElem?_getD]
  rw[e1]
theorem rT:∀(l:List Nat) (i v:Nat) (h:i<l.length),(l.set i v).sum+l[i]=l.sum+v
 | x::l,0,v,_=>by simp;omega
 | x::l,i+1,v,h=>by
  have:=rT l i v (by simpa using h)
  simp only[List.set_cons_succ,List.sum_cons,List.getElem_cons_succ]
  omega
theorem pot5_put {n:Nat} {o:List (List Int)} (hG:Grid n o) {p c:Nat} {v:Int} (hp:p<n) (hc:c≤60) (hw:wv v<wv (At o p c)):pot5 (nX o p c v)<pot5 o:=by
 have hl:p<o.length:=by rw[hG.1];exact hp
 have hr:=hG.row hp
 have e0:o.getD p []=o[p]:=by rw[List.getD_eq_getElem?_getD,List.getElem?_eq_getElem hl];rfl
 have hc2:c<(o[p]).length:=by rw[←e0];omega
 have eA:At o p c=(o[p])[c]:=by unfold At;rw[e0,List.getD_eq_getElem?_getD,List.getElem?_eq_getElem hc2];rfl
 have s1:=rT ((o[p]).map wv) c (wv v) (by rw[List.length_map];exact hc2)
 have s2:=rT (o.map fun l=>(l.map wv).sum) p ((((o[p]).set c v).map wv).sum) (by rw[List.length_map];exact hl)
 rw[List.getElem_map,←List.map_set]at s1 s2
 rw[←eA]at s1
 unfold pot5 nX
 rw[e0]
 omega
theorem At_rd (o:List (List Int)) (p c:Nat):rdL (rdL o (p:Int)) (c:Int)=At o p c:=rfl
theorem qT (o:List (List Int)) (p:Nat):rdL o (p:Int)=o.getD p []:=rfl
theorem rW {o:List (List Int)} {p c:Nat} {v:Int} (hl:p<o.length) (p':Nat):(nX o p c v).getD p' []=if p'=p then(o.getD p []).set c v else o.getD p' []:=by
 unfold nX
 by_cases h1:p'=p
 ·subst h1
  rw[if_pos E,List.getD_eq_getElem?_getD (l:=o.set p' _),List.getElem?_set_self hl,Option.getD_some]
 ·rw[if_neg h1,List.getD_eq_getElem?_getD (l:=o.set p _),List.getElem?_set_ne (fun e=>h1 e.symm),←List.getD_eq_getElem?_getD]
theorem od (l:List Int) (c c':Nat) (v:Int) (hc:c<l.length):(l.set c v).getD c' 0=if c'=c then v else l.getD c' 0:=by
 by_cases h:c'=c
 ·subst h
  rw[if_pos E,List.getD_eq_getElem?_getD,List.getElem?_set_self hc,Option.getD_some]
 ·rw[if_neg h,List.getD_eq_getElem?_getD,List.getElem?_set_ne (fun e=>h e.symm),←List.getD_eq_getElem?_getD]
theorem init2 {r:TR} {f h:Int} {n:Nat} (hn:r.fPlaces=(n:Int)) (hn2:n≤16) {p:Nat} (hp:p<n) {o0 oX:List (List Int)} (hl0:o0.length=n) (hrow:(o0.getD p []).length=61):∃o,aK (dG r f h ((p:Int),oX)) (0,o0)=some (61,o)∧o.length=n∧(o.getD p []).length=61∧(∀p',p'≠p→o.getD p' []=o0.getD p' [])∧∀c,c<61→At o p c=if(p:Int)=f then h else -1:=by
 have hinv:=bq (body:=dG r f h ((p:Int),oX))
  (fun s=>∃(c:Nat) (o:List (List Int)),s=((c:Int),o)∧c≤61∧o.length=n∧(o.getD p []).length=61∧(∀p',p'≠p→o.getD p' []=o0.getD p' [])∧∀c',c'<c→At o p c'=if(p:Int)=f then h else -1)
  (fun _ t=>∃o,t=(61,o)∧o.length=n∧(o.getD p []).length=61∧(∀p',p'≠p→o.getD p' []=o0.getD p' [])∧∀c,c<61→At o p c=if(p:Int)=f then h else -1)
  (fun s=>61-s.1.toNat) (by
   rintro _ ⟨c,o,rfl,hc,h1,h2,h3,h4⟩
   unfold dG;dsimp only
   have htn:Int.toNat r.fPlaces=n:=by rw[hn];rfl
   rw[htn]
   rcases Nat.lt_or_ge c 61 with hlt|hge
   ·have g1:(0:Int)≤(p:Int)∧(p:Int)<((n:Nat):Int):=by omega
    rw[ff (by omega),gPo g1,qT,gPo (by omega),bj (by omega),Int.toNat_natCast,Int.toNat_natCast]
    have e1:o.set p ((o.getD p []).set c (-1))=nX o p c (-1):=rfl
    rw[e1]
    have hl1:(nX o p c (-1)).length=n:=by unfold nX;rw[List.length_set];exact h1
    have hg1:=rW (c:=c) (v:=-1) (show p<o.length by omega)
    have hr1:((nX o p c (-1)).getD p []).length=61:=by rw[hg1,if_pos E,List.length_set];exact h2
    by_cases hf:(p:Int)=f
    ·rw[if_pos (by rw[beq_iff_eq];exact hf),gPo g1,qT,gPo (by omega)]
     have e2:(nX o p c (-1)).set p (((nX o p c (-1)).getD p []).set c h)=nX (nX o p c (-1)) p c h:=rfl
     rw[e2]
     have hg2:=rW (c:=c) (v:=h) (show p<(nX o p c (-1)).length by omega)
     refine .inl ⟨_,E,⟨c+1,_,E,hlt,by unfold nX;rw[List.length_set];exact hl1,by rw[hg2,if_pos E,List.length_set];exact hr1,fun p' hne=>by rw[hg2,if_neg hne,hg1,if_neg hne];exact h3 p' hne,fun c' hc'=>?_⟩,by dsimp only;omega,fun t h=>h⟩
     unfold At
     rw[hg2,if_pos E,od _ _ _ _ (by omega),hg1,if_pos E,od _ _ _ _ (by omega),if_pos hf]
     by_cases e:c'=c
     ·rw[if_pos e]
     ·rw[if_neg e,if_neg e]
      have:=h4 c' (by omega)
      rw[if_pos hf]at this
      exact this
    ·rw[if_neg (by rw[beq_iff_eq];exact hf)]
     refine .inl ⟨_,E,⟨c+1,_,E,hlt,hl1,hr1,fun p' hne=>by rw[hg1,if_neg hne];exact h3 p' hne,fun c' hc'=>?_⟩,by dsimp only;omega,fun t h=>h⟩
     unfold At
     rw[hg1,if_pos E,od _ _ _ _ (by omega),if_neg hf]
     by_cases e:c'=c
     ·rw[if_pos e]
     ·rw[if_neg e]
      have:=h4 c' (by omega)
      rw[if_neg hf]at this
      exact this
   ·have:c=61:=by omega
    subst this
    rw[ei (by omega)]
    exact .inr ⟨_,E,o,E,h1,h2,h3,h4⟩) (0,o0) ⟨0,o0,E,by omega,hl0,hrow,fun _ _=>E,fun c hc=>by omega⟩
 obtain⟨t,ht,o,rfl,hh⟩:=hinv
 exact⟨o,ht,hh⟩
def tx (f h:Int) (p c:Nat):Int:=if(p:Int)=f then h else -1
theorem init1 {r:TR} {f h:Int} {n:Nat} (hn:r.fPlaces=(n:Int)) (hn2:n≤16):∃o,aK (dx r f h) (0,List.replicate n [])=some (r.fPlaces,o)∧Grid n o∧∀p c,p<n→c<61→At o p c=tx f h p c:=by
 have htn:Int.toNat r.fPlaces=n:=by rw[hn];rfl
 have hinv:=bq (body:=dx r f h)
  (fun s=>∃(p:Nat) (o:List (List Int)),s=((p:Int),o)∧p≤n∧o.length=n∧∀p',p'<p→(o.getD p' []).length=61∧∀c,c<61→At o p' c=tx f h p' c)
  (fun _ t=>∃o,t=(r.fPlaces,o)∧o.length=n∧∀p',p'<n→(o.getD p' []).length=61∧∀c,c<61→At o p' c=tx f h p' c)
  (fun s=>n-s.1.toNat) (by
   rintro _ ⟨p,o,rfl,hp,h1,h2⟩
   unfold dx;dsimp only
   rw[htn]
   rcases Nat.lt_or_ge p n with hlt|hge
   ·have hset:(o.set p (List.replicate (Int.toNat 61) 0)).length=n:=by rw[List.length_set];exact h1
    have hrow:∀p',(o.set p (List.replicate (Int.toNat 61) (0:Int))).getD p' []=if p'=p then List.replicate 61 0 else o.getD p' []:=fun p'=>by
     by_cases e:p'=p
     ·subst e
      rw[if_pos E,List.getD_eq_getElem?_getD (l:=o.set p' _),List.getElem?_set_self (by omega),Option.getD_some]
      rfl
     ·rw[if_neg e,List.getD_eq_getElem?_getD (l:=o.set p _),List.getElem?_set_ne (fun e'=>e e'.symm),←List.getD_eq_getElem?_getD]
    rw[ff (by omega),gPo (by decide),gPo (by omega),Int.toNat_natCast,bj (by omega)]
    obtain⟨o2,e2,k1,k2,k3,k4⟩:=init2 (f:=f) (h:=h) hn hn2 hlt (oX:=o) hset (by rw[hrow,if_pos E];rfl)
    rw[e2,oB]
    refine .inl ⟨_,E,⟨p+1,_,E,hlt,k1,fun p' hp'=>?_⟩,by dsimp only;omega,fun t h=>h⟩
    by_cases e:p'=p
    ·subst e
     exact⟨k2,k4⟩
    ·have:=h2 p' (by omega)
     unfold At at this ⊢
     rw[k3 p' e,hrow,if_neg e]
     exact this
   ·have:p=n:=by omega
    subst this
    rw[ei (by omega)]
    exact .inr ⟨_,E,o,by rw[hn],h1,h2⟩) (0,List.replicate n []) ⟨0,_,E,Nat.zero_le _,List.length_replicate,fun p' hp'=>by omega⟩
 obtain⟨t,ht,o,rfl,h1,h2⟩:=hinv
 refine⟨o,ht,⟨h1,fun l hl=>?_⟩,fun p c hp hc=>(h2 p hp).2 c hc⟩
 obtain⟨i,hi,rfl⟩:=List.mem_iff_getElem.1 hl
 have:=(h2 i (by omega)).1
 rw[List.getD_eq_getElem?_getD,List.getElem?_eq_getElem hi]at this
 exact this
structure TInv (r:TR) (f h:Int) (n:Nat) (o:List (List Int)):Prop where
 grid:Grid n o
 val:∀p c,p<n→c<61 → -1≤At o p c∧At o p c≤16384
 att:∀p c:Nat,p<n→c<61→0≤At o p c→∃c',c'≤(c:Int)∧Tr r f h (p:Int) c' (At o p c)
 start:∀p c:Nat,(p:Int)=f→c<61→0≤At o p c∧At o p c≤h
theorem TInv.put {r:TR} {f h:Int} {n:Nat} {o:List (List Int)} (hT:TInv r f h n o) {p c:Nat} {v:Int} (hp:p<n) (hc:c<61) (hv:0≤v∧v≤16384) (hs:At o p c<0∨v<At o p c) (ha:∃c',c'≤(c:Int)∧Tr r f h (p:Int) c' v):TInv r f h n (nX o p c v)∧pot5 (nX o p c v)<pot5 o:=by
 have hA:=At_put hT.grid v hp (show c≤60 by omega)
 refine⟨⟨hT.grid.put v hp,fun p' c' hp' hc'=>?_,fun p' c' hp' hc'=>?_,fun p' c' hp' hc'=>?_⟩,pot5_put hT.grid hp (by omega) ?_⟩
 ·rw[hA]
  by_cases e:p'=p∧c'=c
  ·rw[if_pos e];omega
  ·rw[if_neg e];exact hT.val p' c' hp' hc'
 ·rw[hA]
  by_cases e:p'=p∧c'=c
  ·rw[if_pos e,e.1,e.2];exact fun _=>ha
  ·rw[if_neg e];exact hT.att p' c' hp' hc'
 ·rw[hA]
  by_cases e:p'=p∧c'=c
  ·rw[if_pos e]
   have:=hT.start p' c' hp' hc'
   rw[e.1,e.2]at this
   omega
  ·rw[if_neg e];exact hT.start p' c' hp' hc'
 ·have:=hT.val p c hp hc
  unfold wv
  split <;> split <;> omega
structure Prog (r:TR) (f h:Int) (n:Nat) (ch0:Bool) (o0:List (List Int)) (ch:Bool) (o:List (List Int)):Prop where
 inv:TInv r f h n o
 le:pot5 o≤pot5 o0
 same:ch=false→ch0=false∧o=o0
 less:ch=true→ch0=true∨pot5 o<pot5 o0
theorem Prog.refl {r:TR} {f h:Int} {n:Nat} {ch:Bool} {o:List (List Int)} (hT:TInv r f h n o):Prog r f h n ch o ch o:=⟨hT,Nat.le_refl _,fun e=>⟨e,E⟩,fun e=>.inl e⟩
theorem Prog.trans {r:TR} {f h:Int} {n:Nat} {c0 c1 c2:Bool} {o0 o1 o2:List (List Int)} (a:Prog r f h n c0 o0 c1 o1) (b:Prog r f h n c1 o1 c2 o2):Prog r f h n c0 o0 c2 o2 :=
 ⟨b.inv,Nat.le_trans b.le a.le,fun e=>by
  obtain⟨e1,e2⟩:=b.same e
  obtain⟨e3,e4⟩:=a.same e1
  exact⟨e3,e2.trans e4⟩,fun e=>by
  rcases b.less e with h1|h1
  ·rcases a.less h1 with h2|h2
   ·exact .inl h2
   ·have:=b.le;exact .inr (by omega)
  ·have:=a.le;exact .inr (by omega)⟩
theorem Prog.put {r:TR} {f h:Int} {n:Nat} {c0:Bool} {o0:List (List Int)} {ch:Bool} {o:List (List Int)} (a:Prog r f h n c0 o0 ch o) {p c:Nat} {v:Int} (hp:p<n) (hc:c<61) (hv:0≤v∧v≤16384) (hs:At o p c<0∨v<At o p c) (ha:∃c',c'≤(c:Int)∧Tr r f h (p:Int) c' v):Prog r f h n c0 o0 true (nX o p c v):=by
 obtain⟨h1,h2⟩:=a.inv.put hp hc hv hs ha
 have:=a.le
 exact⟨h1,by omega,(fun e=>by cases e),fun _=>.inr (by omega)⟩
def qv (o:List (List Int)) (p c:Nat):Prop:=0≤At o p (c-1)→0≤At o p c∧At o p c≤At o p (c-1)
theorem l7_ok {r:TR} {f h:Int} {n:Nat} (hn:r.fPlaces=(n:Int)) {p:Nat} (hp:p<n) {ch0 x:Bool} {o0 y:List (List Int)} (hT:TInv r f h n o0):∃ch o,aK (dt r (x,(p:Int),y)) (ch0,1,o0)=some (ch,61,o)∧Prog r f h n ch0 o0 ch o∧(ch=false→∀c,1≤c→c<61→qv o0 p c):=by
 have htn:Int.toNat r.fPlaces=n:=by rw[hn];rfl
 have hinv:=bq (body:=dt r (x,(p:Int),y))
  (fun s=>∃(k:Nat) (ch:Bool) (o:List (List Int)),s=(ch,(k:Int),o)∧1≤k∧k≤61∧Prog r f h n ch0 o0 ch o∧(ch=false→∀c,1≤c→c<k→qv o0 p c))
  (fun _ t=>∃ch o,t=(ch,61,o)∧Prog r f h n ch0 o0 ch o∧(ch=false→∀c,1≤c→c<61→qv o0 p c))
  (fun s=>61-s.2.1.toNat) (by
   rintro _ ⟨k,ch,o,rfl,hk1,hk,hP,hM⟩
   unfold dt;dsimp only
   rw[htn]
   rcases Nat.lt_or_ge k 61 with hlt|hge
   ·have hrow:=hP.inv.grid.row hp
    have ek:w64 ((k:Int)-1)=((k-1:Nat):Int):=by rw[ci (by omega) (by omega)];omega
    have g1:(0:Int)≤(p:Int)∧(p:Int)<((n:Nat):Int):=by omega
    rw[ff (by omega),gPo g1,ek,At_rd,At_rd,qT,gPo (by omega),gPo g1,gPo (by omega)]
    unfold fY
    rw[oB,gPo g1,gPo g1,gPo (by omega),gPo (by omega),bj (by omega),Int.toNat_natCast,Int.toNat_natCast]
    have v1:=hP.inv.val p (k-1) hp (by omega)
    have v2:=hP.inv.val p k hp hlt
    by_cases hc:0≤At o p (k-1)∧(At o p k<0∨At o p (k-1)<At o p k)
    ·rw[if_pos (by rw[Bool.and_eq_true,Bool.or_eq_true,decide_eq_true_eq,decide_eq_true_eq,decide_eq_true_eq];exact hc)]
     obtain⟨c',q1,q2⟩:=hP.inv.att p (k-1) hp (by omega) hc.1
     exact .inl ⟨_,E,⟨k+1,true,nX o p k (At o p (k-1)),E,by omega,hlt,hP.put hp hlt ⟨hc.1,v1.2⟩ hc.2 ⟨c',by omega,q2⟩,fun e=>by cases e⟩,by dsimp only;omega,fun t h=>h⟩
    ·rw[if_neg (by rw[Bool.and_eq_true,Bool.or_eq_true,decide_eq_true_eq,decide_eq_true_eq,decide_eq_true_eq];exact hc)]
     refine .inl ⟨_,E,⟨k+1,ch,o,E,by omega,hlt,hP,fun e c h1 h2=>?_⟩,by dsimp only;omega,fun t h=>h⟩
     by_cases e2:c=k
     ·subst e2
      obtain⟨_,rfl⟩:=hP.same e
      intro h0
      by_cases h5:At o p c<0
      ·exact absurd ⟨h0,.inl h5⟩ hc
      ·by_cases h6:At o p (c-1)<At o p c
       ·exact absurd ⟨h0,.inr h6⟩ hc
       ·omega
     ·exact hM e c h1 (by omega)
   ·have:k=61:=by omega
    subst this
    rw[ei (by omega)]
    exact .inr ⟨_,E,ch,o,E,hP,hM⟩) (ch0,1,o0) ⟨1,ch0,o0,E,Nat.le_refl _,by omega,.refl hT,fun _ c h1 h2=>by omega⟩
 obtain⟨t,ht,ch,o,rfl,hh⟩:=hinv
 exact⟨ch,o,ht,hh⟩
theorem l6_ok {r:TR} {f h:Int} {n:Nat} (hn:r.fPlaces=(n:Int)) (hn2:n≤16) {ch0:Bool} {o0:List (List Int)} (hT:TInv r f h n o0):∃ch o,aK (dz r) (ch0,0,o0)=some (ch,r.fPlaces,o)∧Prog r f h n ch0 o0 ch o∧(ch=false→∀p c,p<n→1≤c→c<61→qv o0 p c):=by
 have hinv:=bq (body:=dz r)
  (fun s=>∃(p:Nat) (ch:Bool) (o:List (List Int)),s=(ch,(p:Int),o)∧p≤n∧Prog r f h n ch0 o0 ch o∧(ch=false→∀p' c,p'<p→1≤c→c<61→qv o0 p' c))
  (fun _ t=>∃ch o,t=(ch,r.fPlaces,o)∧Prog r f h n ch0 o0 ch o∧(ch=false→∀p c,p<n→1≤c→c<61→qv o0 p c))
  (fun s=>n-s.2.1.toNat) (by
   rintro _ ⟨p,ch,o,rfl,hp,hP,hM⟩
   unfold dz;dsimp only
   rcases Nat.lt_or_ge p n with hlt|hge
   ·rw[ff (by omega)]
    obtain⟨ch2,o2,e2,hP2,hM2⟩:=l7_ok hn hlt (ch0:=ch) (x:=ch) (y:=o) hP.inv
    rw[e2,oB,bj (by omega)]
    refine .inl ⟨_,E,⟨p+1,ch2,o2,E,hlt,hP.trans hP2,fun e p' c h1 h2 h3=>?_⟩,by dsimp only;omega,fun t h=>h⟩
    obtain⟨e3,e4⟩:=hP2.same e
    obtain⟨_,e6⟩:=hP.same e3
    by_cases e5:p'=p
    ·subst e5
     have:=hM2 e c h2 h3
     rw[e6]at this
     exact this
    ·exact hM e3 p' c (by omega) h2 h3
   ·have:p=n:=by omega
    subst this
    rw[ei (by omega)]
    exact .inr ⟨_,E,ch,o,by rw[hn],hP,hM⟩) (ch0,0,o0) ⟨0,ch0,o0,E,Nat.zero_le _,.refl hT,fun _ p c h1=>by omega⟩
 obtain⟨t,ht,ch,o,rfl,hh⟩:=hinv
 exact⟨ch,o,ht,hh⟩
def pQ (o:List (List Int)) (t:TT) (c:Nat):Prop:=(c:Int)+t.fToll≤60→0≤qI t (At o t.fFrom.toNat c)→0≤At o t.fTo.toNat (c+t.fToll.toNat)∧At o t.fTo.toNat (c+t.fToll.toNat)≤qI t (At o t.fFrom.toNat c)
theorem arrV_tr {r:TR} (hR:GoodR r) {f h:Int} {t:TT} (ht:t∈r.fTracks) {c:Int} {a:Int} (hh:0≤qI t a) (htr:Tr r f h t.fFrom c a):Tr r f h t.fTo (c+t.fToll) (qI t a)∧qI t a≤16384:=by
 unfold qI at hh ⊢
 by_cases h0:a<0
 ·rw[if_pos h0]at hh;omega
 ·rw[if_neg h0]at hh ⊢
  obtain⟨h1,h2⟩:=og hh
  rw[h2]
  exact⟨.step t _ htr ht E (iP _ _) (lU a (hR.trk t ht).spans),h1⟩
theorem l5_ok {r:TR} (hR:GoodR r) {f h:Int} {n:Nat} (hn:r.fPlaces=(n:Int)) {i:Nat} (hi:i<r.fTracks.length) {ch0 x:Bool} {o0 y:List (List Int)} (hT:TInv r f h n o0):∃ch o c9,aK (dK r (x,(i:Int),y)) (ch0,0,o0)=some (ch,c9,o)∧Prog r f h n ch0 o0 ch o∧(ch=false→∀c:Nat,pQ o0 r.fTracks[i] c):=by
 have htn:Int.toNat r.fPlaces=n:=by rw[hn];rfl
 have htm:=List.getElem_mem hi
 have hG:=hR.trk _ htm
 have hfr:=hG.fr
 have hto:=hG.to
 have htl:=hG.toll
 obtain⟨a,ha⟩:∃a:Nat,(r.fTracks[i]).fFrom=(a:Int):=⟨(r.fTracks[i]).fFrom.toNat,by omega⟩
 obtain⟨b,hb⟩:∃b:Nat,(r.fTracks[i]).fTo=(b:Int):=⟨(r.fTracks[i]).fTo.toNat,by omega⟩
 obtain⟨w,hw⟩:∃w:Nat,(r.fTracks[i]).fToll=(w:Int):=⟨(r.fTracks[i]).fToll.toNat,by omega⟩
 have hinv:=bq (body:=dK r (x,(i:Int),y))
  (fun s=>∃(k:Nat) (ch:Bool) (o:List (List Int)),s=(ch,(k:Int),o)∧k≤61∧Prog r f h n ch0 o0 ch o∧(ch=false→∀c:Nat,c<k→pQ o0 r.fTracks[i] c))
  (fun _ t=>∃ch o c9,t=(ch,c9,o)∧Prog r f h n ch0 o0 ch o∧(ch=false→∀c:Nat,pQ o0 r.fTracks[i] c))
  (fun s=>61-s.2.1.toNat) (by
   rintro _ ⟨k,ch,o,rfl,hk,hP,hM⟩
   unfold dK;dsimp only
   rw[htn,bh hi,gF]
   have ew:w64 ((k:Int)+(r.fTracks[i]).fToll)=((k+w:Nat):Int):=by rw[ci (by omega) (by omega)];omega
   rw[ew]
   by_cases hc:k+w≤60
   ·have hrA:=hP.inv.grid.row (show a<n by omega)
    have hrB:=hP.inv.grid.row (show b<n by omega)
    have v1:=hP.inv.val a k (by omega) (by omega)
    have v2:=hP.inv.val b (k+w) (by omega) (by omega)
    rw[ff (by omega),gPo (by omega),ha,At_rd,qT,gPo (by omega),pq hG v1,oB,gPo (by omega),hb,At_rd,qT,gPo (by omega)]
    unfold fY
    rw[oB,gPo (by omega),gPo (by omega),bj (by omega),Int.toNat_natCast,Int.toNat_natCast]
    by_cases hs:0≤qI r.fTracks[i] (At o a k)∧(At o b (k+w)<0∨qI r.fTracks[i] (At o a k)<At o b (k+w))
    ·rw[if_pos (by rw[Bool.and_eq_true,Bool.or_eq_true,decide_eq_true_eq,decide_eq_true_eq,decide_eq_true_eq];exact hs)]
     have hpos:0≤At o a k:=by
      have:=hs.1
      unfold qI at this
      split at this <;> omega
     obtain⟨c',q1,q2⟩:=hP.inv.att a k (by omega) (by omega) hpos
     rw[←ha]at q2
     obtain⟨q3,q4⟩:=arrV_tr hR htm hs.1 q2
     rw[hb]at q3
     exact .inl ⟨_,E,⟨k+1,true,nX o b (k+w) (qI r.fTracks[i] (At o a k)),E,by omega,hP.put (by omega) (by omega) ⟨hs.1,q4⟩ hs.2 ⟨c'+(r.fTracks[i]).fToll,by omega,q3⟩,fun e=>by cases e⟩,by dsimp only;omega,fun t h=>h⟩
    ·rw[if_neg (by rw[Bool.and_eq_true,Bool.or_eq_true,decide_eq_true_eq,decide_eq_true_eq,decide_eq_true_eq];exact hs)]
     refine .inl ⟨_,E,⟨k+1,ch,o,E,by omega,hP,fun e c h1=>?_⟩,by dsimp only;omega,fun t h=>h⟩
     by_cases e2:c=k
     ·subst e2
      obtain⟨_,rfl⟩:=hP.same e
      intro h0 h5
      rw[ha,hb,hw]at *
      rw[Int.toNat_natCast,Int.toNat_natCast,Int.toNat_natCast]at *
      by_cases h6:At o b (c+w)<0
      ·exact absurd ⟨h5,.inl h6⟩ hs
      ·by_cases h7:qI r.fTracks[i] (At o a c)<At o b (c+w)
       ·exact absurd ⟨h5,.inr h7⟩ hs
       ·omega
     ·exact hM e c (by omega)
   ·rw[ei (by omega)]
    refine .inr ⟨_,E,ch,o,_,E,hP,fun e c=>?_⟩
    by_cases h1:c<k
    ·exact hM e c h1
    ·intro h0
     omega) (ch0,0,o0) ⟨0,ch0,o0,E,by omega,.refl hT,fun _ c h1=>by omega⟩
 obtain⟨t,ht,ch,o,c9,rfl,hh⟩:=hinv
 exact⟨ch,o,c9,ht,hh⟩
theorem l4_ok {r:TR} (hR:GoodR r) {f h:Int} {n:Nat} (hn:r.fPlaces=(n:Int)) {ch0:Bool} {o0:List (List Int)} (hT:TInv r f h n o0):∃ch o i9,aK (dJ r) (ch0,0,o0)=some (ch,i9,o)∧Prog r f h n ch0 o0 ch o∧(ch=false→∀t∈r.fTracks,∀c:Nat,pQ o0 t c):=by
 have hrl:=hR.len
 have hinv:=bq (body:=dJ r)
  (fun s=>∃(i:Nat) (ch:Bool) (o:List (List Int)),s=(ch,(i:Int),o)∧i≤r.fTracks.length∧Prog r f h n ch0 o0 ch o∧(ch=false→∀j,(hj:j<r.fTracks.length)→j<i→∀c:Nat,pQ o0 r.fTracks[j] c))
  (fun _ t=>∃ch o i9,t=(ch,i9,o)∧Prog r f h n ch0 o0 ch o∧(ch=false→∀t∈r.fTracks,∀c:Nat,pQ o0 t c))
  (fun s=>r.fTracks.length-s.2.1.toNat) (by
   rintro _ ⟨i,ch,o,rfl,hi,hP,hM⟩
   unfold dJ;dsimp only
   rcases Nat.lt_or_ge i r.fTracks.length with hlt|hge
   ·obtain⟨ch2,o2,c9,e2,hP2,hM2⟩:=l5_ok hR hn hlt (ch0:=ch) (x:=ch) (y:=o) hP.inv
    rw[ff (by omega),gPo (by omega),e2,oB,bj (by omega)]
    refine .inl ⟨_,E,⟨i+1,ch2,o2,E,hlt,hP.trans hP2,fun e j hj h1 c=>?_⟩,by dsimp only;omega,fun t h=>h⟩
    obtain⟨e3,e4⟩:=hP2.same e
    obtain⟨_,e6⟩:=hP.same e3
    by_cases e5:j=i
    ·subst e5
     have:=hM2 e c
     rw[e6]at this
     exact this
    ·exact hM e3 j hj (by omega) c
   ·rw[ei (by omega)]
    refine .inr ⟨_,E,ch,o,_,E,hP,fun e t ht c=>?_⟩
    obtain⟨j,hj,rfl⟩:=List.mem_iff_getElem.1 ht
    exact hM e j hj (by omega) c) (ch0,0,o0) ⟨0,ch0,o0,E,Nat.zero_le _,.refl hT,fun _ j hj h1=>by omega⟩
 obtain⟨t,ht,ch,o,i9,rfl,hh⟩:=hinv
 exact⟨ch,o,i9,ht,hh⟩
theorem l3_ok {r:TR} (hR:GoodR r) {f h:Int} {n:Nat} (hn:r.fPlaces=(n:Int)) (hn2:n≤16) {o0:List (List Int)} (hT:TInv r f h n o0):∃o,aK (dI r) (true,o0)=some (false,o)∧TInv r f h n o∧(∀t∈r.fTracks,∀c:Nat,pQ o t c)∧∀p c,p<n→1≤c→c<61→qv o p c:=by
 have hinv:=bq (body:=dI r)
  (fun s=>TInv r f h n s.2∧(s.1=false→(∀t∈r.fTracks,∀c:Nat,pQ s.2 t c)∧∀p c,p<n→1≤c→c<61→qv s.2 p c))
  (fun _ t=>t.1=false∧TInv r f h n t.2∧(∀t'∈r.fTracks,∀c:Nat,pQ t.2 t' c)∧∀p c,p<n→1≤c→c<61→qv t.2 p c)
  (fun s=>2*pot5 s.2+if s.1=true then 1 else 0) (by
   rintro⟨ch,o⟩ ⟨hI,hF⟩
   unfold dI;dsimp only at hI hF ⊢
   cases ch with
   | false =>
    rw[if_neg (by simp)]
    exact .inr ⟨_,E,E,hI,hF E⟩
   | true =>
    rw[if_pos E]
    obtain⟨c1,o1,i9,e1,p1,m1⟩:=l4_ok hR hn (ch0:=false) hI
    obtain⟨c2,o2,e2,p2,m2⟩:=l6_ok hn hn2 (ch0:=c1) p1.inv
    have hp:=p1.trans p2
    rw[e1,oB,e2,oB]
    refine .inl ⟨_,E,⟨hp.inv,fun e=>?_⟩,?_,fun t h=>h⟩
    ·dsimp only at e ⊢
     obtain⟨q1,q2⟩:=p2.same e
     obtain⟨_,q3⟩:=p1.same q1
     subst q2
     refine⟨fun t ht c=>?_,m2 e⟩
     have:=m1 q1 t ht c
     rw[←q3]at this
     exact this
    ·dsimp only
     cases c2 with
     | false =>
      have:=hp.le
      simp;omega
     | true =>
      rcases hp.less E with q|q
      ·cases q
      ·simp;omega) (true,o0) ⟨hT,fun e=>by cases e⟩
 obtain⟨⟨c,o⟩,ht,h1,h2,h3,h4⟩:=hinv
 dsimp only at h1 h2 h3 h4
 subst h1
 exact⟨o,ht,h2,h3,h4⟩
theorem qV {r:TR} (hR:GoodR r) {f h:Int} (hf:0≤f∧f<r.fPlaces) (hh:0≤h∧h≤16384):∃o,dZ r f h=some o∧Grid r.fPlaces.toNat o∧∀p c:Nat,(p:Int)<r.fPlaces→c≤60→Least r f h (p:Int) (c:Int) (At o p c):=by
 have hp:=hR.places
 obtain⟨n,hn⟩:∃n:Nat,r.fPlaces=(n:Int):=⟨r.fPlaces.toNat,by omega⟩
 have htn:Int.toNat r.fPlaces=n:=by rw[hn];rfl
 obtain⟨o1,e1,g1,g2⟩:=init1 (f:=f) (h:=h) hn (by omega)
 have hT:TInv r f h n o1:=by
  refine⟨g1,fun p c hp hc=>?_,fun p c hp hc=>?_,fun p c hp hc=>?_⟩
  ·rw[g2 p c hp hc];unfold tx;split <;> omega
  ·rw[g2 p c hp hc];unfold tx
   split
   ·rename_i e
    intro _
    exact⟨0,by omega,e▸Tr.start⟩
   ·intro h0;omega
  ·rw[g2 p c (by omega) hc];unfold tx;rw[if_pos hp];omega
 obtain⟨o,e2,h1,h2,h3⟩:=l3_ok hR hn (by omega) hT
 refine⟨o,?_,by rw[htn];exact h1.grid,fun p c hp hc=>?_⟩
 ·unfold dZ
  rw[gPo (by omega),htn,e1,oB,e2,oB]
 ·have mono:∀(p c c':Nat),p<n→c≤c'→c'≤60→0≤At o p c→0≤At o p c'∧At o p c'≤At o p c:=by
   intro p c c' hp hcc
   induction hcc with
   | refl=>exact fun _ h0=>⟨h0,Int.le_refl _⟩
   | step hm ih =>
    rename_i m
    intro h60 h0
    obtain⟨a1,a2⟩:=ih (by omega) h0
    have:=h3 p (m+1) hp (by omega) (by omega) a1
    exact⟨this.1,Int.le_trans this.2 a2⟩
  have main:∀{q c a:Int},Tr r f h q c a→c≤60→a≤16384→0≤q∧q<r.fPlaces∧0≤At o q.toNat c.toNat∧At o q.toNat c.toNat≤a:=by
   intro q c a ht
   induction ht with
   | start =>
    intro _ _
    have:=h1.start f.toNat 0 (by omega) (by omega)
    exact⟨hf.1,hf.2,this⟩
   | step t m ht hm hfr hle he ih =>
    rename_i q c a
    intro hc ha
    have hg:=hR.trk t hm
    have l1:=hg.long
    have l2:=hg.toll
    have l3:=hg.to
    have hlow:=ht.low hR
    obtain⟨i1,i2,i3,i4⟩:=ih (by omega) (by omega)
    have hs:=h2 t hm c.toNat (by omega)
    rw[hfr]at hs
    have e5:dL t.fK (At o q.toNat c.toNat)≤m:=by rw[←he];exact n0 _ (by omega)
    have e6:=iP t.fK (At o q.toNat c.toNat)
    have ev:qI t (At o q.toNat c.toNat)=dL t.fK (At o q.toNat c.toNat)+t.fLong:=by
     unfold qI arr
     rw[if_neg (by omega),if_pos (by omega)]
    rw[ev]at hs
    have:=hs (by omega)
    rw[show(c+t.fToll).toNat=c.toNat+t.fToll.toNat by omega]
    exact⟨by omega,by omega,this.1,by omega⟩
  have hv:=h1.val p c (by omega) (by omega)
  refine⟨hv.1,hv.2,fun h0=>h1.att p c (by omega) (by omega) h0,fun c' a ht hc' ha=>?_⟩
  obtain⟨_,_,b1,b2⟩:=main ht (by omega) ha
  have hlow:=ht.low hR
  rw[Int.toNat_natCast]at b1 b2
  have:=mono p c'.toNat c (by omega) (by omega) hc b1
  omega
set_option linter.unusedSimpArgs false
open Classical
structure Jny (r:TR) (f to h:Int) (j:TJ):Prop where
 legs:po r j.fLegs f h 0=some (to,j.fA,j.fToll)
 hour:0≤j.fA∧j.fA≤16384
 toll:j.fToll≤60
theorem oE {r:TR} (hR:GoodR r) {f to h:Int} (hh:0≤h∧h≤16384) {j:TJ} (hj:j.fLegs.length≤1000000):f6 r f to h j=some (decide (Jny r f to h j)):=by
 rw[mH hR hh hj]
 refine congrArg some ?_
 rw[Bool.eq_iff_iff,decide_eq_true_eq]
 cases e:po r j.fLegs f h 0 with
 | none=>exact⟨fun h=>(by cases h),fun h=>by have:=h.legs;rw[e]at this;cases this⟩
 | some x =>
  obtain⟨a,b,c⟩:=x
  dsimp only
  simp only[Bool.and_eq_true,beq_iff_eq,decide_eq_true_eq]
  constructor
  ·rintro⟨⟨⟨⟨rfl,rfl⟩,rfl⟩,h2⟩,h3⟩
   exact⟨e,h2,h3⟩
  ·intro hJ
   have h1:=hJ.legs
   rw[e]at h1
   cases h1
   exact⟨⟨⟨⟨E,E⟩,E⟩,hJ.hour⟩,hJ.toll⟩
theorem list61 {a b:List Int} (ha:a.length=61) (hb:b.length=61) (h:∀c:Nat,c<61→rdL a (c:Int)=rdL b (c:Int)):a=b:=by
 refine List.ext_getElem (by omega) fun c h1 h2=>?_
 have:=h c (by omega)
 rw[bh h1,bh h2]at this
 exact this
set_option linter.unusedSimpArgs false
open Classical
theorem Matchable.mono {S S':Nat→Nat→Prop} {A:Nat→Prop} (h:Matchable S A) (hs:∀x k,A x→S x k→S' x k):Matchable S' A:=by
 obtain⟨m,hM,hd⟩:=h
 exact⟨m,⟨fun k o e=>hs o k ((hd o).1 ⟨k,e⟩) (hM.suit k o e),hM.inj⟩,hd⟩
theorem Matchable.congr {S:Nat→Nat→Prop} {A B:Nat→Prop} (h:Matchable S A) (hab:∀x,A x↔B x):Matchable S B:=by
 obtain⟨m,hM,hd⟩:=h
 exact⟨m,hM,fun x=>(hd x).trans (hab x)⟩
def w1 (y:TY) (first wi:Int) (x:Nat):Int:=if(x:Int)=first∨(x:Int)=wi then 1001 else wo y x
def S1 (y:TY) (wi:Int) (x k:Nat):Prop:=Su y x k∧(x:Int)≠wi
theorem S1.fit (y:TY) (wi:Int):Fit (S1 y wi) y.fB.length y.fR.length:=⟨fun o k h=>h.1.2.1,fun o k h=>h.1.1⟩
def Seen (y:TY) (first wi w:Int) (i:Nat) (x:Nat):Prop:=(x<y.fR.length∧(w<wo y x∨(wo y x=w∧x<i)))∨(x:Int)=first∨(x:Int)=wi
structure BestI (y:TY) (first wi w:Int) (i:Nat) (l:List Int):Prop where
 nums:Nums y.fR.length l
 greedy:Greedy (S1 y wi) (w1 y first wi) (Seen y first wi w i) (fun x=>(x:Int)∈l)
 no:¬wi∈l
theorem Nums.len {n:Nat} {l:List Int} (h:Nums n l):l.length≤n:=by
 have h1:∀(ks:List Int),isum (fun _=>1) ks=(ks.length:Int):=fun ks=>by
  induction ks with
  | nil=>rfl
  | cons k ks ih=>show 1+isum (fun _=>1) ks=_;rw[ih,List.length_cons];omega
 have h2:=isum_sm (f:=fun _=>1) (n:=n) l h.once h.nat
 have h3:∀n,sm n (fun _=>1)=(n:Int):=fun n=>by
  induction n with
  | zero=>rfl
  | succ n ih=>show sm n (fun _=>1)+1=_;rw[ih];omega
 have h4:=h3 n
 have h5:sm n (fun j=>if(j:Int)∈l then(1:Int)else 0)≤sm n (fun _=>1):=pk fun i _=>by split <;> omega
 rw[h1]at h2
 omega
theorem Opt.congr {S S':Nat→Nat→Prop} {w w':Nat→Int} {nB:Nat} {V:Int} (h:Opt S w nB V) (hS:∀o k,S o k↔S' o k) (hw:∀o k,S o k→w o=w' o):Opt S' w' nB V:=by
 have e:S=S':=funext fun o=>funext fun k=>propext (hS o k)
 subst e
 have hv:∀m,Mat S m→wor nB w m=wor nB w' m:=fun m hM=>fv fun k _=>by
  cases e:m k with
  | none=>rfl
  | some x=>exact hw x k (hM.suit k x e)
 obtain⟨m,hM,e⟩:=h.some
 exact⟨⟨m,hM,by rw[←hv m hM];exact e⟩,fun m hM=>by rw[←hv m hM];exact h.most m hM⟩
set_option linter.unusedSimpArgs false
open Classical
def ga (p:TPlan) (i:Nat):Int:=p.fG.getD i 0
def pa (p:TPlan) (k:Nat):Int:=p.fPrices.getD k 0
def ta (y:TY) (f:Nat→Int) (i:Nat) (a:Int):Nat→Int
 | 0=>a
 | n+1=>if pY (oat y i) (bat y n)=true then min (ta y f i a n) (f n)else ta y f i a n
theorem minS_le (y:TY) (f:Nat→Int) (i:Nat) (a:Int):∀n,ta y f i a n≤a∧∀k,k<n→pY (oat y i) (bat y k)=true→ta y f i a n≤f k
 | 0=>⟨Int.le_refl _,fun k hk=>by omega⟩
 | n+1=>by
  obtain⟨h1,h2⟩:=minS_le y f i a n
  unfold ta
  split
  ·rename_i hs
   refine⟨by omega,fun k hk hk2=>?_⟩
   rcases Nat.lt_or_ge k n with h|h
   ·have:=h2 k h hk2;omega
   ·have:k=n:=by omega
    subst this;omega
  ·rename_i hs
   refine⟨h1,fun k hk hk2=>?_⟩
   rcases Nat.lt_or_ge k n with h|h
   ·exact h2 k h hk2
   ·have:k=n:=by omega
    subst this;exact absurd hk2 hs
theorem rF (y:TY) (f:Nat→Int) (i:Nat) (a:Int):∀n,ta y f i a n=a∨∃k,k<n∧pY (oat y i) (bat y k)=true∧ta y f i a n=f k
 | 0=>.inl E
 | n+1=>by
  unfold ta
  split
  ·rename_i hs
   rcases rF y f i a n with h|⟨k,h1,h2,h3⟩
   ·rcases Int.le_total (ta y f i a n) (f n)with h4|h4
    ·left;rw[Int.min_eq_left h4];exact h
    ·right;exact⟨n,by omega,hs,Int.min_eq_right h4⟩
   ·rcases Int.le_total (ta y f i a n) (f n)with h4|h4
    ·right;exact⟨k,by omega,h2,by rw[Int.min_eq_left h4];exact h3⟩
    ·right;exact⟨n,by omega,hs,Int.min_eq_right h4⟩
  ·rcases rF y f i a n with h|⟨k,h1,h2,h3⟩
   ·exact .inl h
   ·exact .inr ⟨k,by omega,h2,h3⟩
def gain (y:TY) (f:Nat→Int) (i:Nat):Int:=max 0 (wo y i-ta y f i 1001 y.fB.length)
def okAt (y:TY) (p:TPlan) (i:Nat):Prop:=ga p i=0∨(0≤bayI y (ga p i)∧pY (oat y i) (rdL y.fB (bayI y (ga p i)))=true∧∀j,j<i→ga p j≠ga p i)
def sumW (y:TY) (p:TPlan) (n:Nat):Int:=sm n fun i=>if ga p i=0 then 0 else wo y i
structure Proved (y:TY) (p:TPlan):Prop where
 len:p.fG.length=y.fR.length
 plen:p.fPrices.length=y.fB.length
 price:∀k,k<y.fB.length→0≤pa p k∧pa p k≤1000
 ok:∀i,i<y.fR.length→okAt y p i
 sum:sumW y p y.fR.length=p.fW
 bound:sm y.fR.length (gain y (pa p))+sm y.fB.length (pa p)=p.fW
set_option linter.unusedSimpArgs false
open Classical
theorem pL {y:TY} (hG:Good y) {k:Nat} (hk:k<y.fB.length):bayI y (bat y k).fID=(k:Int):=by
 unfold bayI bat
 rw[eD hk]
 exact idxI_at hG.bayN hk
theorem bay_pos {y:TY} (hG:Good y) {k:Nat} (hk:k<y.fB.length):1≤(bat y k).fID:=by
 have:=hG.bay y.fB[k] (List.getElem_mem hk)
 unfold bayB at this
 simp only[Bool.and_eq_true,decide_eq_true_eq]at this
 unfold bat
 rw[eD hk]
 exact this.1.1
theorem PlanOf.proved {y:TY} (hG:Good y) {m:Nat→Option Nat} (hM:Mat (Su y) m) {q u:Nat→Int} (hp:Prices (Su y) (wo y) y.fB.length y.fR.length m q u) {p:TPlan} (h:PlanOf y m q p):Proved y p:=by
 have hF:=Su.fit y
 have hgot:∀o k,m k=some o→ga p o=(bat y k).fID∧k<y.fB.length∧o<y.fR.length:=fun o k e=>⟨h.got o k e,hF.bay o k (hM.suit k o e),hF.ord o k (hM.suit k o e)⟩
 have hnz:∀o,ga p o=0↔¬Dom m o:=fun o=>⟨fun e ⟨k,ek⟩=>by
  obtain⟨h1,h2,_⟩:=hgot o k ek
  have:=bay_pos hG h2
  omega,h.not o⟩
 have hpr:∀k,k<y.fB.length→pa p k=q k:=h.price
 have hq:∀k,k<y.fB.length→0≤q k∧q k≤1000:=fun k hk=>⟨hp.q0 k,by
  cases e:m k with
  | none=>rw[hp.free k e];omega
  | some x=>have h1:=hp.held k x e;have h2:=hG.worth (hgot x k e).2.2;omega⟩
 have hgain:∀i,i<y.fR.length→gain y (pa p) i=u i:=fun i hi=>by
  have hw:=hG.worth hi
  obtain⟨hm1,hm2⟩:=minS_le y (pa p) i 1001 y.fB.length
  have hm3:=rF y (pa p) i 1001 y.fB.length
  unfold gain
  by_cases hd:Dom m i
  ·obtain⟨k,e⟩:=hd
   have hs:=hM.suit k i e
   have h1:=hp.uset k i e
   have h2:=hp.held k i e
   have h3:=hm2 k hs.2.1 hs.2.2
   rw[hpr k hs.2.1]at h3
   have h4:q k≤ta y (pa p) i 1001 y.fB.length:=by
    rcases hm3 with h4|⟨k',hk',hs',h4⟩
    ·have:=(hq k hs.2.1).2;omega
    ·rw[h4,hpr k' hk'];exact hp.least k i k' e ⟨hi,hk',hs'⟩
   omega
  ·rw[hp.unot i hd]
   have h4:wo y i≤ta y (pa p) i 1001 y.fB.length:=by
    rcases hm3 with h4|⟨k',hk',hs',h4⟩
    ·omega
    ·rw[h4,hpr k' hk'];exact hp.out i k' hi hd ⟨hi,hk',hs'⟩
   omega
 refine⟨h.len,h.plen,fun k hk=>by rw[hpr k hk];exact hq k hk,fun i hi=>?_,?_,?_⟩
 ·by_cases hd:Dom m i
  ·obtain⟨k,e⟩:=hd
   obtain⟨h1,h2,_⟩:=hgot i k e
   refine .inr ⟨by rw[h1,pL hG h2];omega,by rw[h1,pL hG h2,rdL_bat];exact(hM.suit k i e).2.2,fun j hj ej=>?_⟩
   have hdj:Dom m j:=Classical.byContradiction fun hn=>by
    have:=(hnz j).2 hn
    have:=bay_pos hG h2
    omega
   obtain⟨k',e'⟩:=hdj
   obtain⟨h1',h2',_⟩:=hgot j k' e'
   have h5:=pL hG h2
   rw[←h1,←ej,h1',pL hG h2']at h5
   have:k'=k:=by omega
   subst this
   rw[e]at e'
   cases e'
   omega
  ·exact .inl ((hnz i).2 hd)
 ·rw[h.worth]
  unfold wor
  rw[bij hF hM (wo y)]
  refine fv fun i _=>?_
  by_cases hd:Dom m i
  ·rw[if_pos hd,if_neg fun e=>(hnz i).1 e hd]
  ·rw[if_neg hd,if_pos ((hnz i).2 hd)]
 ·rw[h.worth,hp.total,fv hgain,fv hpr]
  exact Int.add_comm _ _
set_option linter.unusedSimpArgs false
end Go.Proofs.YthndghnkebboaaaGreat
set_option linter.unusedSimpArgs false
namespace Go.Proofs.YthndghnkebboaaaGreat
theorem sX {L:List Int} (hs:d7 L) (n:Int) (k:Nat) (hk:k≤L.length) (h1:∀j,(hj:j<L.length)→j<k→L[j]<n) (h2:∀h:k<L.length,n≤L[k]):L.take k++[n]++L.drop k=oe (L++[n]):=by
 refine rn ?_ ?_
 ·have e:(L.take k++L.drop k++[n]).Perm (L++[n]):=by rw[List.take_append_drop]
  refine List.Perm.trans ?_ e
  rw[List.append_assoc,List.append_assoc]
  exact List.perm_append_comm.append_left _
 ·have hpw:=List.pairwise_iff_getElem.1 hs
  unfold d7 at hs ⊢
  rw[List.append_assoc,List.pairwise_append]
  refine⟨hs.sublist (List.take_sublist _ _),?_,fun a ha b hb=>?_⟩
  ·rw[List.singleton_append,List.pairwise_cons]
   refine⟨fun b hb=>?_,hs.sublist (List.drop_sublist _ _)⟩
   obtain⟨j,hj,rfl⟩:=List.mem_iff_getElem.1 hb
   rw[List.getElem_drop]
   rw[List.length_drop]at hj
   have h3:=h2 (by omega)
   by_cases e:j=0
   ·subst e;simpa using h3
   ·have:=hpw k (k+j) (by omega) (by omega) (by omega)
    omega
  ·obtain⟨j,hj,rfl⟩:=List.mem_take_iff_getElem.1 ha
   have hlt:L[j]'(by omega)<n:=h1 j (by omega) (by omega)
   rw[List.singleton_append]at hb
   rcases List.mem_cons.1 hb with rfl|hb
   ·omega
   ·obtain⟨i,hi,rfl⟩:=List.mem_iff_getElem.1 hb
    rw[List.getElem_drop]
    rw[List.length_drop]at hi
    have:=hpw j (k+i) (by omega) (by omega) (by omega)
    omega
theorem put_eq {L:List Int} (hl:L.length≤1000000) (hs:d7 L) (n:Int):oU L n=some (oe (L++[n])):=by
 have key:∃t,aK (jb L n) 0=some t∧∃k:Nat,t=(k:Int)∧k≤L.length∧(∀j,(hj:j<L.length)→j<k→L[j]<n)∧∀h:k<L.length,n≤L[k]:=by
  refine bq (body:=jb L n) (fun s=>∃k:Nat,s=(k:Int)∧k≤L.length∧∀j,(hj:j<L.length)→j<k→L[j]<n) (fun s t=>∃k:Nat,t=(k:Int)∧k≤L.length∧(∀j,(hj:j<L.length)→j<k→L[j]<n)∧∀h:k<L.length,n≤L[k]) (fun s=>L.length-s.toNat) (fun s hs=>?_) _ ⟨0,E,Nat.zero_le _,fun j hj h=>by omega⟩
  obtain⟨k,rfl,i2,i3⟩:=hs
  unfold jb
  by_cases hk:k<L.length
  ·rw[ff (by omega),gPo (by omega),bh hk,oB,bj (by omega)]
   by_cases hc:L[k]<n
   ·rw[if_pos (decide_eq_true hc)]
    refine .inl ⟨_,E,⟨k+1,E,hk,fun j hj h=>?_⟩,by omega,fun t ht=>ht⟩
    by_cases e:j=k
    ·subst e;exact hc
    ·exact i3 j hj (by omega)
   ·rw[if_neg (by simp[hc])]
    exact .inr ⟨_,E,k,E,i2,i3,fun _=>by omega⟩
  ·rw[ei (by omega),oB,if_neg (by simp)]
   exact .inr ⟨_,E,k,E,i2,i3,fun h=>absurd h hk⟩
 obtain⟨t,t1,k,rfl,k2,k3,k4⟩:=key
 unfold oU
 rw[t1,oB,gPo (by omega),Int.toNat_natCast,gPo (by omega),gPo (by omega),gPo (by omega),gPo (by omega)]
 rw[List.nil_append,sX hs n k k2 k3 k4]
def nT (n:Nat) (id:Nat→Int) (P:Nat→Bool):List Int:=(List.range n).filterMap fun k=>if P k=true then some (id k)else none
theorem pF (n:Nat) (id:Nat→Int) (P:Nat→Bool):nT (n+1) id P=if P n=true then nT n id P++[id n]else nT n id P:=by
 unfold nT
 rw[List.range_succ,List.filterMap_append]
 by_cases h:P n=true <;> simp[h]
theorem picks_len (n:Nat) (id:Nat→Int) (P:Nat→Bool):(nT n id P).length≤n:=by
 induction n with
 | zero=>simp[nT]
 | succ n ih =>
  rw[pF]
  split
  ·rw[List.length_append];simp;exact ih
  ·omega
theorem srtI_app (l:List Int) (x:Int):oe (oe l++[x])=oe (l++[x]):=rn ((ko _).trans ((ko l).append_right [x])) (jU _)
theorem putLoop {n:Nat} (hn:n≤1000000) (id:Nat→Int) (P:Nat→Bool) {body:(Int × List Int)→Option ((Int × List Int) ⊕ (Int × List Int))} (hb:∀k,k<n→∀L:List Int,body ((k:Int),L)=if P k=true then(oU L (id k)).bind fun y=>some (.inl (((k+1:Nat):Int),y))else some (.inl (((k+1:Nat):Int),L))) (hs:∀L:List Int,body ((n:Int),L)=some (.inr ((n:Int),L))):aK body (0,[])=some ((n:Int),oe (nT n id P)):=by
 have h:=jH (body:=body) (fun k=>((k:Int),oe (nT k id P))) n (t:=((n:Int),oe (nT n id P))) (fun k hk=>by
  show body ((k:Int),oe (nT k id P))=some (Sum.inl (((k+1:Nat):Int),oe (nT (k+1) id P)))
  rw[hb k hk,pF]
  by_cases h:P k=true
  ·rw[if_pos h,if_pos h,put_eq (by rw[sf];have:=picks_len k id P;omega) (jU _),oB,srtI_app]
  ·rw[if_neg h,if_neg h]) (hs _)
 exact h
theorem rS (a:List Int) (h:a.length<1000000000):bK a a=some true:=by
 unfold bK
 rw[if_neg (by simp)]
 have hrun:=jH (body:=cx a a) (fun k=>(false,(k:Int))) a.length (t:=.inr (false,(a.length:Int))) (fun k hk=>by
  unfold cx;dsimp only
  rw[ff (by omega),gPo (by omega),gPo (by omega),if_neg (by simp),bj (by omega)]) (by
  unfold cx;dsimp only
  rw[ei (by omega)])
 have h0:aK (cx a a) (false,0)=_:=hrun
 rw[h0]
 rfl
set_option linter.unusedSimpArgs false
open Classical
def lb (f h p:Int) (l:List Int) (c:Nat):Prop :=
 (-1≤rdL l (c:Int)∧rdL l (c:Int)≤16384)∧(p=f→0≤rdL l (c:Int)∧rdL l (c:Int)≤h)∧(0<c→0≤rdL l ((c-1:Nat):Int)→0≤rdL l (c:Int)∧rdL l (c:Int)≤rdL l ((c-1:Nat):Int))
theorem cell_eq {f h p:Int} {t:TTimes} {b0 b:Bool} {c:Nat} (hl:(rdL t.fH p).length=61) (hc:c<61):dj f h t (b0,p) (b,(c:Int))=if decide (lb f h p (rdL t.fH p) c)=true then some (.inl (b,((c+1:Nat):Int)))else some (.inr (.inl (false,(c:Int)))):=by
 have hg:(0:Int)≤(c:Int)∧(c:Int)<(((rdL t.fH p).length:Nat):Int):=by omega
 unfold dj;dsimp only
 rw[ff (by omega),bj (by omega)]
 generalize (rdL t.fH p)=l at hl hg ⊢
 by_cases h0:c=0
 ·subst h0
  simp only[gPo hg,orB,andB,oB,gB]
  have e0:decide ((0:Int)<((0:Nat):Int))=false:=rfl
  simp only[e0,Bool.false_eq_true,if_false,orB,andB,oB]
  by_cases hk:lb f h p l 0
  ·rw[if_neg,if_pos (decide_eq_true hk)]
   have hk1:=hk.1
   have hk2:=hk.2.1
   simp only[Bool.or_eq_true,Bool.and_eq_true,Bool.not_eq_true',decide_eq_true_eq,decide_eq_false_iff_not,beq_iff_eq,Bool.false_eq_true,or_false]
   intro hh
   rcases hh with h1|⟨h1,h2⟩
   ·exact h1 hk1
   ·have:=hk2 h1;omega
  ·rw[if_pos,if_neg (by rw[decide_eq_true_eq];exact hk)]
   simp only[Bool.or_eq_true,Bool.and_eq_true,Bool.not_eq_true',decide_eq_true_eq,decide_eq_false_iff_not,beq_iff_eq,Bool.false_eq_true,or_false,and_true]
   by_cases h1 : -1≤rdL l ((0:Nat):Int)∧rdL l ((0:Nat):Int)≤16384
   ·by_cases h2:p=f
    ·refine .inr ⟨h2,?_⟩
     by_cases h3:0≤rdL l ((0:Nat):Int)∧rdL l ((0:Nat):Int)≤h
     ·exact absurd ⟨h1,fun _=>h3,fun h=>absurd h (by omega)⟩ hk
     ·omega
    ·exact absurd ⟨h1,fun h=>absurd h h2,fun h=>absurd h (by omega)⟩ hk
   ·exact .inl h1
 ·have ep:max 0 (w64 ((c:Int)-1))=((c-1:Nat):Int):=by rw[ci (by omega) (by omega)];omega
  have hg2:(0:Int)≤((c-1:Nat):Int)∧((c-1:Nat):Int)<((l.length:Nat):Int):=by omega
  have e0:decide ((0:Int)<(c:Int))=true:=decide_eq_true (by omega)
  simp only[gPo hg,ep,gPo hg2,e0,if_true,orB,andB,oB,gB]
  by_cases hk:lb f h p l c
  ·rw[if_neg,if_pos (decide_eq_true hk)]
   have hk1:=hk.1
   have hk2:=hk.2.1
   have hk3:=hk.2.2 (by omega)
   simp only[Bool.or_eq_true,Bool.and_eq_true,Bool.not_eq_true',decide_eq_true_eq,decide_eq_false_iff_not,beq_iff_eq]
   intro hh
   rcases hh with(h1|⟨h1,h2⟩)|⟨h1,h2⟩
   ·exact h1 hk1
   ·have:=hk2 h1;omega
   ·have:=hk3 h1;omega
  ·rw[if_pos,if_neg (by rw[decide_eq_true_eq];exact hk)]
   simp only[Bool.or_eq_true,Bool.and_eq_true,Bool.not_eq_true',decide_eq_true_eq,decide_eq_false_iff_not,beq_iff_eq]
   by_cases h1 : -1≤rdL l (c:Int)∧rdL l (c:Int)≤16384
   ·by_cases h2:p=f→0≤rdL l (c:Int)∧rdL l (c:Int)≤h
    ·by_cases h3:0≤rdL l ((c-1:Nat):Int)→0≤rdL l (c:Int)∧rdL l (c:Int)≤rdL l ((c-1:Nat):Int)
     ·exact absurd ⟨h1,h2,fun _=>h3⟩ hk
     ·exact .inr ⟨by omega,by omega⟩
    ·refine .inl (.inr ⟨?_,?_⟩)
     ·exact Classical.byContradiction fun q=>h2 fun e=>absurd e q
     ·exact Classical.byContradiction fun q=>h2 fun _=>⟨by omega,by omega⟩
   ·exact .inl (.inl h1)
theorem row_eq {f h p:Int} {t:TTimes} {b:Bool} (hl:(rdL t.fH p).length=61):∃out,aK (dj f h t (b,p)) (b,0)=some out∧(match out with
  | .inl u=>u.1=false∧¬∀c:Nat,c<61→lb f h p (rdL t.fH p) c
  | .inr u=>u.1=b∧∀c:Nat,c<61→lb f h p (rdL t.fH p) c) :=
 bq (body:=dj f h t (b,p))
  (fun s=>∃c:Nat,s=(b,(c:Int))∧c≤61∧∀j:Nat,j<c→lb f h p (rdL t.fH p) j)
  (fun _ out=>match out with
   | .inl u=>u.1=false∧¬∀c:Nat,c<61→lb f h p (rdL t.fH p) c
   | .inr u=>u.1=b∧∀c:Nat,c<61→lb f h p (rdL t.fH p) c)
  (fun s=>61-s.2.toNat) (by
   rintro _ ⟨c,rfl,hc,hall⟩
   rcases Nat.lt_or_ge c 61 with hlt|hge
   ·rw[cell_eq hl hlt]
    by_cases hk:lb f h p (rdL t.fH p) c
    ·rw[if_pos (decide_eq_true hk)]
     refine .inl ⟨_,E,⟨c+1,E,hlt,fun j hj=>?_⟩,by dsimp only;omega,fun t h=>h⟩
     by_cases e:j=c
     ·rw[e];exact hk
     ·exact hall j (by omega)
    ·rw[if_neg (by rw[decide_eq_true_eq];exact hk)]
     exact .inr ⟨_,E,E,fun hh=>hk (hh c hlt)⟩
   ·unfold dj;dsimp only
    rw[ei (by omega)]
    exact .inr ⟨_,E,E,fun j hj=>hall j (by omega)⟩) (b,0) ⟨0,E,by omega,fun j hj=>by omega⟩
def qP (f h:Int) (t:TTimes) (p:Nat):Prop:=(rdL t.fH (p:Int)).length=61∧∀c:Nat,c<61→lb f h (p:Int) (rdL t.fH (p:Int)) c
theorem rows5_eq {r:TR} (hR:GoodR r) {f h:Int} {t:TTimes} (hlen:(t.fH.length:Int)=r.fPlaces):∃out,aK (fp r f h t) (false,0)=some out∧(match out with
  | .inl u=>u.1=false∧¬∀p:Nat,p<t.fH.length→qP f h t p
  | .inr u=>u.1=false∧∀p:Nat,p<t.fH.length→qP f h t p):=by
 have hpr:=hR.places
 exact bq (body:=fp r f h t)
  (fun s=>∃p:Nat,s=(false,(p:Int))∧p≤t.fH.length∧∀j:Nat,j<p→qP f h t j)
  (fun _ out=>match out with
   | .inl u=>u.1=false∧¬∀p:Nat,p<t.fH.length→qP f h t p
   | .inr u=>u.1=false∧∀p:Nat,p<t.fH.length→qP f h t p)
  (fun s=>t.fH.length-s.2.toNat) (by
   rintro _ ⟨p,rfl,hp,hall⟩
   unfold fp;dsimp only
   rcases Nat.lt_or_ge p t.fH.length with hlt|hge
   ·rw[ff (by omega),gPo (by omega),bj (by omega)]
    by_cases hl:(rdL t.fH (p:Int)).length=61
    ·rw[if_neg (by simp;omega)]
     obtain⟨out,ho,hp2⟩:=row_eq (f:=f) (h:=h) (p:=(p:Int)) (b:=false) hl
     rw[ho,oB]
     rcases out with u|u
     ·exact .inr ⟨_,E,hp2.1,fun hh=>hp2.2 (hh p hlt).2⟩
     ·refine .inl ⟨_,E,⟨p+1,by dsimp only at hp2 ⊢;rw[hp2.1],hlt,fun j hj=>?_⟩,by dsimp only;omega,fun t h=>h⟩
      by_cases e:j=p
      ·rw[e];exact⟨hl,hp2.2⟩
      ·exact hall j (by omega)
    ·rw[if_pos (by simp;omega)]
     exact .inr ⟨_,E,E,fun hh=>hl (hh p hlt).1⟩
   ·rw[ei (by omega)]
    exact .inr ⟨_,E,E,fun j hj=>hall j (by omega)⟩) (false,0) ⟨0,E,Nat.zero_le _,fun j hj=>by omega⟩
theorem rtrk_eq {r:TR} (hR:GoodR r) {f h:Int} {t:TTimes} (hlen:(t.fH.length:Int)=r.fPlaces) (hrow:∀p:Nat,p<t.fH.length→qP f h t p) {k:Nat} (hk:k<r.fTracks.length) {b:Bool}:∃out,aK (fo r t (b,(k:Int))) (b,0)=some out∧(match out with
  | .inl u=>u.1=false∧¬∀c:Nat,c<61→okC t r.fTracks[k] c
  | .inr u=>u.1=b∧∀c:Nat,c<61→okC t r.fTracks[k] c):=by
 have hT:=hR.trk _ (List.getElem_mem hk)
 have hfr:=hT.fr
 have hto:=hT.to
 have htl:=hT.toll
 obtain⟨x1,ex1⟩:∃n:Nat,(r.fTracks[k]).fFrom=(n:Int):=⟨(r.fTracks[k]).fFrom.toNat,by omega⟩
 obtain⟨x2,ex2⟩:∃n:Nat,(r.fTracks[k]).fTo=(n:Int):=⟨(r.fTracks[k]).fTo.toNat,by omega⟩
 have g1:=hrow x1 (by omega)
 have g2:=hrow x2 (by omega)
 unfold qP at g1 g2
 rw[←ex1]at g1
 rw[←ex2]at g2
 have g2l:=g2.1
 have g1l:=g1.1
 exact bq (body:=fo r t (b,(k:Int)))
  (fun s=>∃c:Nat,s=(b,(c:Int))∧c≤61∧∀j:Nat,j<c→okC t r.fTracks[k] j)
  (fun _ out=>match out with
   | .inl u=>u.1=false∧¬∀c:Nat,c<61→okC t r.fTracks[k] c
   | .inr u=>u.1=b∧∀c:Nat,c<61→okC t r.fTracks[k] c)
  (fun s=>61-s.2.toNat) (by
   rintro _ ⟨c,rfl,hc,hall⟩
   unfold fo;dsimp only
   rw[bh hk,ci (x:=(c:Int)+(r.fTracks[k]).fToll) (by omega) (by omega)]
   by_cases h60:(c:Int)+(r.fTracks[k]).fToll≤60
   ·have hrg:=(g1.2 c (by omega)).1
    rw[ff h60,gPo (by omega),gPo (by omega),gF,pq hT hrg,oB,gPo (by omega),gPo (by omega),bj (by omega)]
    have hiff:okC t r.fTracks[k] c↔¬(0≤qI r.fTracks[k] (rdL (rdL t.fH (r.fTracks[k]).fFrom) (c:Int))∧(rdL (rdL t.fH (r.fTracks[k]).fTo) ((c:Int)+(r.fTracks[k]).fToll)<0∨qI r.fTracks[k] (rdL (rdL t.fH (r.fTracks[k]).fFrom) (c:Int))<rdL (rdL t.fH (r.fTracks[k]).fTo) ((c:Int)+(r.fTracks[k]).fToll))):=by
     unfold okC tAt qI
     by_cases h0:rdL (rdL t.fH (r.fTracks[k]).fFrom) (c:Int)<0
     ·rw[if_pos h0]
      exact⟨fun _ hh=>by omega,fun _ q=>by omega⟩
     ·rw[if_neg h0]
      constructor
      ·intro q1 q2
       have:=q1 (by omega) h60 q2.1
       omega
      ·intro q1 q2 q3 q4
       exact⟨by omega,by omega⟩
    by_cases hk2:okC t r.fTracks[k] c
    ·rw[if_neg (by simp only[Bool.and_eq_true,Bool.or_eq_true,decide_eq_true_eq];exact hiff.1 hk2)]
     refine .inl ⟨_,E,⟨c+1,E,by omega,fun j hj=>?_⟩,by dsimp only;omega,fun t h=>h⟩
     by_cases e:j=c
     ·rw[e];exact hk2
     ·exact hall j (by omega)
    ·rw[if_pos (by simp only[Bool.and_eq_true,Bool.or_eq_true,decide_eq_true_eq];exact Classical.byContradiction fun q=>hk2 (hiff.2 q))]
     exact .inr ⟨_,E,E,fun hh=>hk2 (hh c (by omega))⟩
   ·rw[ei h60]
    refine .inr ⟨_,E,E,fun j hj=>?_⟩
    rcases Nat.lt_or_ge j c with h' | h'
    ·exact hall j h'
    ·exact fun _ q _=>by omega) (b,0) ⟨0,E,by omega,fun j hj=>by omega⟩
theorem qZ {r:TR} (hR:GoodR r) {f h:Int} (hf:0≤f∧f<r.fPlaces) {t:TTimes} (hlen:(t.fH.length:Int)=r.fPlaces):(∀p:Nat,p<t.fH.length→qP f h t p)↔(∀l∈t.fH,Falling l)∧∀n∈rdL t.fH f,0≤n∧n≤h:=by
 obtain⟨a,rfl⟩:∃a:Nat,f=(a:Int):=⟨f.toNat,by omega⟩
 constructor
 ·intro hh
  refine⟨fun l hl=>?_,fun n hn=>?_⟩
  ·obtain⟨p,hp,rfl⟩:=List.mem_iff_getElem.1 hl
   obtain⟨h1,h2⟩:=hh p hp
   rw[bh hp]at h1 h2
   refine⟨h1,fun c hc=>(h2 c (by omega)).1,fun c hc hc0=>?_⟩
   exact(h2 (c+1) (by omega)).2.2 (by omega) (by rw[show c+1-1=c by omega];exact hc0)
  ·obtain⟨h1,h2⟩:=hh a (by omega)
   obtain⟨c,hc,rfl⟩:=List.mem_iff_getElem.1 hn
   have:=(h2 c (by omega)).2.1 E
   rw[bh hc]at this
   exact this
 ·rintro⟨h1,h2⟩ p hp
  have hF:=h1 _ (List.getElem_mem hp)
  have hl:=hF.len
  refine⟨by rw[bh hp];exact hl,fun c hc=>⟨?_,fun e=>?_,fun h0 hc0=>?_⟩⟩
  ·rw[bh hp]
   exact hF.rng c (by omega)
  ·rw[bh hp]
   refine h2 _ ?_
   have:p=a:=by omega
   subst this
   rw[bh hp,bh (by omega)]
   exact List.getElem_mem _
  ·rw[bh hp]at hc0 ⊢
   have:=hF.fall (c-1) (by omega) hc0
   rw[show c-1+1=c by omega]at this
   exact this
theorem rtimed_eq {r:TR} (hR:GoodR r) {f h:Int} (hf:0≤f∧f<r.fPlaces) {t:TTimes}:iH r f h t=some (decide (Bounded r f h t)):=by
 have hpr:=hR.places
 have hrl:=hR.len
 unfold iH
 by_cases hlen:(t.fH.length:Int)=r.fPlaces
 ·rw[if_neg (by simpa using hlen)]
  obtain⟨out,ho,hp⟩:=rows5_eq hR (f:=f) (h:=h) hlen
  rw[ho,oB]
  rcases out with u|u
  ·dsimp only at hp ⊢
   rw[hp.1,decide_eq_false fun hB:Bounded r f h t=>hp.2 ((qZ hR hf hlen).2 ⟨hB.fall,hB.start⟩)]
  ·dsimp only at hp ⊢
   obtain⟨hu,hrow⟩:=hp
   obtain⟨hfall,hst⟩:=(qZ hR hf hlen).1 hrow
   rw[hu]
   have hinv:=bq (body:=gJ r t)
    (fun s=>∃k:Nat,s=(false,(k:Int))∧k≤r.fTracks.length∧∀i,(hi:i<r.fTracks.length)→i<k→∀c:Nat,c<61→okC t r.fTracks[i] c)
    (fun _ out=>match out with
     | .inl u=>u.1=false∧¬Bounded r f h t
     | .inr _=>Bounded r f h t)
    (fun s=>r.fTracks.length-s.2.toNat) (by
     rintro _ ⟨k,rfl,hk,hall⟩
     unfold gJ;dsimp only
     rcases Nat.lt_or_ge k r.fTracks.length with hlt|hge
     ·obtain⟨out,ho,hp⟩:=rtrk_eq hR hlen hrow hlt (b:=false)
      rw[ff (by omega),gPo (by omega),ho,oB,bj (by omega)]
      rcases out with u|u
      ·exact .inr ⟨_,E,hp.1,fun hB=>hp.2 (hB.step _ (List.getElem_mem hlt))⟩
      ·refine .inl ⟨_,E,⟨k+1,by dsimp only at hp ⊢;rw[hp.1],hlt,fun i hi h=>?_⟩,by dsimp only;omega,fun t h=>h⟩
       rcases Nat.lt_or_ge i k with h' | h'
       ·exact hall i hi h'
       ·have:i=k:=by omega
        subst this;exact hp.2
     ·rw[ei (by omega)]
      refine .inr ⟨_,E,hlen,hfall,hst,fun x hx=>?_⟩
      obtain⟨i,hi,rfl⟩:=List.mem_iff_getElem.1 hx
      exact hall i hi (by omega)) (false,0) ⟨0,E,Nat.zero_le _,fun i hi h=>by omega⟩
   obtain⟨out,hr,hp⟩:=hinv
   rw[hr,oB]
   rcases out with u|u
   ·dsimp only at hp ⊢
    rw[hp.1,decide_eq_false hp.2]
   ·dsimp only at hp ⊢
    rw[decide_eq_true hp]
 ·rw[if_pos (by simpa using hlen),decide_eq_false fun hB:Bounded r f h t=>hlen hB.len]
theorem lm {a:TTimes} (hl:a.fH.length≤1000) (hr:∀l∈a.fH,l.length≤1000):dB a a=some true:=by
 unfold dB
 rw[if_neg (by simp)]
 have hrun:=jH (body:=cl a a) (fun k=>(false,(k:Int))) a.fH.length (t:=.inr (false,(a.fH.length:Int))) (fun k hk=>by
  unfold cl;dsimp only
  rw[ff (by omega),gPo (by omega),gPo (by omega),rS _ (by rw[bh hk];have:=hr _ (List.getElem_mem hk);omega),oB,if_neg (by simp),bj (by omega)]) (by
  unfold cl;dsimp only
  rw[ei (by omega)])
 have h0:aK (cl a a) (false,0)=_:=hrun
 rw[h0,oB]
theorem rp {r:TR} (hR:GoodR r) {f h:Int} (hh:0≤h) {m:List (Ts × Tl)} (hI:LInv r f h (lP r) [] m) {o:List (List Int)} (hG:Grid r.fPlaces.toNat o) (hL:∀p c:Nat,(p:Int)<r.fPlaces→c≤60→Least r f h (p:Int) (c:Int) (At o p c)):o=(jX r m).fH:=by
 have hl:=hG.1
 refine List.ext_getElem (by unfold jX;simp;omega) fun p h1 h2=>?_
 have e1:(jX r m).fH[p]=qH m (p:Int):=by
  have:=lX (r:=r) (m:=m) (p:=(p:Int)) (by omega)
  rw[bh h2]at this
  exact this
 rw[e1]
 have hrow:=hG.2 _ (List.getElem_mem h1)
 refine list61 hrow (by simp[qH]) fun c hc=>?_
 rw[lB m _ hc]
 have h3:=hL p c (by omega) (by omega)
 have h4:=sJ hR hh hI (p:Int) (c:=c) (by omega)
 have e2:At o p c=rdL o[p] (c:Int):=by
  unfold At
  rw[List.getD_eq_getElem?_getD (l:=o),List.getElem?_eq_getElem h1,Option.getD_some,List.getD_eq_getElem?_getD,List.getElem?_eq_getElem (by omega),Option.getD_some,bh (by omega)]
 rw[←e2]
 exact h3.unique h4
theorem q8 {r:TR} (hR:GoodR r) {f h:Int} (hf:0≤f∧f<r.fPlaces) (hh:0≤h∧h≤16384) {m:List (Ts × Tl)} (hI:LInv r f h (lP r) [] m):dZ r f h=some (jX r m).fH:=by
 obtain⟨o,e,hG,hL⟩:=qV hR hf hh
 rw[e,rp hR hh.1 hI hG hL]
theorem ly {r:TR} {f h p:Int}:hU r f f h p=hU r f 0 h p:=by
 by_cases hv:j7 r=0
 ·have hp:=(iS.1 hv).places
  have e:inB r f f h p=inB r f 0 h p:=by
   unfold inB
   have:decide (0≤(0:Int)∧(0:Int)≤r.fPlaces-1)=true:=decide_eq_true (by omega)
   rw[this]
   by_cases h1:0≤f∧f≤r.fPlaces-1
   ·rw[decide_eq_true h1]
   ·rw[decide_eq_false h1];rfl
  unfold hU
  rw[e]
 ·unfold hU
  rw[if_pos hv,if_pos hv]
theorem pb {r:TR} (hr:∀t∈r.fTracks,t.fK.length≤1000000) (f h:Int) {t:TTimes} (ht:t.fH.length≤1000) (hrow:∀l∈t.fH,l.length≤1000):dT r f h t=cG r f h t:=by
 unfold dT cG
 rw[mf,kV hr,ly,oB,oB]
 by_cases hv:hU r f 0 h 0=0
 ·have hA:=gG.1 hv
  rw[rtimed_eq hA.good hA.fr,pH hA.good hA.fr ht hrow]
 ·rw[if_pos (by simpa using hv),if_pos (by simpa using hv)]
theorem rg {r:TR} (hR:GoodR r) {f to h:Int} (hh:0≤h∧h≤16384) {j:TJ} (hj:j.fLegs.length≤1000000):fa r f to h j=some (decide (Jny r f to h j)):=by
 rw[←oE hR hh hj,mH hR hh hj,tn hR hh hj]
 refine congrArg some ?_
 cases e:po r j.fLegs f h 0 with
 | none=>rfl
 | some x =>
  dsimp only
  have hlow:=trav_tr (r:=r) (f:=f) (h0:=h) j.fLegs (x:=x) .start e
  have:=hlow.low hR
  have e1:decide (0≤x.2.1∧x.2.1≤16384)=decide (x.2.1≤16384):=by
   rw[Bool.eq_iff_iff,decide_eq_true_eq,decide_eq_true_eq]
   omega
  rw[e1]
  cases x.1==to <;> cases x.2.1==j.fA <;> cases x.2.2==j.fToll <;> cases decide (x.2.1≤16384) <;> rfl
theorem nl {r:TR} (hr:∀t∈r.fTracks,t.fK.length≤1000000) (f to h:Int) {j:TJ} (hj:j.fLegs.length≤1000000):cZ r f to h j=bU r f to h j:=by
 unfold cZ bU
 rw[mf,kV hr,oB,oB]
 by_cases hv:hU r f to h 0=0
 ·have hA:=gG.1 hv
  rw[rg hA.good hA.hour hj,oE hA.good hA.hour hj]
 ·rw[if_pos (by simpa using hv),if_pos (by simpa using hv)]
set_option linter.unusedSimpArgs false
theorem oh:dR=some true:=by kernel_rfl
set_option linter.unusedSimpArgs false
open Classical
theorem rows_eq {t:TTimes} (hl:t.fH.length≤9223372036854775807):∃b,fm t=some b∧(b=true→t.fH.length≤20∧∀l∈t.fH,l.length≤80):=by
 have hinv:=bq (body:=eQ t)
  (fun s=>∃k:Nat,s=(false,(k:Int))∧k≤t.fH.length∧∀i,(hi:i<t.fH.length)→i<k→(t.fH[i]).length≤80)
  (fun _ out=>match out with
   | .inl u=>u.1=false
   | .inr _=>∀i,(hi:i<t.fH.length)→(t.fH[i]).length≤80)
  (fun s=>t.fH.length-s.2.toNat) (by
   rintro _ ⟨k,rfl,hk,hall⟩
   unfold eQ;dsimp only
   rcases Nat.lt_or_ge k t.fH.length with hlt|hge
   ·rw[ff (by omega),gPo (by omega),bh hlt,bj (by omega)]
    by_cases hc:80<(((t.fH[k]).length:Nat):Int)
    ·rw[if_pos (decide_eq_true hc)]
     exact .inr ⟨_,E,E⟩
    ·rw[if_neg (by simpa using hc)]
     refine .inl ⟨_,E,⟨k+1,E,hlt,fun i hi h=>?_⟩,by dsimp only;omega,fun t h=>h⟩
     rcases Nat.lt_or_ge i k with h' | h'
     ·exact hall i hi h'
     ·have:i=k:=by omega
      subst this;omega
   ·rw[ei (by omega)]
    exact .inr ⟨_,E,fun i hi=>hall i hi (by omega)⟩) (false,0) ⟨0,E,Nat.zero_le _,fun i hi h=>by omega⟩
 obtain⟨out,hr,hp⟩:=hinv
 unfold fm
 rw[hr,oB]
 rcases out with u|u
 ·exact⟨_,E,fun h=>by dsimp only at hp h;rw[hp]at h;cases h⟩
 ·refine⟨_,E,fun h=>⟨by have:=of_decide_eq_true h;omega,fun l hl=>?_⟩⟩
  obtain⟨i,hi,rfl⟩:=List.mem_iff_getElem.1 hl
  exact hp i hi
theorem mr {r:TR} (hr:∀t∈r.fTracks,t.fK.length≤1000000) (f to h:Int) {j:TJ} (hj:j.fLegs.length≤1000000):∃e,bU r f to h j=some e∧(e=0↔AskedOk r f to h 0∧po r j.fLegs f h 0=some (to,j.fA,j.fToll)∧(0≤j.fA∧j.fA≤16384)∧j.fToll≤60):=by
 unfold bU
 rw[kV hr,oB]
 by_cases hv:hU r f to h 0=0
 ·have hA:=gG.1 hv
  rw[if_neg (by simp[hv]),mH hA.good hA.hour hj,oB]
  cases e:po r j.fLegs f h 0 with
  | none=>exact⟨_,by rw[if_pos (by rfl)],⟨fun h=>(by cases h),fun h=>(by cases h.2.1)⟩⟩
  | some x =>
   obtain⟨a,b,c⟩:=x
   dsimp only
   by_cases hc:(((a==to&&b==j.fA)&&c==j.fToll)&&decide (0≤b∧b≤16384)&&decide (c≤60))=true
   ·rw[if_neg (by rw[hc];simp)]
    simp only[Bool.and_eq_true,beq_iff_eq,decide_eq_true_eq]at hc
    obtain⟨⟨⟨⟨rfl,rfl⟩,rfl⟩,h2⟩,h3⟩:=hc
    exact⟨_,E,⟨fun _=>⟨hA,E,h2,h3⟩,fun _=>E⟩⟩
   ·rw[if_pos (by rw[Bool.eq_false_iff.2 hc];rfl)]
    refine⟨_,E,⟨fun h=>(by cases h),fun h=>absurd ?_ hc⟩⟩
    obtain⟨_,h1,h2,h3⟩:=h
    cases h1
    simp only[beq_self_eq_true,Bool.true_and,Bool.and_eq_true,decide_eq_true_eq]
    exact⟨h2,h3⟩
 ·rw[if_pos (by simpa using hv)]
  exact⟨_,E,⟨fun h=>absurd h hv,fun h=>absurd (gG.2 h.1) hv⟩⟩
set_option linter.unusedSimpArgs false
open Classical
theorem CartTimes_true (r:TR) (f to h:Int) (j:TJ) (t:TTimes) (hr:TRoads_rg r) (h1:Rg_i64 f) (h2:Rg_i64 to) (h3:Rg_i64 h) (hj:ru j) (ht:TTimes_rg t):dN r f to h j t=some true:=by
 obtain⟨b1,e1,hfew⟩:=few_eq (r:=r) hr.2.1
 obtain⟨b2,e2,hrows⟩:=rows_eq (t:=t) ht.1
 unfold dN gc
 rw[e1,e2]
 simp only[oB,orB]
 by_cases hb:((!b1 || !decide (((j.fLegs.length:Nat):Int)≤40)) || !b2)=true
 ·rw[if_pos hb,oh];rfl
 ·rw[if_neg hb]
  have hb':=Bool.eq_false_iff.2 hb
  simp only[Bool.or_eq_false_iff,Bool.not_eq_false',decide_eq_true_eq,decide_eq_false_iff_not]at hb'
  obtain⟨⟨rfl,hjl⟩,rfl⟩:=hb'
  have hcl:∀t∈r.fTracks,t.fK.length≤1000000:=fun t ht=>by have:=hfew E t ht;omega
  obtain⟨ht1,ht2⟩:=hrows E
  obtain⟨e,t0,he1,he2,he3⟩:∃(e:Int) (t0:TTimes),cY r f h=some (t0,e)∧d6 r f h=some ⟨t0,e⟩∧dB t0 t0=some true:=by
   by_cases hv:hU r f f h 0=0
   ·have hA:=gG.1 hv
    obtain⟨m,hm,hI,hE⟩:=rD hcl hA
    have hBo:=o7 hA.good hA.fr hA.hour hI
    have hlen:=hBo.len
    have hpr:=hA.good.places
    refine⟨_,_,hE,?_,lm (by omega) fun l hl=>by have:=(hBo.fall l hl).len;omega⟩
    unfold d6
    rw[mf,←ly,hv,oB,if_neg (by simp),q8 hA.good hA.fr hA.hour hI]
    rfl
   ·refine⟨hU r f f h 0,⟨[]⟩,?_,?_,lm (by simp) fun l hl=>by cases hl⟩
    ·unfold cY
     rw[kV hcl,oB,if_pos (by simpa using hv)]
    ·unfold d6
     rw[mf,←ly,oB,if_pos (by simpa using hv)]
  obtain⟨ej,hej,_⟩:=mr hcl f to h (j:=j) (by omega)
  have hej2:=nl hcl f to h (j:=j) (by omega)
  rw[hej]at hej2
  have hct:=pb hcl f h (t:=t) (by omega) fun l hl=>by have:=ht2 l hl;omega
  obtain⟨ec,hec⟩:∃e,cG r f h t=some e:=by
   unfold cG
   rw[kV hcl,oB]
   by_cases hv:hU r f f h 0=0
   ·have hA:=gG.1 hv
    rw[if_neg (by simp[hv]),pH hA.good hA.fr (by omega) fun l hl=>by have:=ht2 l hl;omega]
    rw[oB]
    split
    ·exact⟨_,E⟩
    ·exact⟨_,E⟩
   ·rw[if_pos (by simpa using hv)]
    exact⟨_,E⟩
  rw[hec]at hct
  rw[he1,he2,oh,hej,hej2,hec,hct]
  simp only[oB,if_true,beq_self_eq_true,he3,Bool.and_self]
end Go.Proofs.YthndghnkebboaaaGreat
