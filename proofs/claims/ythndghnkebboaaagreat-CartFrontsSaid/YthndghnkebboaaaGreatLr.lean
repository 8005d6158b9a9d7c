import Derived.Test.YthndghnkebboaaaGreatYn
import Derived.Test.YthndghnkebboaaaGreatP
import Derived.KernelRfl
set_option linter.unusedSimpArgs false
set_option linter.unusedVariables false
namespace Go.Proofs.YthndghnkebboaaaGreat
open Classical
theorem mw (r:TR) (f t h p:Int):g7 r f t h p=some (lD r f t h p):=by
 unfold g7 lD inB
 rw[rCheck_eq,oB]
 by_cases hv:lb r=0
 ·have hR:=ko.1 hv
  have hp:=hR.places
  rw[if_neg (by simp[hv]),if_neg (by simp[hv])]
  simp only[g5,m3,oB,bV (show -9223372036854775808≤r.fPlaces-1 by omega) (show r.fPlaces-1≤9223372036854775807 by omega)]
  by_cases c1:0≤f∧f≤r.fPlaces-1 <;> by_cases c2:0≤t∧t≤r.fPlaces-1 <;> by_cases c3:0≤h∧h≤16384 <;> by_cases c4:0≤p∧p≤60 <;> simp[c1,c2,c3,c4]
 ·rw[if_pos (by simpa using hv),if_pos hv]
def ry (t:TT) (h:Int):Int:=if h<0 then -1 else arr t h
theorem qh {n:Int} {t:TT} (ht:GoodT n t) {h:Int} (hh : -1≤h∧h≤16384):fq t h=some (ry t h):=by
 unfold fq ry
 by_cases h0:h<0
 ·rw[if_pos (decide_eq_true h0),if_pos h0]
 ·rw[if_neg (by simpa using h0),if_neg h0,renter_eq ht.spans (by have:=ht.few;omega),oB]
  have h1:=rt ht.spans (h:=h) (by omega)
  have h2:=iM t.fK h
  have hl:=ht.long
  unfold arr nl
  by_cases hc:dM t.fK h≤16384
  ·rw[if_pos (decide_eq_true ⟨by omega,hc⟩),bV (by omega) (by omega)]
   by_cases hc2:dM t.fK h+t.fLong≤16384
   ·rw[if_neg (by simp;omega),if_pos hc2]
   ·rw[if_pos (by simp;omega),if_neg hc2]
  ·have e:decide (0≤dM t.fK h∧dM t.fK h≤16384)=false:=decide_eq_false (by omega)
   rw[e,if_neg (show ¬dM t.fK h+t.fLong≤16384 by omega)]
   rfl
def At (o:List (List Int)) (p c:Nat):Int:=(o.getD p []).getD c 0
def Grid (n:Nat) (o:List (List Int)):Prop:=o.length=n∧∀l∈o,l.length=61
def wv (v:Int):Nat:=if v<0 then 16385 else v.toNat
def pot5 (o:List (List Int)):Nat:=(o.map fun l=>(l.map wv).sum).sum
def oU (o:List (List Int)) (p c:Nat) (v:Int):List (List Int):=o.set p ((o.getD p []).set c v)
theorem Grid.row {n:Nat} {o:List (List Int)} (hG:Grid n o) {p:Nat} (hp:p<n):(o.getD p []).length=61:=by
 have hl:p<o.length:=by rw[hG.1];exact hp
 rw[List.getD_eq_getElem?_getD,List.getElem?_eq_getElem hl]
 exact hG.2 _ (List.getElem_mem hl)
theorem Grid.put {n:Nat} {o:List (List Int)} (hG:Grid n o) {p c:Nat} (v:Int) (hp:p<n):Grid n (oU o p c v):=by
 refine⟨by unfold oU;rw[List.length_set];exact hG.1,fun l hl=>?_⟩
 rcases List.mem_or_eq_of_mem_set hl with h|rfl
 ·exact hG.2 l h
 ·rw[List.length_set];exact hG.row hp
theorem At_put {n:Nat} {o:List (List Int)} (hG:Grid n o) {p c:Nat} (v:Int) (hp:p<n) (hc:c≤60) (p' c':Nat):At (oU o p c v) p' c'=if p'=p∧c'=c then v else At o p' c':=by
 have hl:p<o.length:=by rw[hG.1];exact hp
 have hr:=hG.row hp
 unfold At oU
 by_cases h1:p'=p
 ·subst h1
  have e1:(o.set p' ((o.getD p' []).set c v)).getD p' []=(o.getD p' []).set c v:=by rw[List.getD_eq_getElem?_getD (l:=o.set p' _),List.getElem?_set_self hl,Option.getD_some]
  rw[e1]
  by_cases h2:c'=c
  ·subst h2
   rw[if_pos ⟨E,E⟩,List.getD_eq_getElem?_getD,List.getElem?_set_self (by omega),Option.getD_some]
  ·rw[if_neg (fun h=>h2 h.2),List.getD_eq_getElem?_getD,List.getElem?_set_ne (fun e=>h2 e.symm),←List.getD_eq_getElem?_getD]
 ·rw[if_neg (fun h=>h1 h.1)]
  have e1:(o.set p ((o.getD p []).set c v)).getD p' []=o.getD p' []:=by rw[List.getD_eq_getElem?_getD (l:=o.set p _),List.getElem?_set_ne (fun e=>h1 e.symm),←List.getD_eq_getElem?_getD]
  rw[e1]
theorem sK:∀(l:List Nat) (i v:Nat) (h:i<l.length),(l.set i v).sum+l[i]=l.sum+v
 | x::l,0,v,_=>by simp;omega
 | x::l,i+1,v,h=>by
  have:=sK l i v (by simpa using h)
  simp only[List.set_cons_succ,List.sum_cons,List.getElem_cons_succ]
  omega
theorem pot5_put {n:Nat} {o:List (List Int)} (hG:Grid n o) {p c:Nat} {v:Int} (hp:p<n) (hc:c≤60) (hw:wv v<wv (At o p c)):pot5 (oU o p c v)<pot5 o:=by
 have hl:p<o.length:=by rw[hG.1];exact hp
 have hr:=hG.row hp
 have e0:o.getD p []=o[p]:=by rw[List.getD_eq_getElem?_getD,List.getElem?_eq_getElem hl];rfl
 have hc2:c<(o[p]).length:=by rw[←e0];omega
 have eA:At o p c=(o[p])[c]:=by unfold At;rw[e0,List.getD_eq_getElem?_getD,List.getElem?_eq_getElem hc2];rfl
 have s1:=sK ((o[p]).map wv) c (wv v) (by rw[List.length_map];exact hc2)
 have s2:=sK (o.map fun l=>(l.map wv).sum) p ((((o[p]).set c v).map wv).sum) (by rw[List.length_map];exact hl)
 rw[List.getElem_map,←List.map_set]at s1 s2
 rw[←eA]at s1
 unfold pot5 oU
 rw[e0]
 omega
theorem At_rd (o:List (List Int)) (p c:Nat):rdL (rdL o (p:Int)) (c:Int)=At o p c:=rfl
theorem r8 (o:List (List Int)) (p:Nat):rdL o (p:Int)=o.getD p []:=rfl
theorem te {o:List (List Int)} {p c:Nat} {v:Int} (hl:p<o.length) (p':Nat):(oU o p c v).getD p' []=if p'=p then(o.getD p []).set c v else o.getD p' []:=by
 unfold oU
 by_cases h1:p'=p
 ·subst h1
  rw[if_pos E,List.getD_eq_getElem?_getD (l:=o.set p' _),List.getElem?_set_self hl,Option.getD_some]
 ·rw[if_neg h1,List.getD_eq_getElem?_getD (l:=o.set p _),List.getElem?_set_ne (fun e=>h1 e.symm),←List.getD_eq_getElem?_getD]
theorem pd (l:List Int) (c c':Nat) (v:Int) (hc:c<l.length):(l.set c v).getD c' 0=if c'=c then v else l.getD c' 0:=by
 by_cases h:c'=c
 ·subst h
  rw[if_pos E,List.getD_eq_getElem?_getD,List.getElem?_set_self hc,Option.getD_some]
 ·rw[if_neg h,List.getD_eq_getElem?_getD,List.getElem?_set_ne (fun e=>h e.symm),←List.getD_eq_getElem?_getD]
theorem init2 {r:TR} {f h:Int} {n:Nat} (hn:r.fPlaces=(n:Int)) (hn2:n≤16) {p:Nat} (hp:p<n) {o0 oX:List (List Int)} (hl0:o0.length=n) (hrow:(o0.getD p []).length=61):∃o,aJ (dU r f h ((p:Int),oX)) (0,o0)=some (61,o)∧o.length=n∧(o.getD p []).length=61∧(∀p',p'≠p→o.getD p' []=o0.getD p' [])∧∀c,c<61→At o p c=if(p:Int)=f then h else -1:=by
 have hinv:=bf (body:=dU r f h ((p:Int),oX))
  (fun s=>∃(c:Nat) (o:List (List Int)),s=((c:Int),o)∧c≤61∧o.length=n∧(o.getD p []).length=61∧(∀p',p'≠p→o.getD p' []=o0.getD p' [])∧∀c',c'<c→At o p c'=if(p:Int)=f then h else -1)
  (fun _ t=>∃o,t=(61,o)∧o.length=n∧(o.getD p []).length=61∧(∀p',p'≠p→o.getD p' []=o0.getD p' [])∧∀c,c<61→At o p c=if(p:Int)=f then h else -1)
  (fun s=>61-s.1.toNat) (by
   rintro _ ⟨c,o,rfl,hc,h1,h2,h3,h4⟩
   unfold dU;dsimp only
   have htn:Int.toNat r.fPlaces=n:=by rw[hn];rfl
   rw[htn]
   rcases Nat.lt_or_ge c 61 with hlt|hge
   ·have g1:(0:Int)≤(p:Int)∧(p:Int)<((n:Nat):Int):=by omega
    rw[dl (by omega),gPo g1,r8,gPo (by omega),aZ (by omega),Int.toNat_natCast,Int.toNat_natCast]
    have e1:o.set p ((o.getD p []).set c (-1))=oU o p c (-1):=rfl
    rw[e1]
    have hl1:(oU o p c (-1)).length=n:=by unfold oU;rw[List.length_set];exact h1
    have hg1:=te (c:=c) (v:=-1) (show p<o.length by omega)
    have hr1:((oU o p c (-1)).getD p []).length=61:=by rw[hg1,if_pos E,List.length_set];exact h2
    by_cases hf:(p:Int)=f
    ·rw[if_pos (by rw[beq_iff_eq];exact hf),gPo g1,r8,gPo (by omega)]
     have e2:(oU o p c (-1)).set p (((oU o p c (-1)).getD p []).set c h)=oU (oU o p c (-1)) p c h:=rfl
     rw[e2]
     have hg2:=te (c:=c) (v:=h) (show p<(oU o p c (-1)).length by omega)
     refine .inl ⟨_,E,⟨c+1,_,E,hlt,by unfold oU;rw[List.length_set];exact hl1,by rw[hg2,if_pos E,List.length_set];exact hr1,fun p' hne=>by rw[hg2,if_neg hne,hg1,if_neg hne];exact h3 p' hne,fun c' hc'=>?_⟩,by dsimp only;omega,fun t h=>h⟩
     unfold At
     rw[hg2,if_pos E,pd _ _ _ _ (by omega),hg1,if_pos E,pd _ _ _ _ (by omega),if_pos hf]
     by_cases e:c'=c
     ·rw[if_pos e]
     ·rw[if_neg e,if_neg e]
      have:=h4 c' (by omega)
      rw[if_pos hf]at this
      exact this
    ·rw[if_neg (by rw[beq_iff_eq];exact hf)]
     refine .inl ⟨_,E,⟨c+1,_,E,hlt,hl1,hr1,fun p' hne=>by rw[hg1,if_neg hne];exact h3 p' hne,fun c' hc'=>?_⟩,by dsimp only;omega,fun t h=>h⟩
     unfold At
     rw[hg1,if_pos E,pd _ _ _ _ (by omega),if_neg hf]
     by_cases e:c'=c
     ·rw[if_pos e]
     ·rw[if_neg e]
      have:=h4 c' (by omega)
      rw[if_neg hf]at this
      exact this
   ·have:c=61:=by omega
    subst this
    rw[cN (by omega)]
    exact .inr ⟨_,E,o,E,h1,h2,h3,h4⟩) (0,o0) ⟨0,o0,E,by omega,hl0,hrow,fun _ _=>E,fun c hc=>by omega⟩
 obtain⟨t,ht,o,rfl,hh⟩:=hinv
 exact⟨o,ht,hh⟩
def initV (f h:Int) (p c:Nat):Int:=if(p:Int)=f then h else -1
theorem init1 {r:TR} {f h:Int} {n:Nat} (hn:r.fPlaces=(n:Int)) (hn2:n≤16):∃o,aJ (d8 r f h) (0,List.replicate n [])=some (r.fPlaces,o)∧Grid n o∧∀p c,p<n→c<61→At o p c=initV f h p c:=by
 have htn:Int.toNat r.fPlaces=n:=by rw[hn];rfl
 have hinv:=bf (body:=d8 r f h)
  (fun s=>∃(p:Nat) (o:List (List Int)),s=((p:Int),o)∧p≤n∧o.length=n∧∀p',p'<p→(o.getD p' []).length=61∧∀c,c<61→At o p' c=initV f h p' c)
  (fun _ t=>∃o,t=(r.fPlaces,o)∧o.length=n∧∀p',p'<n→(o.getD p' []).length=61∧∀c,c<61→At o p' c=initV f h p' c)
  (fun s=>n-s.1.toNat) (by
   rintro _ ⟨p,o,rfl,hp,h1,h2⟩
   unfold d8;dsimp only
   rw[htn]
   rcases Nat.lt_or_ge p n with hlt|hge
   ·have hset:(o.set p (List.replicate (Int.toNat 61) 0)).length=n:=by rw[List.length_set];exact h1
    have hrow:∀p',(o.set p (List.replicate (Int.toNat 61) (0:Int))).getD p' []=if p'=p then List.replicate 61 0 else o.getD p' []:=fun p'=>by
     by_cases e:p'=p
     ·subst e
      rw[if_pos E,List.getD_eq_getElem?_getD (l:=o.set p' _),List.getElem?_set_self (by omega),Option.getD_some]
      rfl
     ·rw[if_neg e,List.getD_eq_getElem?_getD (l:=o.set p _),List.getElem?_set_ne (fun e'=>e e'.symm),←List.getD_eq_getElem?_getD]
    rw[dl (by omega),gPo (by decide),gPo (by omega),Int.toNat_natCast,aZ (by omega)]
    obtain⟨o2,e2,k1,k2,k3,k4⟩:=init2 (f:=f) (h:=h) hn hn2 hlt (oX:=o) hset (by rw[hrow,if_pos E];rfl)
    rw[e2,oB]
    refine .inl ⟨_,E,⟨p+1,_,E,hlt,k1,fun p' hp'=>?_⟩,by dsimp only;omega,fun t h=>h⟩
    by_cases e:p'=p
    ·subst e
     exact⟨k2,k4⟩
    ·have:=h2 p' (by omega)
     unfold At at this ⊢
     rw[k3 p' e,hrow,if_neg e]
     exact this
   ·have:p=n:=by omega
    subst this
    rw[cN (by omega)]
    exact .inr ⟨_,E,o,by rw[hn],h1,h2⟩) (0,List.replicate n []) ⟨0,_,E,Nat.zero_le _,List.length_replicate,fun p' hp'=>by omega⟩
 obtain⟨t,ht,o,rfl,h1,h2⟩:=hinv
 refine⟨o,ht,⟨h1,fun l hl=>?_⟩,fun p c hp hc=>(h2 p hp).2 c hc⟩
 obtain⟨i,hi,rfl⟩:=List.mem_iff_getElem.1 hl
 have:=(h2 i (by omega)).1
 rw[List.getD_eq_getElem?_getD,List.getElem?_eq_getElem hi]at this
 exact this
structure TInv (r:TR) (f h:Int) (n:Nat) (o:List (List Int)):Prop where
 grid:Grid n o
 val:∀p c,p<n→c<61 → -1≤At o p c∧At o p c≤16384
 att:∀p c:Nat,p<n→c<61→0≤At o p c→∃c',c'≤(c:Int)∧Tr r f h (p:Int) c' (At o p c)
 start:∀p c:Nat,(p:Int)=f→c<61→0≤At o p c∧At o p c≤h
theorem TInv.put {r:TR} {f h:Int} {n:Nat} {o:List (List Int)} (hT:TInv r f h n o) {p c:Nat} {v:Int} (hp:p<n) (hc:c<61) (hv:0≤v∧v≤16384) (hs:At o p c<0∨v<At o p c) (ha:∃c',c'≤(c:Int)∧Tr r f h (p:Int) c' v):TInv r f h n (oU o p c v)∧pot5 (oU o p c v)<pot5 o:=by
 have hA:=At_put hT.grid v hp (show c≤60 by omega)
 refine⟨⟨hT.grid.put v hp,fun p' c' hp' hc'=>?_,fun p' c' hp' hc'=>?_,fun p' c' hp' hc'=>?_⟩,pot5_put hT.grid hp (by omega) ?_⟩
 ·rw[hA]
  by_cases e:p'=p∧c'=c
  ·rw[if_pos e];omega
  ·rw[if_neg e];exact hT.val p' c' hp' hc'
 ·rw[hA]
  by_cases e:p'=p∧c'=c
  ·rw[if_pos e,e.1,e.2];exact fun _=>ha
  ·rw[if_neg e];exact hT.att p' c' hp' hc'
 ·rw[hA]
  by_cases e:p'=p∧c'=c
  ·rw[if_pos e]
   have:=hT.start p' c' hp' hc'
   rw[e.1,e.2]at this
   omega
  ·rw[if_neg e];exact hT.start p' c' hp' hc'
 ·have:=hT.val p c hp hc
  unfold wv
  split <;> split <;> omega
structure Prog (r:TR) (f h:Int) (n:Nat) (ch0:Bool) (o0:List (List Int)) (ch:Bool) (o:List (List Int)):Prop where
 inv:TInv r f h n o
 le:pot5 o≤pot5 o0
 same:ch=false→ch0=false∧o=o0
 less:ch=true→ch0=true∨pot5 o<pot5 o0
theorem Prog.refl {r:TR} {f h:Int} {n:Nat} {ch:Bool} {o:List (List Int)} (hT:TInv r f h n o):Prog r f h n ch o ch o:=⟨hT,Nat.le_refl _,fun e=>⟨e,E⟩,fun e=>.inl e⟩
theorem Prog.trans {r:TR} {f h:Int} {n:Nat} {c0 c1 c2:Bool} {o0 o1 o2:List (List Int)} (a:Prog r f h n c0 o0 c1 o1) (b:Prog r f h n c1 o1 c2 o2):Prog r f h n c0 o0 c2 o2 :=
 ⟨b.inv,Nat.le_trans b.le a.le,fun e=>by
  obtain⟨e1,e2⟩:=b.same e
  obtain⟨e3,e4⟩:=a.same e1
  exact⟨e3,e2.trans e4⟩,fun e=>by
  rcases b.less e with h1|h1
  ·rcases a.less h1 with h2|h2
   ·exact .inl h2
   ·have:=b.le;exact .inr (by omega)
  ·have:=a.le;exact .inr (by omega)⟩
theorem Prog.put {r:TR} {f h:Int} {n:Nat} {c0:Bool} {o0:List (List Int)} {ch:Bool} {o:List (List Int)} (a:Prog r f h n c0 o0 ch o) {p c:Nat} {v:Int} (hp:p<n) (hc:c<61) (hv:0≤v∧v≤16384) (hs:At o p c<0∨v<At o p c) (ha:∃c',c'≤(c:Int)∧Tr r f h (p:Int) c' v):Prog r f h n c0 o0 true (oU o p c v):=by
 obtain⟨h1,h2⟩:=a.inv.put hp hc hv hs ha
 have:=a.le
 exact⟨h1,by omega,(fun e=>by cases e),fun _=>.inr (by omega)⟩
def qD (o:List (List Int)) (p c:Nat):Prop:=0≤At o p (c-1)→0≤At o p c∧At o p c≤At o p (c-1)
theorem l7_ok {r:TR} {f h:Int} {n:Nat} (hn:r.fPlaces=(n:Int)) {p:Nat} (hp:p<n) {ch0 x:Bool} {o0 y:List (List Int)} (hT:TInv r f h n o0):∃ch o,aJ (dS r (x,(p:Int),y)) (ch0,1,o0)=some (ch,61,o)∧Prog r f h n ch0 o0 ch o∧(ch=false→∀c,1≤c→c<61→qD o0 p c):=by
 have htn:Int.toNat r.fPlaces=n:=by rw[hn];rfl
 have hinv:=bf (body:=dS r (x,(p:Int),y))
  (fun s=>∃(k:Nat) (ch:Bool) (o:List (List Int)),s=(ch,(k:Int),o)∧1≤k∧k≤61∧Prog r f h n ch0 o0 ch o∧(ch=false→∀c,1≤c→c<k→qD o0 p c))
  (fun _ t=>∃ch o,t=(ch,61,o)∧Prog r f h n ch0 o0 ch o∧(ch=false→∀c,1≤c→c<61→qD o0 p c))
  (fun s=>61-s.2.1.toNat) (by
   rintro _ ⟨k,ch,o,rfl,hk1,hk,hP,hM⟩
   unfold dS;dsimp only
   rw[htn]
   rcases Nat.lt_or_ge k 61 with hlt|hge
   ·have hrow:=hP.inv.grid.row hp
    have ek:w64 ((k:Int)-1)=((k-1:Nat):Int):=by rw[bV (by omega) (by omega)];omega
    have g1:(0:Int)≤(p:Int)∧(p:Int)<((n:Nat):Int):=by omega
    rw[dl (by omega),gPo g1,ek,At_rd,At_rd,r8,gPo (by omega),gPo g1,gPo (by omega)]
    unfold gn
    rw[oB,gPo g1,gPo g1,gPo (by omega),gPo (by omega),aZ (by omega),Int.toNat_natCast,Int.toNat_natCast]
    have v1:=hP.inv.val p (k-1) hp (by omega)
    have v2:=hP.inv.val p k hp hlt
    by_cases hc:0≤At o p (k-1)∧(At o p k<0∨At o p (k-1)<At o p k)
    ·rw[if_pos (by rw[Bool.and_eq_true,Bool.or_eq_true,decide_eq_true_eq,decide_eq_true_eq,decide_eq_true_eq];exact hc)]
     obtain⟨c',q1,q2⟩:=hP.inv.att p (k-1) hp (by omega) hc.1
     exact .inl ⟨_,E,⟨k+1,true,oU o p k (At o p (k-1)),E,by omega,hlt,hP.put hp hlt ⟨hc.1,v1.2⟩ hc.2 ⟨c',by omega,q2⟩,fun e=>by cases e⟩,by dsimp only;omega,fun t h=>h⟩
    ·rw[if_neg (by rw[Bool.and_eq_true,Bool.or_eq_true,decide_eq_true_eq,decide_eq_true_eq,decide_eq_true_eq];exact hc)]
     refine .inl ⟨_,E,⟨k+1,ch,o,E,by omega,hlt,hP,fun e c h1 h2=>?_⟩,by dsimp only;omega,fun t h=>h⟩
     by_cases e2:c=k
     ·subst e2
      obtain⟨_,rfl⟩:=hP.same e
      intro h0
      by_cases h5:At o p c<0
      ·exact absurd ⟨h0,.inl h5⟩ hc
      ·by_cases h6:At o p (c-1)<At o p c
       ·exact absurd ⟨h0,.inr h6⟩ hc
       ·omega
     ·exact hM e c h1 (by omega)
   ·have:k=61:=by omega
    subst this
    rw[cN (by omega)]
    exact .inr ⟨_,E,ch,o,E,hP,hM⟩) (ch0,1,o0) ⟨1,ch0,o0,E,Nat.le_refl _,by omega,.refl hT,fun _ c h1 h2=>by omega⟩
 obtain⟨t,ht,ch,o,rfl,hh⟩:=hinv
 exact⟨ch,o,ht,hh⟩
theorem l6_ok {r:TR} {f h:Int} {n:Nat} (hn:r.fPlaces=(n:Int)) (hn2:n≤16) {ch0:Bool} {o0:List (List Int)} (hT:TInv r f h n o0):∃ch o,aJ (dQ r) (ch0,0,o0)=some (ch,r.fPlaces,o)∧Prog r f h n ch0 o0 ch o∧(ch=false→∀p c,p<n→1≤c→c<61→qD o0 p c):=by
 have hinv:=bf (body:=dQ r)
  (fun s=>∃(p:Nat) (ch:Bool) (o:List (List Int)),s=(ch,(p:Int),o)∧p≤n∧Prog r f h n ch0 o0 ch o∧(ch=false→∀p' c,p'<p→1≤c→c<61→qD o0 p' c))
  (fun _ t=>∃ch o,t=(ch,r.fPlaces,o)∧Prog r f h n ch0 o0 ch o∧(ch=false→∀p c,p<n→1≤c→c<61→qD o0 p c))
  (fun s=>n-s.2.1.toNat) (by
   rintro _ ⟨p,ch,o,rfl,hp,hP,hM⟩
   unfold dQ;dsimp only
   rcases Nat.lt_or_ge p n with hlt|hge
   ·rw[dl (by omega)]
    obtain⟨ch2,o2,e2,hP2,hM2⟩:=l7_ok hn hlt (ch0:=ch) (x:=ch) (y:=o) hP.inv
    rw[e2,oB,aZ (by omega)]
    refine .inl ⟨_,E,⟨p+1,ch2,o2,E,hlt,hP.trans hP2,fun e p' c h1 h2 h3=>?_⟩,by dsimp only;omega,fun t h=>h⟩
    obtain⟨e3,e4⟩:=hP2.same e
    obtain⟨_,e6⟩:=hP.same e3
    by_cases e5:p'=p
    ·subst e5
     have:=hM2 e c h2 h3
     rw[e6]at this
     exact this
    ·exact hM e3 p' c (by omega) h2 h3
   ·have:p=n:=by omega
    subst this
    rw[cN (by omega)]
    exact .inr ⟨_,E,ch,o,by rw[hn],hP,hM⟩) (ch0,0,o0) ⟨0,ch0,o0,E,Nat.zero_le _,.refl hT,fun _ p c h1=>by omega⟩
 obtain⟨t,ht,ch,o,rfl,hh⟩:=hinv
 exact⟨ch,o,ht,hh⟩
def rs (o:List (List Int)) (t:TT) (c:Nat):Prop:=(c:Int)+t.fToll≤60→0≤ry t (At o t.fFrom.toNat c)→0≤At o t.fTo.toNat (c+t.fToll.toNat)∧At o t.fTo.toNat (c+t.fToll.toNat)≤ry t (At o t.fFrom.toNat c)
theorem arrV_tr {r:TR} (hR:GoodR r) {f h:Int} {t:TT} (ht:t∈r.fTracks) {c:Int} {a:Int} (hh:0≤ry t a) (htr:Tr r f h t.fFrom c a):Tr r f h t.fTo (c+t.fToll) (ry t a)∧ry t a≤16384:=by
 unfold ry at hh ⊢
 by_cases h0:a<0
 ·rw[if_pos h0]at hh;omega
 ·rw[if_neg h0]at hh ⊢
  obtain⟨h1,h2⟩:=pk hh
  rw[h2]
  exact⟨.step t _ htr ht E (iM _ _) (mu a (hR.trk t ht).spans),h1⟩
theorem l5_ok {r:TR} (hR:GoodR r) {f h:Int} {n:Nat} (hn:r.fPlaces=(n:Int)) {i:Nat} (hi:i<r.fTracks.length) {ch0 x:Bool} {o0 y:List (List Int)} (hT:TInv r f h n o0):∃ch o c9,aJ (dP r (x,(i:Int),y)) (ch0,0,o0)=some (ch,c9,o)∧Prog r f h n ch0 o0 ch o∧(ch=false→∀c:Nat,rs o0 r.fTracks[i] c):=by
 have htn:Int.toNat r.fPlaces=n:=by rw[hn];rfl
 have htm:=List.getElem_mem hi
 have hG:=hR.trk _ htm
 have hfr:=hG.fr
 have hto:=hG.to
 have htl:=hG.toll
 obtain⟨a,ha⟩:∃a:Nat,(r.fTracks[i]).fFrom=(a:Int):=⟨(r.fTracks[i]).fFrom.toNat,by omega⟩
 obtain⟨b,hb⟩:∃b:Nat,(r.fTracks[i]).fTo=(b:Int):=⟨(r.fTracks[i]).fTo.toNat,by omega⟩
 obtain⟨w,hw⟩:∃w:Nat,(r.fTracks[i]).fToll=(w:Int):=⟨(r.fTracks[i]).fToll.toNat,by omega⟩
 have hinv:=bf (body:=dP r (x,(i:Int),y))
  (fun s=>∃(k:Nat) (ch:Bool) (o:List (List Int)),s=(ch,(k:Int),o)∧k≤61∧Prog r f h n ch0 o0 ch o∧(ch=false→∀c:Nat,c<k→rs o0 r.fTracks[i] c))
  (fun _ t=>∃ch o c9,t=(ch,c9,o)∧Prog r f h n ch0 o0 ch o∧(ch=false→∀c:Nat,rs o0 r.fTracks[i] c))
  (fun s=>61-s.2.1.toNat) (by
   rintro _ ⟨k,ch,o,rfl,hk,hP,hM⟩
   unfold dP;dsimp only
   rw[htn,aU hi,g0]
   have ew:w64 ((k:Int)+(r.fTracks[i]).fToll)=((k+w:Nat):Int):=by rw[bV (by omega) (by omega)];omega
   rw[ew]
   by_cases hc:k+w≤60
   ·have hrA:=hP.inv.grid.row (show a<n by omega)
    have hrB:=hP.inv.grid.row (show b<n by omega)
    have v1:=hP.inv.val a k (by omega) (by omega)
    have v2:=hP.inv.val b (k+w) (by omega) (by omega)
    rw[dl (by omega),gPo (by omega),ha,At_rd,r8,gPo (by omega),qh hG v1,oB,gPo (by omega),hb,At_rd,r8,gPo (by omega)]
    unfold gn
    rw[oB,gPo (by omega),gPo (by omega),aZ (by omega),Int.toNat_natCast,Int.toNat_natCast]
    by_cases hs:0≤ry r.fTracks[i] (At o a k)∧(At o b (k+w)<0∨ry r.fTracks[i] (At o a k)<At o b (k+w))
    ·rw[if_pos (by rw[Bool.and_eq_true,Bool.or_eq_true,decide_eq_true_eq,decide_eq_true_eq,decide_eq_true_eq];exact hs)]
     have hpos:0≤At o a k:=by
      have:=hs.1
      unfold ry at this
      split at this <;> omega
     obtain⟨c',q1,q2⟩:=hP.inv.att a k (by omega) (by omega) hpos
     rw[←ha]at q2
     obtain⟨q3,q4⟩:=arrV_tr hR htm hs.1 q2
     rw[hb]at q3
     exact .inl ⟨_,E,⟨k+1,true,oU o b (k+w) (ry r.fTracks[i] (At o a k)),E,by omega,hP.put (by omega) (by omega) ⟨hs.1,q4⟩ hs.2 ⟨c'+(r.fTracks[i]).fToll,by omega,q3⟩,fun e=>by cases e⟩,by dsimp only;omega,fun t h=>h⟩
    ·rw[if_neg (by rw[Bool.and_eq_true,Bool.or_eq_true,decide_eq_true_eq,decide_eq_true_eq,decide_eq_true_eq];exact hs)]
     refine .inl ⟨_,E,⟨k+1,ch,o,E,by omega,hP,fun e c h1=>?_⟩,by dsimp only;omega,fun t h=>h⟩
     by_cases e2:c=k
     ·subst e2
      obtain⟨_,rfl⟩:=hP.same e
      intro h0 h5
      rw[ha,hb,hw]at *
      rw[Int.toNat_natCast,Int.toNat_natCast,Int.toNat_natCast]at *
      by_cases h6:At o b (c+w)<0
      ·exact absurd ⟨h5,.inl h6⟩ hs
      ·by_cases h7:ry r.fTracks[i] (At o a c)<At o b (c+w)
       ·exact absurd ⟨h5,.inr h7⟩ hs
       ·omega
     ·exact hM e c (by omega)
   ·rw[cN (by omega)]
    refine .inr ⟨_,E,ch,o,_,E,hP,fun e c=>?_⟩
    by_cases h1:c<k
    ·exact hM e c h1
    ·intro h0
     omega) (ch0,0,o0) ⟨0,ch0,o0,E,by omega,.refl hT,fun _ c h1=>by omega⟩
 obtain⟨t,ht,ch,o,c9,rfl,hh⟩:=hinv
 exact⟨ch,o,c9,ht,hh⟩
theorem l4_ok {r:TR} (hR:GoodR r) {f h:Int} {n:Nat} (hn:r.fPlaces=(n:Int)) {ch0:Bool} {o0:List (List Int)} (hT:TInv r f h n o0):∃ch o i9,aJ (dR r) (ch0,0,o0)=some (ch,i9,o)∧Prog r f h n ch0 o0 ch o∧(ch=false→∀t∈r.fTracks,∀c:Nat,rs o0 t c):=by
 have hrl:=hR.len
 have hinv:=bf (body:=dR r)
  (fun s=>∃(i:Nat) (ch:Bool) (o:List (List Int)),s=(ch,(i:Int),o)∧i≤r.fTracks.length∧Prog r f h n ch0 o0 ch o∧(ch=false→∀j,(hj:j<r.fTracks.length)→j<i→∀c:Nat,rs o0 r.fTracks[j] c))
  (fun _ t=>∃ch o i9,t=(ch,i9,o)∧Prog r f h n ch0 o0 ch o∧(ch=false→∀t∈r.fTracks,∀c:Nat,rs o0 t c))
  (fun s=>r.fTracks.length-s.2.1.toNat) (by
   rintro _ ⟨i,ch,o,rfl,hi,hP,hM⟩
   unfold dR;dsimp only
   rcases Nat.lt_or_ge i r.fTracks.length with hlt|hge
   ·obtain⟨ch2,o2,c9,e2,hP2,hM2⟩:=l5_ok hR hn hlt (ch0:=ch) (x:=ch) (y:=o) hP.inv
    rw[dl (by omega),gPo (by omega),e2,oB,aZ (by omega)]
    refine .inl ⟨_,E,⟨i+1,ch2,o2,E,hlt,hP.trans hP2,fun e j hj h1 c=>?_⟩,by dsimp only;omega,fun t h=>h⟩
    obtain⟨e3,e4⟩:=hP2.same e
    obtain⟨_,e6⟩:=hP.same e3
    by_cases e5:j=i
    ·subst e5
     have:=hM2 e c
     rw[e6]at this
     exact this
    ·exact hM e3 j hj (by omega) c
   ·rw[cN (by omega)]
    refine .inr ⟨_,E,ch,o,_,E,hP,fun e t ht c=>?_⟩
    obtain⟨j,hj,rfl⟩:=List.mem_iff_getElem.1 ht
    exact hM e j hj (by omega) c) (ch0,0,o0) ⟨0,ch0,o0,E,Nat.zero_le _,.refl hT,fun _ j hj h1=>by omega⟩
 obtain⟨t,ht,ch,o,i9,rfl,hh⟩:=hinv
 exact⟨ch,o,i9,ht,hh⟩
theorem l3_ok {r:TR} (hR:GoodR r) {f h:Int} {n:Nat} (hn:r.fPlaces=(n:Int)) (hn2:n≤16) {o0:List (List Int)} (hT:TInv r f h n o0):∃o,aJ (ed r) (true,o0)=some (false,o)∧TInv r f h n o∧(∀t∈r.fTracks,∀c:Nat,rs o t c)∧∀p c,p<n→1≤c→c<61→qD o p c:=by
 have hinv:=bf (body:=ed r)
  (fun s=>TInv r f h n s.2∧(s.1=false→(∀t∈r.fTracks,∀c:Nat,rs s.2 t c)∧∀p c,p<n→1≤c→c<61→qD s.2 p c))
  (fun _ t=>t.1=false∧TInv r f h n t.2∧(∀t'∈r.fTracks,∀c:Nat,rs t.2 t' c)∧∀p c,p<n→1≤c→c<61→qD t.2 p c)
  (fun s=>2*pot5 s.2+if s.1=true then 1 else 0) (by
   rintro⟨ch,o⟩ ⟨hI,hF⟩
   unfold ed;dsimp only at hI hF ⊢
   cases ch with
   | false =>
    rw[if_neg (by simp)]
    exact .inr ⟨_,E,E,hI,hF E⟩
   | true =>
    rw[if_pos E]
    obtain⟨c1,o1,i9,e1,p1,m1⟩:=l4_ok hR hn (ch0:=false) hI
    obtain⟨c2,o2,e2,p2,m2⟩:=l6_ok hn hn2 (ch0:=c1) p1.inv
    have hp:=p1.trans p2
    rw[e1,oB,e2,oB]
    refine .inl ⟨_,E,⟨hp.inv,fun e=>?_⟩,?_,fun t h=>h⟩
    ·dsimp only at e ⊢
     obtain⟨q1,q2⟩:=p2.same e
     obtain⟨_,q3⟩:=p1.same q1
     subst q2
     refine⟨fun t ht c=>?_,m2 e⟩
     have:=m1 q1 t ht c
     rw[←q3]at this
     exact this
    ·dsimp only
     cases c2 with
     | false =>
      have:=hp.le
      simp;omega
     | true =>
      rcases hp.less E with q|q
      ·cases q
      ·simp;omega) (true,o0) ⟨hT,fun e=>by cases e⟩
 obtain⟨⟨c,o⟩,ht,h1,h2,h3,h4⟩:=hinv
 dsimp only at h1 h2 h3 h4
 subst h1
 exact⟨o,ht,h2,h3,h4⟩
theorem rY {r:TR} (hR:GoodR r) {f h:Int} (hf:0≤f∧f<r.fPlaces) (hh:0≤h∧h≤16384):∃o,dz r f h=some o∧Grid r.fPlaces.toNat o∧∀p c:Nat,(p:Int)<r.fPlaces→c≤60→Least r f h (p:Int) (c:Int) (At o p c):=by
 have hp:=hR.places
 obtain⟨n,hn⟩:∃n:Nat,r.fPlaces=(n:Int):=⟨r.fPlaces.toNat,by omega⟩
 have htn:Int.toNat r.fPlaces=n:=by rw[hn];rfl
 obtain⟨o1,e1,g1,g2⟩:=init1 (f:=f) (h:=h) hn (by omega)
 have hT:TInv r f h n o1:=by
  refine⟨g1,fun p c hp hc=>?_,fun p c hp hc=>?_,fun p c hp hc=>?_⟩
  ·rw[g2 p c hp hc];unfold initV;split <;> omega
  ·rw[g2 p c hp hc];unfold initV
   split
   ·rename_i e
    intro _
    exact⟨0,by omega,e▸Tr.start⟩
   ·intro h0;omega
  ·rw[g2 p c (by omega) hc];unfold initV;rw[if_pos hp];omega
 obtain⟨o,e2,h1,h2,h3⟩:=l3_ok hR hn (by omega) hT
 refine⟨o,?_,by rw[htn];exact h1.grid,fun p c hp hc=>?_⟩
 ·unfold dz
  rw[gPo (by omega),htn,e1,oB,e2,oB]
 ·have mono:∀(p c c':Nat),p<n→c≤c'→c'≤60→0≤At o p c→0≤At o p c'∧At o p c'≤At o p c:=by
   intro p c c' hp hcc
   induction hcc with
   | refl=>exact fun _ h0=>⟨h0,Int.le_refl _⟩
   | step hm ih =>
    rename_i m
    intro h60 h0
    obtain⟨a1,a2⟩:=ih (by omega) h0
    have:=h3 p (m+1) hp (by omega) (by omega) a1
    exact⟨this.1,Int.le_trans this.2 a2⟩
  have main:∀{q c a:Int},Tr r f h q c a→c≤60→a≤16384→0≤q∧q<r.fPlaces∧0≤At o q.toNat c.toNat∧At o q.toNat c.toNat≤a:=by
   intro q c a ht
   induction ht with
   | start =>
    intro _ _
    have:=h1.start f.toNat 0 (by omega) (by omega)
    exact⟨hf.1,hf.2,this⟩
   | step t m ht hm hfr hle he ih =>
    rename_i q c a
    intro hc ha
    have hg:=hR.trk t hm
    have l1:=hg.long
    have l2:=hg.toll
    have l3:=hg.to
    have hlow:=ht.low hR
    obtain⟨i1,i2,i3,i4⟩:=ih (by omega) (by omega)
    have hs:=h2 t hm c.toNat (by omega)
    rw[hfr]at hs
    have e5:dM t.fK (At o q.toNat c.toNat)≤m:=by rw[←he];exact mN _ (by omega)
    have e6:=iM t.fK (At o q.toNat c.toNat)
    have ev:ry t (At o q.toNat c.toNat)=dM t.fK (At o q.toNat c.toNat)+t.fLong:=by
     unfold ry arr
     rw[if_neg (by omega),if_pos (by omega)]
    rw[ev]at hs
    have:=hs (by omega)
    rw[show(c+t.fToll).toNat=c.toNat+t.fToll.toNat by omega]
    exact⟨by omega,by omega,this.1,by omega⟩
  have hv:=h1.val p c (by omega) (by omega)
  refine⟨hv.1,hv.2,fun h0=>h1.att p c (by omega) (by omega) h0,fun c' a ht hc' ha=>?_⟩
  obtain⟨_,_,b1,b2⟩:=main ht (by omega) ha
  have hlow:=ht.low hR
  rw[Int.toNat_natCast]at b1 b2
  have:=mono p c'.toNat c (by omega) (by omega) hc b1
  omega
set_option linter.unusedSimpArgs false
open Classical
theorem iX (x:TJ):TJ.mk x.fLegs x.fA x.fToll=x:=rfl
theorem pI {l:List TJ} {f:TJ→Option Bool} {q:TJ→Bool} (hl:l.length<1000000000) (h:∀x∈l,f x=some (q x)):bu l f=some (ng l q):=by
 unfold bu
 have:=hU (body:=a7 l f) (fun k=>((0:Int),(k:Int))) l.length (fun k=>if q (l.getD k default)=true then some (Sum.inl ((k:Int),(k:Int)))else none) (t0:=.inr (0,(l.length:Int))) (fun k hk=>by
  have c1:decide ((k:Int)<((l.length:Nat):Int))=true:=decide_eq_true (by omega)
  have c2:(0:Int)≤(k:Int)∧(k:Int)<((l.length:Nat):Int):=by omega
  unfold a7;dsimp only
  simp only[c1,if_true,gPo c2,aU hk,iX,h _ (List.getElem_mem hk),oB,eP hk,aZ (show k<9223372036854775807 by omega)]
  cases q l[k] <;> rfl) (by
  unfold a7;dsimp only
  rw[cN (by omega)])
 have h0:aJ (a7 l f) (0,0)=_:=this
 rw[h0,oB]
 exact m7 l q
structure Jny (r:TR) (f to h:Int) (j:TJ):Prop where
 legs:oe r j.fLegs f h 0=some (to,j.fA,j.fToll)
 hour:0≤j.fA∧j.fA≤16384
 toll:j.fToll≤60
theorem pf {r:TR} (hR:GoodR r) {f to h:Int} (hh:0≤h∧h≤16384) {j:TJ} (hj:j.fLegs.length≤1000000):eY r f to h j=some (decide (Jny r f to h j)):=by
 rw[qb hR hh hj]
 refine congrArg some ?_
 rw[Bool.eq_iff_iff,decide_eq_true_eq]
 cases e:oe r j.fLegs f h 0 with
 | none=>exact⟨fun h=>(by cases h),fun h=>by have:=h.legs;rw[e]at this;cases this⟩
 | some x =>
  obtain⟨a,b,c⟩:=x
  dsimp only
  simp only[Bool.and_eq_true,beq_iff_eq,decide_eq_true_eq]
  constructor
  ·rintro⟨⟨⟨⟨rfl,rfl⟩,rfl⟩,h2⟩,h3⟩
   exact⟨e,h2,h3⟩
  ·intro hJ
   have h1:=hJ.legs
   rw[e]at h1
   cases h1
   exact⟨⟨⟨⟨E,E⟩,E⟩,hJ.hour⟩,hJ.toll⟩
theorem Jny.tr {r:TR} {f to h:Int} {j:TJ} (hJ:Jny r f to h j):Tr r f h to j.fToll j.fA:=sx j.fLegs (x:=(to,j.fA,j.fToll)) .start hJ.legs
def wv2 (l:List TJ) (c:Int):Int:=l.foldl (fun a j=>if j.fToll≤c then j.fA else a) (-1)
theorem wv2_app (l:List TJ) (j:TJ) (c:Int):wv2 (l++[j]) c=if j.fToll≤c then j.fA else wv2 l c:=by
 unfold wv2
 rw[List.foldl_append]
 rfl
def wRow (l:List TJ):List Int:=(List.range 61).map fun c:Nat=>wv2 l (c:Int)
def gY (l:List TJ) (i:Nat):Prop:=0<i→(rdL l ((i-1:Nat):Int)).fToll<(rdL l (i:Int)).fToll∧(rdL l (i:Int)).fA<(rdL l ((i-1:Nat):Int)).fA
theorem list61 {a b:List Int} (ha:a.length=61) (hb:b.length=61) (h:∀c:Nat,c<61→rdL a (c:Int)=rdL b (c:Int)):a=b:=by
 refine List.ext_getElem (by omega) fun c h1 h2=>?_
 have:=h c (by omega)
 rw[aU h1,aU h2]at this
 exact this
theorem sj (l:List TJ) {c:Nat} (hc:c<61):rdL (wRow l) (c:Int)=wv2 l (c:Int):=by
 rw[aU (by simp[wRow];exact hc)]
 unfold wRow
 rw[List.getElem_map,List.getElem_range]
theorem fill_ok {l:List TJ} {s:Int × Int × List Int} {k:Nat} (hk:s.2.1=(k:Int)) {a:Nat} (ha:(rdL l (k:Int)).fToll=(a:Int)) (ha6:a≤60) {w:List Int} (hw:w.length=61):∃w',aJ (dp l s) ((rdL l (k:Int)).fToll,w)=some (61,w')∧w'.length=61∧∀c:Nat,c<61→rdL w' (c:Int)=if a≤c then(rdL l (k:Int)).fA else rdL w (c:Int):=by
 have hinv:=bf (body:=dp l s)
  (fun st=>∃(c:Nat) (v:List Int),st=((c:Int),v)∧a≤c∧c≤61∧v.length=61∧∀i:Nat,i<61→rdL v (i:Int)=if a≤i∧i<c then(rdL l (k:Int)).fA else rdL w (i:Int))
  (fun _ t=>t.1=61∧t.2.length=61∧∀c:Nat,c<61→rdL t.2 (c:Int)=if a≤c then(rdL l (k:Int)).fA else rdL w (c:Int))
  (fun st=>61-st.1.toNat) (by
   rintro _ ⟨c,v,rfl,h1,h2,h3,h4⟩
   unfold dp;dsimp only
   rw[hk]
   rcases Nat.lt_or_ge c 61 with hlt|hge
   ·rw[dl (by omega),gPo (by omega),aZ (by omega),Int.toNat_natCast]
    refine .inl ⟨_,E,⟨c+1,_,E,by omega,hlt,by rw[List.length_set];exact h3,fun i hi=>?_⟩,by dsimp only;omega,fun t h=>h⟩
    rw[oW v (by omega),h4 i hi]
    by_cases e:i=c
    ·rw[if_pos e,if_pos (by omega)]
    ·rw[if_neg e]
     by_cases e2:a≤i∧i<c
     ·rw[if_pos e2,if_pos (by omega)]
     ·rw[if_neg e2,if_neg (by omega)]
   ·rw[cN (by omega)]
    refine .inr ⟨_,E,by dsimp only;omega,h3,fun i hi=>?_⟩
    dsimp only
    rw[h4 i hi]
    by_cases e:a≤i
    ·rw[if_pos ⟨e,by omega⟩,if_pos e]
    ·rw[if_neg (by omega),if_neg e]) ((rdL l (k:Int)).fToll,w) ⟨a,w,by rw[ha],Nat.le_refl _,by omega,hw,fun i hi=>by rw[if_neg (by omega)]⟩
 obtain⟨t,ht,h1,h2,h3⟩:=hinv
 exact⟨t.2,by rw[ht,←h1],h2,h3⟩
theorem rb {r:TR} (hr:∀t∈r.fTracks,t.fK.length≤1000000) {f to h:Int} (hA:AskedOk r f to h 0) {l:List TJ} (hl:l.length≤1000) (hlg:∀j∈l,j.fLegs.length≤1000000) {t:TTimes} (ht:t.fH.length≤1000) (hrow:∀x∈t.fH,x.length≤1000):bM r f to h l t=some (if Bounded r f h t∧(∀j∈l,Jny r f to h j)∧(∀i,i<l.length→gY l i)∧rdL t.fH to=wRow l then 0 else 8):=by
 have hR:=hA.good
 unfold bM
 rw[re hr,oB,lO.2 hA,if_neg (by simp),bounded_eq hR hA.fr ht hrow,oB]
 by_cases hB:Bounded r f h t
 ·rw[decide_eq_true hB,if_neg (by simp)]
  unfold bX
  rw[pI (f:=fun x53=>cP x53 r f to h) (q:=fun j => !decide (Jny r f to h j)) (by omega) (fun x hx=>by unfold cP;simp only[pf hR hA.hour (hlg x hx),iX];rfl),oB,oB,oB]
  by_cases hJ:∀j∈l,Jny r f to h j
  ·have hidx:¬0≤ng l fun j => !decide (Jny r f to h j):=by
    rw[hZ]
    rintro⟨j,hj,e⟩
    rw[decide_eq_true (hJ j hj)]at e
    cases e
   have hto:=hA.to
   have hlen:=hB.len
   have hrl:=(hB.fall _ (qp (t:=t) (p:=to) (by omega))).len
   rw[if_neg (by simpa using hidx),gPo (by omega),gPo hrl]
   have h1:=bf (body:=eU) (fun s=>∃(c:Nat) (v:List Int),s=((c:Int),v)∧c≤61∧v.length=61∧∀i:Nat,i<c→rdL v (i:Int) = -1) (fun _ t=>t.2.length=61∧∀i:Nat,i<61→rdL t.2 (i:Int) = -1) (fun s=>61-s.1.toNat) (by
    rintro _ ⟨c,v,rfl,h1,h2,h3⟩
    unfold eU;dsimp only
    rcases Nat.lt_or_ge c 61 with hlt|hge
    ·rw[dl (by omega),gPo (by omega),aZ (by omega),Int.toNat_natCast]
     refine .inl ⟨_,E,⟨c+1,_,E,hlt,by rw[List.length_set];exact h2,fun i hi=>?_⟩,by dsimp only;omega,fun t h=>h⟩
     rw[oW v (by omega)]
     by_cases e:i=c
     ·rw[if_pos e]
     ·rw[if_neg e];exact h3 i (by omega)
    ·rw[cN (by omega)]
     exact .inr ⟨_,E,h2,fun i hi=>h3 i (by omega)⟩) (0,List.replicate 61 0) ⟨0,_,E,by omega,by simp,fun i hi=>by omega⟩
   obtain⟨u,hu,hu1,hu2⟩:=h1
   rw[hu,oB]
   have h2:=bf (body:=cz l)
    (fun s=>∃(k:Nat) (w:List Int),s=(0,(k:Int),w)∧k≤l.length∧w.length=61∧(∀c:Nat,c<61→rdL w (c:Int)=wv2 (l.take k) (c:Int))∧∀i,i<k→gY l i)
    (fun _ out=>match out with
     | .inl v=>v.1=8∧¬∀i,i<l.length→gY l i
     | .inr v=>v.2.2=wRow l∧∀i,i<l.length→gY l i)
    (fun s=>l.length-s.2.1.toNat) (by
     rintro _ ⟨k,w,rfl,hk,hw,hwc,hs⟩
     rcases Nat.lt_or_ge k l.length with hlt|hge
     ·have hjk:=hJ _ (List.getElem_mem hlt)
      have htr:=hjk.tr.low hR
      have htl:=hjk.toll
      obtain⟨a,ea⟩:∃a:Nat,(l[k]).fToll=(a:Int):=⟨(l[k]).fToll.toNat,by omega⟩
      obtain⟨w',hw1,hw2,hw3⟩:=fill_ok (l:=l) (s:=(0,(k:Int),w)) (k:=k) E (a:=a) (by rw[aU hlt];exact ea) (by omega) hw
      have hcond:((if decide ((0:Int)<(k:Int))=true then(al ((0:Int)≤w64 ((k:Int)-1)∧w64 ((k:Int)-1)<((l.length:Nat):Int)) (((if decide ((rdL l (k:Int)).fToll≤(rdL l (w64 ((k:Int)-1))).fToll)=true then(some (true))else(al ((0:Int)≤w64 ((k:Int)-1)∧w64 ((k:Int)-1)<((l.length:Nat):Int)) (some (decide ((rdL l (w64 ((k:Int)-1))).fA≤(rdL l (k:Int)).fA))))).bind fun b46=>some (b46))))else(some (false))))=some (decide (¬gY l k)):=by
       by_cases h0:0<k
       ·have ew:w64 ((k:Int)-1)=((k-1:Nat):Int):=by rw[bV (by omega) (by omega)];omega
        rw[dl (by omega),ew,gPo (by omega),gPo (by omega),orB,oB]
        refine congrArg some ?_
        rw[Bool.eq_iff_iff,Bool.or_eq_true,decide_eq_true_eq,decide_eq_true_eq,decide_eq_true_eq]
        unfold gY
        constructor
        ·intro h hh
         have:=hh h0
         omega
        ·intro h
         by_cases c1:(rdL l (k:Int)).fToll≤(rdL l ((k-1:Nat):Int)).fToll
         ·exact .inl c1
         ·by_cases c2:(rdL l ((k-1:Nat):Int)).fA≤(rdL l (k:Int)).fA
          ·exact .inr c2
          ·exact absurd (fun _=>⟨by omega,by omega⟩) h
       ·rw[cN (by omega)]
        refine congrArg some (Eq.symm ?_)
        exact decide_eq_false fun h=>h fun h2=>absurd h2 h0
      have hbody:cz l (0,(k:Int),w)=if decide (¬gY l k)=true then some (.inr (.inl (8,(k:Int),w)))else some (.inl (0,((k+1:Nat):Int),w')):=by
       unfold cz;dsimp only
       rw[dl (by omega),gPo (by omega),hcond,oB,hw1,oB,aZ (by omega)]
      by_cases hsk:gY l k
      ·rw[if_neg (by simp[hsk])]at hbody
       refine .inl ⟨_,hbody,⟨k+1,w',E,hlt,hw2,fun c hc=>?_,fun i hi=>?_⟩,by dsimp only;omega,fun t h=>h⟩
       ·rw[hw3 c hc,List.take_succ_eq_append_getElem hlt,wv2_app,aU hlt,hwc c hc]
        by_cases e:a≤c
        ·rw[if_pos e,if_pos (by omega)]
        ·rw[if_neg e,if_neg (by omega)]
       ·by_cases e:i=k
        ·rw[e];exact hsk
        ·exact hs i (by omega)
      ·rw[if_pos (by simp[hsk])]at hbody
       exact .inr ⟨_,hbody,E,fun hh=>hsk (hh k hlt)⟩
     ·have hke:k=l.length:=by omega
      subst hke
      rw[List.take_length]at hwc
      refine .inr ⟨.inr (0,(l.length:Int),w),?_,list61 hw (by simp[wRow]) (fun c hc=>by rw[sj l hc];exact hwc c hc),hs⟩
      unfold cz;dsimp only
      rw[cN (by omega)]) (0,0,u.2) ⟨0,u.2,E,Nat.zero_le _,hu1,fun c hc=>by rw[hu2 c hc];rfl,fun i hi=>by omega⟩
   obtain⟨out,ho,hp⟩:=h2
   rw[ho,oB]
   rcases out with v|v
   ·dsimp only at hp ⊢
    rw[hp.1,if_neg fun hh=>hp.2 hh.2.2.1]
   ·dsimp only at hp ⊢
    rw[hp.1]
    by_cases hw:rdL t.fH to=wRow l
    ·rw[decide_eq_true hw,if_neg (by simp),if_pos ⟨hB,hJ,hp.2,hw⟩]
    ·rw[decide_eq_false hw,if_pos (by rfl),if_neg fun hh=>hw hh.2.2.2]
  ·have hidx:0≤ng l fun j => !decide (Jny r f to h j):=by
    rw[hZ]
    by_cases hex:∃j∈l,¬Jny r f to h j
    ·obtain⟨j,hj,hc⟩:=hex
     exact⟨j,hj,by rw[decide_eq_false hc];rfl⟩
    ·exact absurd (fun j hj=>Classical.byContradiction fun hc=>hex ⟨j,hj,hc⟩) hJ
   rw[if_pos (decide_eq_true hidx),if_neg fun hh=>hJ hh.2.1]
 ·rw[decide_eq_false hB,if_pos (by rfl),oB,if_pos E,if_neg fun hh=>hB hh.1]
set_option linter.unusedSimpArgs false
open Classical
theorem Matchable.mono {S S':Nat→Nat→Prop} {A:Nat→Prop} (h:Matchable S A) (hs:∀x k,A x→S x k→S' x k):Matchable S' A:=by
 obtain⟨m,hM,hd⟩:=h
 exact⟨m,⟨fun k o e=>hs o k ((hd o).1 ⟨k,e⟩) (hM.suit k o e),hM.inj⟩,hd⟩
theorem Matchable.congr {S:Nat→Nat→Prop} {A B:Nat→Prop} (h:Matchable S A) (hab:∀x,A x↔B x):Matchable S B:=by
 obtain⟨m,hM,hd⟩:=h
 exact⟨m,hM,fun x=>(hd x).trans (hab x)⟩
def w1 (y:TY) (first wi:Int) (x:Nat):Int:=if(x:Int)=first∨(x:Int)=wi then 1001 else wo y x
def S1 (y:TY) (wi:Int) (x k:Nat):Prop:=Su y x k∧(x:Int)≠wi
theorem S1.fit (y:TY) (wi:Int):Fit (S1 y wi) y.fB.length y.fR.length:=⟨fun o k h=>h.1.2.1,fun o k h=>h.1.1⟩
def Seen (y:TY) (first wi w:Int) (i:Nat) (x:Nat):Prop:=(x<y.fR.length∧(w<wo y x∨(wo y x=w∧x<i)))∨(x:Int)=first∨(x:Int)=wi
structure BestI (y:TY) (first wi w:Int) (i:Nat) (l:List Int):Prop where
 nums:Nums y.fR.length l
 greedy:Greedy (S1 y wi) (w1 y first wi) (Seen y first wi w i) (fun x=>(x:Int)∈l)
 no:¬wi∈l
theorem Nums.len {n:Nat} {l:List Int} (h:Nums n l):l.length≤n:=by
 have h1:∀(ks:List Int),isum (fun _=>1) ks=(ks.length:Int):=fun ks=>by
  induction ks with
  | nil=>rfl
  | cons k ks ih=>show 1+isum (fun _=>1) ks=_;rw[ih,List.length_cons];omega
 have h2:=isum_sm (f:=fun _=>1) (n:=n) l h.once h.nat
 have h3:∀n,sm n (fun _=>1)=(n:Int):=fun n=>by
  induction n with
  | zero=>rfl
  | succ n ih=>show sm n (fun _=>1)+1=_;rw[ih];omega
 have h4:=h3 n
 have h5:sm n (fun j=>if(j:Int)∈l then(1:Int)else 0)≤sm n (fun _=>1):=pV fun i _=>by split <;> omega
 rw[h1]at h2
 omega
theorem Opt.congr {S S':Nat→Nat→Prop} {w w':Nat→Int} {nB:Nat} {V:Int} (h:Opt S w nB V) (hS:∀o k,S o k↔S' o k) (hw:∀o k,S o k→w o=w' o):Opt S' w' nB V:=by
 have e:S=S':=funext fun o=>funext fun k=>propext (hS o k)
 subst e
 have hv:∀m,Mat S m→wor nB w m=wor nB w' m:=fun m hM=>f7 fun k _=>by
  cases e:m k with
  | none=>rfl
  | some x=>exact hw x k (hM.suit k x e)
 obtain⟨m,hM,e⟩:=h.some
 exact⟨⟨m,hM,by rw[←hv m hM];exact e⟩,fun m hM=>by rw[←hv m hM];exact h.most m hM⟩
set_option linter.unusedSimpArgs false
open Classical
def ga (p:TPlan) (i:Nat):Int:=p.fG.getD i 0
def pa (p:TPlan) (k:Nat):Int:=p.fPrices.getD k 0
def minS (y:TY) (f:Nat→Int) (i:Nat) (a:Int):Nat→Int
 | 0=>a
 | n+1=>if qv (oat y i) (bat y n)=true then min (minS y f i a n) (f n)else minS y f i a n
theorem minS_le (y:TY) (f:Nat→Int) (i:Nat) (a:Int):∀n,minS y f i a n≤a∧∀k,k<n→qv (oat y i) (bat y k)=true→minS y f i a n≤f k
 | 0=>⟨Int.le_refl _,fun k hk=>by omega⟩
 | n+1=>by
  obtain⟨h1,h2⟩:=minS_le y f i a n
  unfold minS
  split
  ·rename_i hs
   refine⟨by omega,fun k hk hk2=>?_⟩
   rcases Nat.lt_or_ge k n with h|h
   ·have:=h2 k h hk2;omega
   ·have:k=n:=by omega
    subst this;omega
  ·rename_i hs
   refine⟨h1,fun k hk hk2=>?_⟩
   rcases Nat.lt_or_ge k n with h|h
   ·exact h2 k h hk2
   ·have:k=n:=by omega
    subst this;exact absurd hk2 hs
theorem sr (y:TY) (f:Nat→Int) (i:Nat) (a:Int):∀n,minS y f i a n=a∨∃k,k<n∧qv (oat y i) (bat y k)=true∧minS y f i a n=f k
 | 0=>.inl E
 | n+1=>by
  unfold minS
  split
  ·rename_i hs
   rcases sr y f i a n with h|⟨k,h1,h2,h3⟩
   ·rcases Int.le_total (minS y f i a n) (f n)with h4|h4
    ·left;rw[Int.min_eq_left h4];exact h
    ·right;exact⟨n,by omega,hs,Int.min_eq_right h4⟩
   ·rcases Int.le_total (minS y f i a n) (f n)with h4|h4
    ·right;exact⟨k,by omega,h2,by rw[Int.min_eq_left h4];exact h3⟩
    ·right;exact⟨n,by omega,hs,Int.min_eq_right h4⟩
  ·rcases sr y f i a n with h|⟨k,h1,h2,h3⟩
   ·exact .inl h
   ·exact .inr ⟨k,by omega,h2,h3⟩
def gain (y:TY) (f:Nat→Int) (i:Nat):Int:=max 0 (wo y i-minS y f i 1001 y.fB.length)
def okAt (y:TY) (p:TPlan) (i:Nat):Prop:=ga p i=0∨(0≤bayI y (ga p i)∧qv (oat y i) (rdL y.fB (bayI y (ga p i)))=true∧∀j,j<i→ga p j≠ga p i)
def sumW (y:TY) (p:TPlan) (n:Nat):Int:=sm n fun i=>if ga p i=0 then 0 else wo y i
structure Proved (y:TY) (p:TPlan):Prop where
 len:p.fG.length=y.fR.length
 plen:p.fPrices.length=y.fB.length
 price:∀k,k<y.fB.length→0≤pa p k∧pa p k≤1000
 ok:∀i,i<y.fR.length→okAt y p i
 sum:sumW y p y.fR.length=p.fW
 bound:sm y.fR.length (gain y (pa p))+sm y.fB.length (pa p)=p.fW
set_option linter.unusedSimpArgs false
open Classical
theorem qH {y:TY} (hG:Good y) {k:Nat} (hk:k<y.fB.length):bayI y (bat y k).fID=(k:Int):=by
 unfold bayI bat
 rw[eP hk]
 exact sB hG.bayN hk
theorem bay_pos {y:TY} (hG:Good y) {k:Nat} (hk:k<y.fB.length):1≤(bat y k).fID:=by
 have:=hG.bay y.fB[k] (List.getElem_mem hk)
 unfold bayB at this
 simp only[Bool.and_eq_true,decide_eq_true_eq]at this
 unfold bat
 rw[eP hk]
 exact this.1.1
theorem PlanOf.proved {y:TY} (hG:Good y) {m:Nat→Option Nat} (hM:Mat (Su y) m) {q u:Nat→Int} (hp:Prices (Su y) (wo y) y.fB.length y.fR.length m q u) {p:TPlan} (h:PlanOf y m q p):Proved y p:=by
 have hF:=Su.fit y
 have hgot:∀o k,m k=some o→ga p o=(bat y k).fID∧k<y.fB.length∧o<y.fR.length:=fun o k e=>⟨h.got o k e,hF.bay o k (hM.suit k o e),hF.ord o k (hM.suit k o e)⟩
 have hnz:∀o,ga p o=0↔¬Dom m o:=fun o=>⟨fun e ⟨k,ek⟩=>by
  obtain⟨h1,h2,_⟩:=hgot o k ek
  have:=bay_pos hG h2
  omega,h.not o⟩
 have hpr:∀k,k<y.fB.length→pa p k=q k:=h.price
 have hq:∀k,k<y.fB.length→0≤q k∧q k≤1000:=fun k hk=>⟨hp.q0 k,by
  cases e:m k with
  | none=>rw[hp.free k e];omega
  | some x=>have h1:=hp.held k x e;have h2:=hG.worth (hgot x k e).2.2;omega⟩
 have hgain:∀i,i<y.fR.length→gain y (pa p) i=u i:=fun i hi=>by
  have hw:=hG.worth hi
  obtain⟨hm1,hm2⟩:=minS_le y (pa p) i 1001 y.fB.length
  have hm3:=sr y (pa p) i 1001 y.fB.length
  unfold gain
  by_cases hd:Dom m i
  ·obtain⟨k,e⟩:=hd
   have hs:=hM.suit k i e
   have h1:=hp.uset k i e
   have h2:=hp.held k i e
   have h3:=hm2 k hs.2.1 hs.2.2
   rw[hpr k hs.2.1]at h3
   have h4:q k≤minS y (pa p) i 1001 y.fB.length:=by
    rcases hm3 with h4|⟨k',hk',hs',h4⟩
    ·have:=(hq k hs.2.1).2;omega
    ·rw[h4,hpr k' hk'];exact hp.least k i k' e ⟨hi,hk',hs'⟩
   omega
  ·rw[hp.unot i hd]
   have h4:wo y i≤minS y (pa p) i 1001 y.fB.length:=by
    rcases hm3 with h4|⟨k',hk',hs',h4⟩
    ·omega
    ·rw[h4,hpr k' hk'];exact hp.out i k' hi hd ⟨hi,hk',hs'⟩
   omega
 refine⟨h.len,h.plen,fun k hk=>by rw[hpr k hk];exact hq k hk,fun i hi=>?_,?_,?_⟩
 ·by_cases hd:Dom m i
  ·obtain⟨k,e⟩:=hd
   obtain⟨h1,h2,_⟩:=hgot i k e
   refine .inr ⟨by rw[h1,qH hG h2];omega,by rw[h1,qH hG h2,rdL_bat];exact(hM.suit k i e).2.2,fun j hj ej=>?_⟩
   have hdj:Dom m j:=Classical.byContradiction fun hn=>by
    have:=(hnz j).2 hn
    have:=bay_pos hG h2
    omega
   obtain⟨k',e'⟩:=hdj
   obtain⟨h1',h2',_⟩:=hgot j k' e'
   have h5:=qH hG h2
   rw[←h1,←ej,h1',qH hG h2']at h5
   have:k'=k:=by omega
   subst this
   rw[e]at e'
   cases e'
   omega
  ·exact .inl ((hnz i).2 hd)
 ·rw[h.worth]
  unfold wor
  rw[bij hF hM (wo y)]
  refine f7 fun i _=>?_
  by_cases hd:Dom m i
  ·rw[if_pos hd,if_neg fun e=>(hnz i).1 e hd]
  ·rw[if_neg hd,if_pos ((hnz i).2 hd)]
 ·rw[h.worth,hp.total,f7 hgain,f7 hpr]
  exact Int.add_comm _ _
set_option linter.unusedSimpArgs false
end Go.Proofs.YthndghnkebboaaaGreat
set_option linter.unusedSimpArgs false
namespace Go.Proofs.YthndghnkebboaaaGreat
theorem sorted_put {L:List Int} (hs:eM L) (n:Int) (k:Nat) (hk:k≤L.length) (h1:∀j,(hj:j<L.length)→j<k→L[j]<n) (h2:∀h:k<L.length,n≤L[k]):L.take k++[n]++L.drop k=pv (L++[n]):=by
 refine sy ?_ ?_
 ·have e:(L.take k++L.drop k++[n]).Perm (L++[n]):=by rw[List.take_append_drop]
  refine List.Perm.trans ?_ e
  rw[List.append_assoc,List.append_assoc]
  exact List.perm_append_comm.append_left _
 ·have hpw:=List.pairwise_iff_getElem.1 hs
  unfold eM at hs ⊢
  rw[List.append_assoc,List.pairwise_append]
  refine⟨hs.sublist (List.take_sublist _ _),?_,fun a ha b hb=>?_⟩
  ·rw[List.singleton_append,List.pairwise_cons]
   refine⟨fun b hb=>?_,hs.sublist (List.drop_sublist _ _)⟩
   obtain⟨j,hj,rfl⟩:=List.mem_iff_getElem.1 hb
   rw[List.getElem_drop]
   rw[List.length_drop]at hj
   have h3:=h2 (by omega)
   by_cases e:j=0
   ·subst e;simpa using h3
   ·have:=hpw k (k+j) (by omega) (by omega) (by omega)
    omega
  ·obtain⟨j,hj,rfl⟩:=List.mem_take_iff_getElem.1 ha
   have hlt:L[j]'(by omega)<n:=h1 j (by omega) (by omega)
   rw[List.singleton_append]at hb
   rcases List.mem_cons.1 hb with rfl|hb
   ·omega
   ·obtain⟨i,hi,rfl⟩:=List.mem_iff_getElem.1 hb
    rw[List.getElem_drop]
    rw[List.length_drop]at hi
    have:=hpw j (k+i) (by omega) (by omega) (by omega)
    omega
theorem put_eq {L:List Int} (hl:L.length≤1000000) (hs:eM L) (n:Int):oS L n=some (pv (L++[n])):=by
 have key:∃t,aJ (jI L n) 0=some t∧∃k:Nat,t=(k:Int)∧k≤L.length∧(∀j,(hj:j<L.length)→j<k→L[j]<n)∧∀h:k<L.length,n≤L[k]:=by
  refine bf (body:=jI L n) (fun s=>∃k:Nat,s=(k:Int)∧k≤L.length∧∀j,(hj:j<L.length)→j<k→L[j]<n) (fun s t=>∃k:Nat,t=(k:Int)∧k≤L.length∧(∀j,(hj:j<L.length)→j<k→L[j]<n)∧∀h:k<L.length,n≤L[k]) (fun s=>L.length-s.toNat) (fun s hs=>?_) _ ⟨0,E,Nat.zero_le _,fun j hj h=>by omega⟩
  obtain⟨k,rfl,i2,i3⟩:=hs
  unfold jI
  by_cases hk:k<L.length
  ·rw[dl (by omega),gPo (by omega),aU hk,oB,aZ (by omega)]
   by_cases hc:L[k]<n
   ·rw[if_pos (decide_eq_true hc)]
    refine .inl ⟨_,E,⟨k+1,E,hk,fun j hj h=>?_⟩,by omega,fun t ht=>ht⟩
    by_cases e:j=k
    ·subst e;exact hc
    ·exact i3 j hj (by omega)
   ·rw[if_neg (by simp[hc])]
    exact .inr ⟨_,E,k,E,i2,i3,fun _=>by omega⟩
  ·rw[cN (by omega),oB,if_neg (by simp)]
   exact .inr ⟨_,E,k,E,i2,i3,fun h=>absurd h hk⟩
 obtain⟨t,t1,k,rfl,k2,k3,k4⟩:=key
 unfold oS
 rw[t1,oB,gPo (by omega),Int.toNat_natCast,gPo (by omega),gPo (by omega),gPo (by omega),gPo (by omega)]
 rw[List.nil_append,sorted_put hs n k k2 k3 k4]
def pA (n:Nat) (id:Nat→Int) (P:Nat→Bool):List Int:=(List.range n).filterMap fun k=>if P k=true then some (id k)else none
theorem qo (n:Nat) (id:Nat→Int) (P:Nat→Bool):pA (n+1) id P=if P n=true then pA n id P++[id n]else pA n id P:=by
 unfold pA
 rw[List.range_succ,List.filterMap_append]
 by_cases h:P n=true <;> simp[h]
theorem picks_len (n:Nat) (id:Nat→Int) (P:Nat→Bool):(pA n id P).length≤n:=by
 induction n with
 | zero=>simp[pA]
 | succ n ih =>
  rw[qo]
  split
  ·rw[List.length_append];simp;exact ih
  ·omega
theorem srtI_app (l:List Int) (x:Int):pv (pv l++[x])=pv (l++[x]):=sy ((lH _).trans ((lH l).append_right [x])) (kA _)
theorem putLoop {n:Nat} (hn:n≤1000000) (id:Nat→Int) (P:Nat→Bool) {body:(Int × List Int)→Option ((Int × List Int) ⊕ (Int × List Int))} (hb:∀k,k<n→∀L:List Int,body ((k:Int),L)=if P k=true then(oS L (id k)).bind fun y=>some (.inl (((k+1:Nat):Int),y))else some (.inl (((k+1:Nat):Int),L))) (hs:∀L:List Int,body ((n:Int),L)=some (.inr ((n:Int),L))):aJ body (0,[])=some ((n:Int),pv (pA n id P)):=by
 have h:=kD (body:=body) (fun k=>((k:Int),pv (pA k id P))) n (t:=((n:Int),pv (pA n id P))) (fun k hk=>by
  show body ((k:Int),pv (pA k id P))=some (Sum.inl (((k+1:Nat):Int),pv (pA (k+1) id P)))
  rw[hb k hk,qo]
  by_cases h:P k=true
  ·rw[if_pos h,if_pos h,put_eq (by rw[tb];have:=picks_len k id P;omega) (kA _),oB,srtI_app]
  ·rw[if_neg h,if_neg h]) (hs _)
 exact h
set_option linter.unusedSimpArgs false
open Classical
def l9 (f h p:Int) (l:List Int) (c:Nat):Prop :=
 (-1≤rdL l (c:Int)∧rdL l (c:Int)≤16384)∧(p=f→0≤rdL l (c:Int)∧rdL l (c:Int)≤h)∧(0<c→0≤rdL l ((c-1:Nat):Int)→0≤rdL l (c:Int)∧rdL l (c:Int)≤rdL l ((c-1:Nat):Int))
theorem cell_eq {f h p:Int} {t:TTimes} {b0 b:Bool} {c:Nat} (hl:(rdL t.fH p).length=61) (hc:c<61):dv f h t (b0,p) (b,(c:Int))=if decide (l9 f h p (rdL t.fH p) c)=true then some (.inl (b,((c+1:Nat):Int)))else some (.inr (.inl (false,(c:Int)))):=by
 have hg:(0:Int)≤(c:Int)∧(c:Int)<(((rdL t.fH p).length:Nat):Int):=by omega
 unfold dv;dsimp only
 rw[dl (by omega),aZ (by omega)]
 generalize (rdL t.fH p)=l at hl hg ⊢
 by_cases h0:c=0
 ·subst h0
  simp only[gPo hg,orB,andB,oB,g5]
  have e0:decide ((0:Int)<((0:Nat):Int))=false:=rfl
  simp only[e0,Bool.false_eq_true,if_false,orB,andB,oB]
  by_cases hk:l9 f h p l 0
  ·rw[if_neg,if_pos (decide_eq_true hk)]
   have hk1:=hk.1
   have hk2:=hk.2.1
   simp only[Bool.or_eq_true,Bool.and_eq_true,Bool.not_eq_true',decide_eq_true_eq,decide_eq_false_iff_not,beq_iff_eq,Bool.false_eq_true,or_false]
   intro hh
   rcases hh with h1|⟨h1,h2⟩
   ·exact h1 hk1
   ·have:=hk2 h1;omega
  ·rw[if_pos,if_neg (by rw[decide_eq_true_eq];exact hk)]
   simp only[Bool.or_eq_true,Bool.and_eq_true,Bool.not_eq_true',decide_eq_true_eq,decide_eq_false_iff_not,beq_iff_eq,Bool.false_eq_true,or_false,and_true]
   by_cases h1 : -1≤rdL l ((0:Nat):Int)∧rdL l ((0:Nat):Int)≤16384
   ·by_cases h2:p=f
    ·refine .inr ⟨h2,?_⟩
     by_cases h3:0≤rdL l ((0:Nat):Int)∧rdL l ((0:Nat):Int)≤h
     ·exact absurd ⟨h1,fun _=>h3,fun h=>absurd h (by omega)⟩ hk
     ·omega
    ·exact absurd ⟨h1,fun h=>absurd h h2,fun h=>absurd h (by omega)⟩ hk
   ·exact .inl h1
 ·have ep:max 0 (w64 ((c:Int)-1))=((c-1:Nat):Int):=by rw[bV (by omega) (by omega)];omega
  have hg2:(0:Int)≤((c-1:Nat):Int)∧((c-1:Nat):Int)<((l.length:Nat):Int):=by omega
  have e0:decide ((0:Int)<(c:Int))=true:=decide_eq_true (by omega)
  simp only[gPo hg,ep,gPo hg2,e0,if_true,orB,andB,oB,g5]
  by_cases hk:l9 f h p l c
  ·rw[if_neg,if_pos (decide_eq_true hk)]
   have hk1:=hk.1
   have hk2:=hk.2.1
   have hk3:=hk.2.2 (by omega)
   simp only[Bool.or_eq_true,Bool.and_eq_true,Bool.not_eq_true',decide_eq_true_eq,decide_eq_false_iff_not,beq_iff_eq]
   intro hh
   rcases hh with(h1|⟨h1,h2⟩)|⟨h1,h2⟩
   ·exact h1 hk1
   ·have:=hk2 h1;omega
   ·have:=hk3 h1;omega
  ·rw[if_pos,if_neg (by rw[decide_eq_true_eq];exact hk)]
   simp only[Bool.or_eq_true,Bool.and_eq_true,Bool.not_eq_true',decide_eq_true_eq,decide_eq_false_iff_not,beq_iff_eq]
   by_cases h1 : -1≤rdL l (c:Int)∧rdL l (c:Int)≤16384
   ·by_cases h2:p=f→0≤rdL l (c:Int)∧rdL l (c:Int)≤h
    ·by_cases h3:0≤rdL l ((c-1:Nat):Int)→0≤rdL l (c:Int)∧rdL l (c:Int)≤rdL l ((c-1:Nat):Int)
     ·exact absurd ⟨h1,h2,fun _=>h3⟩ hk
     ·exact .inr ⟨by omega,by omega⟩
    ·refine .inl (.inr ⟨?_,?_⟩)
     ·exact Classical.byContradiction fun q=>h2 fun e=>absurd e q
     ·exact Classical.byContradiction fun q=>h2 fun _=>⟨by omega,by omega⟩
   ·exact .inl (.inl h1)
theorem row_eq {f h p:Int} {t:TTimes} {b:Bool} (hl:(rdL t.fH p).length=61):∃out,aJ (dv f h t (b,p)) (b,0)=some out∧(match out with
  | .inl u=>u.1=false∧¬∀c:Nat,c<61→l9 f h p (rdL t.fH p) c
  | .inr u=>u.1=b∧∀c:Nat,c<61→l9 f h p (rdL t.fH p) c) :=
 bf (body:=dv f h t (b,p))
  (fun s=>∃c:Nat,s=(b,(c:Int))∧c≤61∧∀j:Nat,j<c→l9 f h p (rdL t.fH p) j)
  (fun _ out=>match out with
   | .inl u=>u.1=false∧¬∀c:Nat,c<61→l9 f h p (rdL t.fH p) c
   | .inr u=>u.1=b∧∀c:Nat,c<61→l9 f h p (rdL t.fH p) c)
  (fun s=>61-s.2.toNat) (by
   rintro _ ⟨c,rfl,hc,hall⟩
   rcases Nat.lt_or_ge c 61 with hlt|hge
   ·rw[cell_eq hl hlt]
    by_cases hk:l9 f h p (rdL t.fH p) c
    ·rw[if_pos (decide_eq_true hk)]
     refine .inl ⟨_,E,⟨c+1,E,hlt,fun j hj=>?_⟩,by dsimp only;omega,fun t h=>h⟩
     by_cases e:j=c
     ·rw[e];exact hk
     ·exact hall j (by omega)
    ·rw[if_neg (by rw[decide_eq_true_eq];exact hk)]
     exact .inr ⟨_,E,E,fun hh=>hk (hh c hlt)⟩
   ·unfold dv;dsimp only
    rw[cN (by omega)]
    exact .inr ⟨_,E,E,fun j hj=>hall j (by omega)⟩) (b,0) ⟨0,E,by omega,fun j hj=>by omega⟩
def rO (f h:Int) (t:TTimes) (p:Nat):Prop:=(rdL t.fH (p:Int)).length=61∧∀c:Nat,c<61→l9 f h (p:Int) (rdL t.fH (p:Int)) c
theorem rows5_eq {r:TR} (hR:GoodR r) {f h:Int} {t:TTimes} (hlen:(t.fH.length:Int)=r.fPlaces):∃out,aJ (fX r f h t) (false,0)=some out∧(match out with
  | .inl u=>u.1=false∧¬∀p:Nat,p<t.fH.length→rO f h t p
  | .inr u=>u.1=false∧∀p:Nat,p<t.fH.length→rO f h t p):=by
 have hpr:=hR.places
 exact bf (body:=fX r f h t)
  (fun s=>∃p:Nat,s=(false,(p:Int))∧p≤t.fH.length∧∀j:Nat,j<p→rO f h t j)
  (fun _ out=>match out with
   | .inl u=>u.1=false∧¬∀p:Nat,p<t.fH.length→rO f h t p
   | .inr u=>u.1=false∧∀p:Nat,p<t.fH.length→rO f h t p)
  (fun s=>t.fH.length-s.2.toNat) (by
   rintro _ ⟨p,rfl,hp,hall⟩
   unfold fX;dsimp only
   rcases Nat.lt_or_ge p t.fH.length with hlt|hge
   ·rw[dl (by omega),gPo (by omega),aZ (by omega)]
    by_cases hl:(rdL t.fH (p:Int)).length=61
    ·rw[if_neg (by simp;omega)]
     obtain⟨out,ho,hp2⟩:=row_eq (f:=f) (h:=h) (p:=(p:Int)) (b:=false) hl
     rw[ho,oB]
     rcases out with u|u
     ·exact .inr ⟨_,E,hp2.1,fun hh=>hp2.2 (hh p hlt).2⟩
     ·refine .inl ⟨_,E,⟨p+1,by dsimp only at hp2 ⊢;rw[hp2.1],hlt,fun j hj=>?_⟩,by dsimp only;omega,fun t h=>h⟩
      by_cases e:j=p
      ·rw[e];exact⟨hl,hp2.2⟩
      ·exact hall j (by omega)
    ·rw[if_pos (by simp;omega)]
     exact .inr ⟨_,E,E,fun hh=>hl (hh p hlt).1⟩
   ·rw[cN (by omega)]
    exact .inr ⟨_,E,E,fun j hj=>hall j (by omega)⟩) (false,0) ⟨0,E,Nat.zero_le _,fun j hj=>by omega⟩
theorem rtrk_eq {r:TR} (hR:GoodR r) {f h:Int} {t:TTimes} (hlen:(t.fH.length:Int)=r.fPlaces) (hrow:∀p:Nat,p<t.fH.length→rO f h t p) {k:Nat} (hk:k<r.fTracks.length) {b:Bool}:∃out,aJ (fO r t (b,(k:Int))) (b,0)=some out∧(match out with
  | .inl u=>u.1=false∧¬∀c:Nat,c<61→okC t r.fTracks[k] c
  | .inr u=>u.1=b∧∀c:Nat,c<61→okC t r.fTracks[k] c):=by
 have hT:=hR.trk _ (List.getElem_mem hk)
 have hfr:=hT.fr
 have hto:=hT.to
 have htl:=hT.toll
 obtain⟨x1,ex1⟩:∃n:Nat,(r.fTracks[k]).fFrom=(n:Int):=⟨(r.fTracks[k]).fFrom.toNat,by omega⟩
 obtain⟨x2,ex2⟩:∃n:Nat,(r.fTracks[k]).fTo=(n:Int):=⟨(r.fTracks[k]).fTo.toNat,by omega⟩
 have g1:=hrow x1 (by omega)
 have g2:=hrow x2 (by omega)
 unfold rO at g1 g2
 rw[←ex1]at g1
 rw[←ex2]at g2
 have g2l:=g2.1
 have g1l:=g1.1
 exact bf (body:=fO r t (b,(k:Int)))
  (fun s=>∃c:Nat,s=(b,(c:Int))∧c≤61∧∀j:Nat,j<c→okC t r.fTracks[k] j)
  (fun _ out=>match out with
   | .inl u=>u.1=false∧¬∀c:Nat,c<61→okC t r.fTracks[k] c
   | .inr u=>u.1=b∧∀c:Nat,c<61→okC t r.fTracks[k] c)
  (fun s=>61-s.2.toNat) (by
   rintro _ ⟨c,rfl,hc,hall⟩
   unfold fO;dsimp only
   rw[aU hk,bV (x:=(c:Int)+(r.fTracks[k]).fToll) (by omega) (by omega)]
   by_cases h60:(c:Int)+(r.fTracks[k]).fToll≤60
   ·have hrg:=(g1.2 c (by omega)).1
    rw[dl h60,gPo (by omega),gPo (by omega),g0,qh hT hrg,oB,gPo (by omega),gPo (by omega),aZ (by omega)]
    have hiff:okC t r.fTracks[k] c↔¬(0≤ry r.fTracks[k] (rdL (rdL t.fH (r.fTracks[k]).fFrom) (c:Int))∧(rdL (rdL t.fH (r.fTracks[k]).fTo) ((c:Int)+(r.fTracks[k]).fToll)<0∨ry r.fTracks[k] (rdL (rdL t.fH (r.fTracks[k]).fFrom) (c:Int))<rdL (rdL t.fH (r.fTracks[k]).fTo) ((c:Int)+(r.fTracks[k]).fToll))):=by
     unfold okC tAt ry
     by_cases h0:rdL (rdL t.fH (r.fTracks[k]).fFrom) (c:Int)<0
     ·rw[if_pos h0]
      exact⟨fun _ hh=>by omega,fun _ q=>by omega⟩
     ·rw[if_neg h0]
      constructor
      ·intro q1 q2
       have:=q1 (by omega) h60 q2.1
       omega
      ·intro q1 q2 q3 q4
       exact⟨by omega,by omega⟩
    by_cases hk2:okC t r.fTracks[k] c
    ·rw[if_neg (by simp only[Bool.and_eq_true,Bool.or_eq_true,decide_eq_true_eq];exact hiff.1 hk2)]
     refine .inl ⟨_,E,⟨c+1,E,by omega,fun j hj=>?_⟩,by dsimp only;omega,fun t h=>h⟩
     by_cases e:j=c
     ·rw[e];exact hk2
     ·exact hall j (by omega)
    ·rw[if_pos (by simp only[Bool.and_eq_true,Bool.or_eq_true,decide_eq_true_eq];exact Classical.byContradiction fun q=>hk2 (hiff.2 q))]
     exact .inr ⟨_,E,E,fun hh=>hk2 (hh c (by omega))⟩
   ·rw[cN h60]
    refine .inr ⟨_,E,E,fun j hj=>?_⟩
    rcases Nat.lt_or_ge j c with h' | h'
    ·exact hall j h'
    ·exact fun _ q _=>by omega) (b,0) ⟨0,E,by omega,fun j hj=>by omega⟩
theorem rV {r:TR} (hR:GoodR r) {f h:Int} (hf:0≤f∧f<r.fPlaces) {t:TTimes} (hlen:(t.fH.length:Int)=r.fPlaces):(∀p:Nat,p<t.fH.length→rO f h t p)↔(∀l∈t.fH,Falling l)∧∀n∈rdL t.fH f,0≤n∧n≤h:=by
 obtain⟨a,rfl⟩:∃a:Nat,f=(a:Int):=⟨f.toNat,by omega⟩
 constructor
 ·intro hh
  refine⟨fun l hl=>?_,fun n hn=>?_⟩
  ·obtain⟨p,hp,rfl⟩:=List.mem_iff_getElem.1 hl
   obtain⟨h1,h2⟩:=hh p hp
   rw[aU hp]at h1 h2
   refine⟨h1,fun c hc=>(h2 c (by omega)).1,fun c hc hc0=>?_⟩
   exact(h2 (c+1) (by omega)).2.2 (by omega) (by rw[show c+1-1=c by omega];exact hc0)
  ·obtain⟨h1,h2⟩:=hh a (by omega)
   obtain⟨c,hc,rfl⟩:=List.mem_iff_getElem.1 hn
   have:=(h2 c (by omega)).2.1 E
   rw[aU hc]at this
   exact this
 ·rintro⟨h1,h2⟩ p hp
  have hF:=h1 _ (List.getElem_mem hp)
  have hl:=hF.len
  refine⟨by rw[aU hp];exact hl,fun c hc=>⟨?_,fun e=>?_,fun h0 hc0=>?_⟩⟩
  ·rw[aU hp]
   exact hF.rng c (by omega)
  ·rw[aU hp]
   refine h2 _ ?_
   have:p=a:=by omega
   subst this
   rw[aU hp,aU (by omega)]
   exact List.getElem_mem _
  ·rw[aU hp]at hc0 ⊢
   have:=hF.fall (c-1) (by omega) hc0
   rw[show c-1+1=c by omega]at this
   exact this
theorem rtimed_eq {r:TR} (hR:GoodR r) {f h:Int} (hf:0≤f∧f<r.fPlaces) {t:TTimes}:jy r f h t=some (decide (Bounded r f h t)):=by
 have hpr:=hR.places
 have hrl:=hR.len
 unfold jy
 by_cases hlen:(t.fH.length:Int)=r.fPlaces
 ·rw[if_neg (by simpa using hlen)]
  obtain⟨out,ho,hp⟩:=rows5_eq hR (f:=f) (h:=h) hlen
  rw[ho,oB]
  rcases out with u|u
  ·dsimp only at hp ⊢
   rw[hp.1,decide_eq_false fun hB:Bounded r f h t=>hp.2 ((rV hR hf hlen).2 ⟨hB.fall,hB.start⟩)]
  ·dsimp only at hp ⊢
   obtain⟨hu,hrow⟩:=hp
   obtain⟨hfall,hst⟩:=(rV hR hf hlen).1 hrow
   rw[hu]
   have hinv:=bf (body:=ig r t)
    (fun s=>∃k:Nat,s=(false,(k:Int))∧k≤r.fTracks.length∧∀i,(hi:i<r.fTracks.length)→i<k→∀c:Nat,c<61→okC t r.fTracks[i] c)
    (fun _ out=>match out with
     | .inl u=>u.1=false∧¬Bounded r f h t
     | .inr _=>Bounded r f h t)
    (fun s=>r.fTracks.length-s.2.toNat) (by
     rintro _ ⟨k,rfl,hk,hall⟩
     unfold ig;dsimp only
     rcases Nat.lt_or_ge k r.fTracks.length with hlt|hge
     ·obtain⟨out,ho,hp⟩:=rtrk_eq hR hlen hrow hlt (b:=false)
      rw[dl (by omega),gPo (by omega),ho,oB,aZ (by omega)]
      rcases out with u|u
      ·exact .inr ⟨_,E,hp.1,fun hB=>hp.2 (hB.step _ (List.getElem_mem hlt))⟩
      ·refine .inl ⟨_,E,⟨k+1,by dsimp only at hp ⊢;rw[hp.1],hlt,fun i hi h=>?_⟩,by dsimp only;omega,fun t h=>h⟩
       rcases Nat.lt_or_ge i k with h' | h'
       ·exact hall i hi h'
       ·have:i=k:=by omega
        subst this;exact hp.2
     ·rw[cN (by omega)]
      refine .inr ⟨_,E,hlen,hfall,hst,fun x hx=>?_⟩
      obtain⟨i,hi,rfl⟩:=List.mem_iff_getElem.1 hx
      exact hall i hi (by omega)) (false,0) ⟨0,E,Nat.zero_le _,fun i hi h=>by omega⟩
   obtain⟨out,hr,hp⟩:=hinv
   rw[hr,oB]
   rcases out with u|u
   ·dsimp only at hp ⊢
    rw[hp.1,decide_eq_false hp.2]
   ·dsimp only at hp ⊢
    rw[decide_eq_true hp]
 ·rw[if_pos (by simpa using hlen),decide_eq_false fun hB:Bounded r f h t=>hlen hB.len]
theorem sQ {r:TR} (hR:GoodR r) {f h:Int} (hh:0≤h) {m:List (Ts × Tl)} (hI:LInv r f h (lS r) [] m) {o:List (List Int)} (hG:Grid r.fPlaces.toNat o) (hL:∀p c:Nat,(p:Int)<r.fPlaces→c≤60→Least r f h (p:Int) (c:Int) (At o p c)):o=(lA r m).fH:=by
 have hl:=hG.1
 refine List.ext_getElem (by unfold lA;simp;omega) fun p h1 h2=>?_
 have e1:(lA r m).fH[p]=nE m (p:Int):=by
  have:=j7 (r:=r) (m:=m) (p:=(p:Int)) (by omega)
  rw[aU h2]at this
  exact this
 rw[e1]
 have hrow:=hG.2 _ (List.getElem_mem h1)
 refine list61 hrow (by simp[nE]) fun c hc=>?_
 rw[iO m _ hc]
 have h3:=hL p c (by omega) (by omega)
 have h4:=td hR hh hI (p:Int) (c:=c) (by omega)
 have e2:At o p c=rdL o[p] (c:Int):=by
  unfold At
  rw[List.getD_eq_getElem?_getD (l:=o),List.getElem?_eq_getElem h1,Option.getD_some,List.getD_eq_getElem?_getD,List.getElem?_eq_getElem (by omega),Option.getD_some,aU (by omega)]
 rw[←e2]
 exact h3.unique h4
theorem nT {r:TR} (hR:GoodR r) {f h:Int} (hf:0≤f∧f<r.fPlaces) (hh:0≤h∧h≤16384) {m:List (Ts × Tl)} (hI:LInv r f h (lS r) [] m):dz r f h=some (lA r m).fH:=by
 obtain⟨o,e,hG,hL⟩:=rY hR hf hh
 rw[e,sQ hR hh.1 hI hG hL]
theorem nS {r:TR} (hR:GoodR r) {f to h:Int} (hh:0≤h∧h≤16384) {j:TJ} (hj:j.fLegs.length≤1000000):eo r f to h j=some (decide (Jny r f to h j)):=by
 rw[←pf hR hh hj,qb hR hh hj,Journey_eq hR hh hj]
 refine congrArg some ?_
 cases e:oe r j.fLegs f h 0 with
 | none=>rfl
 | some x =>
  dsimp only
  have hlow:=sx (r:=r) (f:=f) (h0:=h) j.fLegs (x:=x) .start e
  have:=hlow.low hR
  have e1:decide (0≤x.2.1∧x.2.1≤16384)=decide (x.2.1≤16384):=by
   rw[Bool.eq_iff_iff,decide_eq_true_eq,decide_eq_true_eq]
   omega
  rw[e1]
  cases x.1==to <;> cases x.2.1==j.fA <;> cases x.2.2==j.fToll <;> cases decide (x.2.1≤16384) <;> rfl
set_option linter.unusedSimpArgs false
open Classical
def okP:List (TT × Int)→Int→Int→Prop
 | [],_,_=>True
 | x::l,p,a=>x.1.fFrom=p∧a≤x.2∧dM x.1.fK x.2=x.2∧okP l x.1.fTo (x.2+x.1.fLong)
def endP:List (TT × Int)→Int→Int
 | [],p=>p
 | x::l,_=>endP l x.1.fTo
def endA:List (TT × Int)→Int→Int
 | [],a=>a
 | x::l,_=>endA l (x.2+x.1.fLong)
def pR:List (TT × Int)→Int
 | []=>0
 | x::l=>x.1.fToll+pR l
theorem Tr.along {r:TR} {f h:Int}:∀{l:List (TT × Int)} {p c a:Int},Tr r f h p c a→(∀x∈l,x.1∈r.fTracks)→okP l p a→Tr r f h (endP l p) (c+pR l) (endA l a)
 | [],p,c,a,ht,_,_=>by
  show Tr r f h p (c+0) a
  rw[Int.add_zero];exact ht
 | x::l,p,c,a,ht,hm,⟨h1,h2,h3,h4⟩=>by
  have:=Tr.along (l:=l) (Tr.step x.1 x.2 ht (hm x List.mem_cons_self) h1 h2 h3) (fun y hy=>hm y (List.mem_cons_of_mem _ hy)) h4
  have e:c+pR (x::l)=c+x.1.fToll+pR l:=by show c+(x.1.fToll+pR l)=_;omega
  rw[e]
  exact this
theorem okP_app:∀{l:List (TT × Int)} {p a:Int} (y:TT × Int),okP l p a→y.1.fFrom=endP l p→endA l a≤y.2→dM y.1.fK y.2=y.2→okP (l++[y]) p a∧endP (l++[y]) p=y.1.fTo∧endA (l++[y]) a=y.2+y.1.fLong∧pR (l++[y])=pR l+y.1.fToll
 | [],p,a,y,_,h1,h2,h3=>⟨⟨h1,h2,h3,trivial⟩,E,E,by show y.1.fToll+0=0+y.1.fToll;omega⟩
 | x::l,p,a,y,⟨g1,g2,g3,g4⟩,h1,h2,h3=>by
  obtain⟨k1,k2,k3,k4⟩:=okP_app (l:=l) y g4 h1 h2 h3
  exact⟨⟨g1,g2,g3,k1⟩,k2,k3,by show x.1.fToll+pR (l++[y])=x.1.fToll+pR l+y.1.fToll;omega⟩
theorem Tr.list {r:TR} {f h p c a:Int} (ht:Tr r f h p c a):∃l:List (TT × Int),(∀x∈l,x.1∈r.fTracks)∧okP l f h∧endP l f=p∧endA l h=a∧pR l=c:=by
 induction ht with
 | start=>exact⟨[],fun x hx=>(by cases hx),trivial,E,E,E⟩
 | step t n _ hm hf hn he ih =>
  obtain⟨l,h1,h2,h3,h4,h5⟩:=ih
  obtain⟨k1,k2,k3,k4⟩:=okP_app (l:=l) (t,n) h2 (hf.trans h3.symm) (by rw[h4];exact hn) he
  refine⟨l++[(t,n)],fun x hx=>?_,k1,k2,k3,by rw[k4,h5]⟩
  rcases List.mem_append.1 hx with hx|hx
  ·exact h1 x hx
  ·rw[List.mem_singleton.1 hx];exact hm
theorem Tr.sub {r r':TR} (hs:∀t∈r'.fTracks,t∈r.fTracks) {f h p c a:Int} (ht:Tr r' f h p c a):Tr r f h p c a:=by
 induction ht with
 | start=>exact .start
 | step t n _ hm hf hn he ih=>exact .step t n ih (hs t hm) hf hn he
set_option linter.unusedSimpArgs false
open Classical
set_option linter.unusedSimpArgs false
open Classical
def newP (l:List Int) (c:Nat):Bool:=decide (0≤rdL l (c:Int))&&(c==0||(rdL l ((c-1:Nat):Int) !=rdL l (c:Int)))
def ptsV (l:List Int) (k:Nat):List TPoint:=((List.range k).filter (newP l)).map fun c:Nat=>⟨(c:Int),rdL l (c:Int)⟩
theorem ptsV_succ (l:List Int) (k:Nat):ptsV l (k+1)=ptsV l k++if newP l k=true then[⟨(k:Int),rdL l (k:Int)⟩]else[]:=by
 unfold ptsV
 rw[List.range_succ,List.filter_append,List.map_append]
 by_cases h:newP l k=true
 ·rw[if_pos h,List.filter_cons_of_pos h];rfl
 ·rw[if_neg h,List.filter_cons_of_neg h];rfl
theorem ptsV_len (l:List Int) (k:Nat):(ptsV l k).length≤k:=by
 unfold ptsV
 rw[List.length_map]
 exact Nat.le_trans (List.length_filter_le _ _) (by rw[List.length_range];exact Nat.le_refl _)
theorem rD {l:List Int} (hl:l.length≤1000000):fi l=some (ptsV l l.length):=by
 have hrun:=kD (body:=d9 l) (fun k=>((k:Int),ptsV l k)) l.length (t:=((l.length:Int),ptsV l l.length)) (fun k hk=>by
  have hle:=ptsV_len l k
  unfold d9;dsimp only
  have key:(if((k:Int)==0)=true then(some (true))else(al ((0:Int)≤max 0 (w64 ((k:Int)-1))∧max 0 (w64 ((k:Int)-1))<((l.length:Nat):Int)) (al ((0:Int)≤(k:Int)∧(k:Int)<((l.length:Nat):Int)) (some (((rdL l (max 0 (w64 ((k:Int)-1)))) !=(rdL l (k:Int))))))))=some (k==0||(rdL l ((k-1:Nat):Int) !=rdL l (k:Int))):=by
   by_cases h0:k=0
   ·subst h0;rfl
   ·have e1:max 0 (w64 ((k:Int)-1))=((k-1:Nat):Int):=by rw[bV (by omega) (by omega)];omega
    rw[if_neg (by simp;omega),e1,gPo (by omega),gPo (by omega)]
    have:(k==0)=false:=by simpa using h0
    rw[this,Bool.false_or]
  rw[dl (by omega),gPo (by omega),key,oB,andB,oB,ptsV_succ,aZ (by omega),gPo (by omega),gPo (show(ptsV l k).length+1≤1000000000 by omega)]
  show(if newP l k=true then _ else _)=_
  by_cases h:newP l k=true
  ·rw[if_pos h,if_pos h]
  ·rw[if_neg h,if_neg h,List.append_nil]) (by
  unfold d9;dsimp only
  rw[cN (by omega)])
 have h0:aJ (d9 l) (0,[])=_:=hrun
 unfold fi
 rw[h0,oB]
set_option linter.unusedSimpArgs false
open Classical
theorem inc_ext:∀(a b:List Int),a.Pairwise (· < ·)→b.Pairwise (· < ·)→(∀x,x∈a↔x∈b)→a=b
 | [],[],_,_,_=>rfl
 | [],y::b,_,_,h=>absurd ((h y).2 List.mem_cons_self) (by simp)
 | x::a,[],_,_,h=>absurd ((h x).1 List.mem_cons_self) (by simp)
 | x::a,y::b,ha,hb,h=>by
  have ha':=List.pairwise_cons.1 ha
  have hb':=List.pairwise_cons.1 hb
  have e:x=y:=by
   have h1:=(h x).1 List.mem_cons_self
   have h2:=(h y).2 List.mem_cons_self
   rcases List.mem_cons.1 h1 with q|q
   ·exact q
   ·rcases List.mem_cons.1 h2 with q2|q2
    ·exact q2.symm
    ·have:=hb'.1 x q
     have:=ha'.1 y q2
     omega
  subst e
  refine congrArg (x :: ·) (inc_ext a b ha'.2 hb'.2 fun z=>⟨fun hz=>?_,fun hz=>?_⟩)
  ·rcases List.mem_cons.1 ((h z).1 (List.mem_cons_of_mem _ hz))with q|q
   ·have:=ha'.1 z hz;omega
   ·exact q
  ·rcases List.mem_cons.1 ((h z).2 (List.mem_cons_of_mem _ hz))with q|q
   ·have:=hb'.1 z hz;omega
   ·exact q
theorem rH {r:TR} {f h:Int} {m:List (Ts × Tl)} (h0:∀s l,lab m s=some l→0≤l.f_at) (p:Int) {c:Nat} (hc:c<61):newP (nE m p) c=true↔eb m p (c+1)≠eb m p c:=by
 unfold newP
 rw[Bool.and_eq_true,Bool.or_eq_true,decide_eq_true_eq,iO m p hc]
 constructor
 ·rintro⟨h1,h2|h2⟩
  ·have:c=0:=by simpa using h2
   subst this
   show _≠(-1:Int)
   omega
  ·by_cases hz:c=0
   ·subst hz
    show _≠(-1:Int)
    omega
   ·have:=iO m p (c:=c-1) (by omega)
    rw[show c-1+1=c by omega]at this
    rw[this,bne_iff_ne]at h2
    exact fun e=>h2 e.symm
 ·intro hne
  obtain⟨l,g1,g2,_⟩:=ta hne
  refine⟨by have:=h0 _ _ g1;omega,?_⟩
  by_cases hz:c=0
  ·exact .inl (by simpa using hz)
  ·refine .inr ?_
   have:=iO m p (c:=c-1) (by omega)
   rw[show c-1+1=c by omega]at this
   rw[this,bne_iff_ne]
   exact fun e=>hne e.symm
theorem pts_front {r:TR} {f to h:Int} {m:List (Ts × Tl)} (h0:∀s l,lab m s=some l→0≤l.f_at) {js:List TJ} (hF:FrontOf r f to h m 61 js):ptsV (nE m to) 61=js.map fun j=>⟨j.fToll,j.fA⟩:=by
 have e1:js.map (·.fToll)=((List.range 61).filter (newP (nE m to))).map fun c:Nat=>(c:Int):=by
  refine inc_ext _ _ ?_ ?_ fun x=>?_
  ·rw[List.pairwise_map];exact hF.sorted
  ·rw[List.pairwise_map]
   refine List.Pairwise.filter _ ?_
   exact List.pairwise_lt_range.imp fun h=>by omega
  ·rw[List.mem_map,List.mem_map]
   constructor
   ·rintro⟨j,hj,rfl⟩
    obtain⟨c,c1,c2,c3,c4,_⟩:=hF.each j hj
    exact⟨c,List.mem_filter.2 ⟨List.mem_range.2 c1,(rH (r:=r) (f:=f) (h:=h) h0 to c1).2 c4⟩,c2.symm⟩
   ·rintro⟨c,hc,rfl⟩
    obtain⟨c1,c2⟩:=List.mem_filter.1 hc
    have c1':=List.mem_range.1 c1
    obtain⟨j,hj,e⟩:=hF.every c c1' ((rH (r:=r) (f:=f) (h:=h) h0 to c1').1 c2)
    exact⟨j,hj,e⟩
 have e2:ptsV (nE m to) 61=(js.map (·.fToll)).map fun x:Int=>(⟨x,rdL (nE m to) x⟩:TPoint):=by
  rw[e1]
  unfold ptsV
  rw[List.map_map]
  rfl
 rw[e2,List.map_map]
 refine List.map_congr_left fun j hj=>?_
 obtain⟨c,c1,c2,c3,_⟩:=hF.each j hj
 show(⟨j.fToll,rdL (nE m to) j.fToll⟩:TPoint)=_
 rw[c2,iO m to c1,c3]
theorem rK {r:TR} (hR:GoodR r) {f to h:Int} (hf:0≤f∧f<r.fPlaces) (hto:0≤to∧to<r.fPlaces) (hh:0≤h∧h≤16384) {m:List (Ts × Tl)} (hI:LInv r f h (lS r) [] m) {js:List TJ} (hF:FrontOf r f to h m 61 js):gC r f to h js=some true:=by
 have hBo:=lY hR hf hh hI
 have hlenB:=hBo.len
 have hat:=hI.at0 hh.1
 have h0:∀s l,lab m s=some l→0≤l.f_at:=hat
 have hl61:(nE m to).length=61:=by simp[nE]
 have hpts:fi (nE m to)=some (js.map fun j=>⟨j.fToll,j.fA⟩):=by
  rw[rD (by omega),hl61,pts_front h0 hF]
 have hlen:=hF.len
 unfold gC
 rw[nT hR hf hh hI,oB,gPo (by omega),j7 hto,hpts,oB,if_neg (by simp)]
 have hrun:=kD (body:=dg r f to h js (js.map fun j=>⟨j.fToll,j.fA⟩)) (fun k=>(false,(k:Int))) js.length (t:=.inr (false,(js.length:Int))) (fun k hk=>by
  have hlm:(js.map fun j=>(⟨j.fToll,j.fA⟩:TPoint)).length=js.length:=List.length_map ..
  obtain⟨c,a1,a2,a3,a4,a5,a6⟩:=hF.each _ (List.getElem_mem hk)
  obtain⟨l0,g1,g2,_⟩:=ta a4
  have hlo:=hI.lok _ _ g1
  have b1:=hlo.at0
  have b2:=hlo.at1
  have b3:=hat _ _ g1
  have hJ:Jny r f to h js[k]:=⟨a5,by omega,by omega⟩
  unfold dg;dsimp only
  rw[dl (by omega),gPo (by omega),aU hk,iX,nS hR hh (by omega),decide_eq_true hJ,oB,if_neg (by simp),gPo (by omega),gPo (by omega),aU (show k<(js.map fun j=>(⟨j.fToll,j.fA⟩:TPoint)).length by omega),List.getElem_map,oB]
  dsimp only
  rw[if_neg (by simp),gPo (by omega),gPo (by omega),oB,if_neg (by simp),aZ (by omega)]) (by
  unfold dg;dsimp only
  rw[cN (by omega)])
 have h1:aJ (dg r f to h js (js.map fun j=>⟨j.fToll,j.fA⟩)) (false,0)=_:=hrun
 rw[h1,oB]
theorem last_eq {l:List TJ} (hl:l.length≤1000000) {x:Int} {c:Int}:∃i,aJ (cl l (x,c)) (-1,0)=some (wv2 l c,i):=by
 have hrun:=kD (body:=cl l (x,c)) (fun k=>(wv2 (l.take k) c,(k:Int))) l.length (t:=(wv2 l c,(l.length:Int))) (fun k hk=>by
  unfold cl;dsimp only
  rw[dl (by omega),gPo (by omega),gPo (by omega),aU hk,List.take_succ_eq_append_getElem hk,wv2_app,aZ (by omega)]
  by_cases hc:(l[k]).fToll≤c
  ·rw[dl hc,if_pos hc]
  ·rw[cN hc,if_neg hc]) (by
  unfold cl;dsimp only
  rw[cN (by omega),List.take_length])
 exact⟨_,hrun⟩
theorem pM {r:TR} (hr:∀t∈r.fTracks,t.fK.length≤1000000) {f to h:Int} {l:List TJ} (hl:l.length≤1000) (hlg:∀j∈l,j.fLegs.length≤1000000) {t:TTimes} (ht:t.fH.length≤1000) (hrow:∀x∈t.fH,x.length≤1000):dj r f to h l t=bM r f to h l t∧∃e,bM r f to h l t=some e:=by
 by_cases hv:lD r f to h 0=0
 ·have hA:=lO.1 hv
  have hR:=hA.good
  rw[rb hr hA hl hlg ht hrow]
  refine⟨?_,_,E⟩
  unfold dj
  rw[mw,oB,hv,if_neg (by simp),rtimed_eq hR hA.fr,oB]
  by_cases hB:Bounded r f h t
  ·rw[decide_eq_true hB,if_neg (by simp)]
   have hto:=hA.to
   have hlen:=hB.len
   have hrl:=(hB.fall _ (qp (t:=t) (p:=to) (by omega))).len
   have hinv:=bf (body:=ck r f to h l)
    (fun s=>∃k:Nat,s=(0,(k:Int))∧k≤l.length∧∀i,(hi:i<l.length)→i<k→Jny r f to h l[i]∧gY l i)
    (fun _ out=>match out with
     | .inl u=>u.1=8∧¬((∀j∈l,Jny r f to h j)∧∀i,i<l.length→gY l i)
     | .inr u=>u.1=0∧(∀j∈l,Jny r f to h j)∧∀i,i<l.length→gY l i)
    (fun s=>l.length-s.2.toNat) (by
     rintro _ ⟨k,rfl,hk,hall⟩
     rcases Nat.lt_or_ge k l.length with hlt|hge
     ·have hg:(0:Int)≤(k:Int)∧(k:Int)<((l.length:Nat):Int):=by omega
      have hbody:ck r f to h l (0,(k:Int))=if decide (Jny r f to h l[k]∧gY l k)=true then some (.inl (0,((k+1:Nat):Int)))else some (.inr (.inl (8,(k:Int)))):=by
       unfold ck;dsimp only
       rw[dl (by omega),gPo hg,iX,aU hlt,nS hR hA.hour (hlg _ (List.getElem_mem hlt)),oB,aZ (by omega)]
       by_cases hJ:Jny r f to h l[k]
       ·rw[decide_eq_true hJ,if_neg (by simp)]
        by_cases h0:0<k
        ·have ep:max 0 (w64 ((k:Int)-1))=((k-1:Nat):Int):=by rw[bV (by omega) (by omega)];omega
         have hg2:(0:Int)≤((k-1:Nat):Int)∧((k-1:Nat):Int)<((l.length:Nat):Int):=by omega
         rw[dl (by omega)]
         simp only[ep,gPo hg,gPo hg2,orB,oB]
         have hk':rdL l (k:Int)=l[k]:=aU hlt
         by_cases hs:(rdL l ((k-1:Nat):Int)).fToll<(l[k]).fToll∧(l[k]).fA<(rdL l ((k-1:Nat):Int)).fA
         ·rw[if_neg (by simp only[Bool.or_eq_true,decide_eq_true_eq];omega),if_pos (by rw[decide_eq_true_eq];exact⟨hJ,fun _=>by rw[hk'];exact hs⟩)]
         ·rw[if_pos (by simp only[Bool.or_eq_true,decide_eq_true_eq];omega),if_neg (by rw[decide_eq_true_eq];exact fun hh=>hs (by have:=hh.2 h0;rw[hk']at this;exact this))]
        ·rw[cN (by omega),oB,oB,if_neg (by simp),if_pos (by rw[decide_eq_true_eq];exact⟨hJ,fun q=>absurd q h0⟩)]
       ·rw[decide_eq_false hJ,if_pos (by rfl),oB,if_pos E,if_neg (by rw[decide_eq_true_eq];exact fun hh=>hJ hh.1)]
      by_cases hc:Jny r f to h l[k]∧gY l k
      ·rw[if_pos (decide_eq_true hc)]at hbody
       refine .inl ⟨_,hbody,⟨k+1,E,hlt,fun i hi h=>?_⟩,by dsimp only;omega,fun t h=>h⟩
       by_cases e:i=k
       ·subst e;exact hc
       ·exact hall i hi (by omega)
      ·rw[if_neg (by rw[decide_eq_true_eq];exact hc)]at hbody
       exact .inr ⟨_,hbody,E,fun hh=>hc ⟨hh.1 _ (List.getElem_mem hlt),hh.2 k hlt⟩⟩
     ·refine .inr ⟨.inr (0,(k:Int)),?_,E,fun j hj=>?_,fun i hi=>(hall i hi (by omega)).2⟩
      ·unfold ck;dsimp only
       rw[cN (by omega)]
      ·obtain⟨i,hi,rfl⟩:=List.mem_iff_getElem.1 hj
       exact(hall i hi (by omega)).1) (0,0) ⟨0,E,Nat.zero_le _,fun i hi h=>by omega⟩
   obtain⟨out,ho,hp⟩:=hinv
   rw[ho,oB]
   rcases out with u|u
   ·dsimp only at hp ⊢
    rw[hp.1,if_neg fun hh=>hp.2 ⟨hh.2.1,hh.2.2.1⟩]
   ·dsimp only at hp ⊢
    obtain⟨hu,hJ,hS⟩:=hp
    rw[hu]
    have hinv:=bf (body:=eg to l t)
     (fun s=>∃c:Nat,s=(0,(c:Int))∧c≤61∧∀j:Nat,j<c→rdL (rdL t.fH to) (j:Int)=wv2 l (j:Int))
     (fun _ out=>match out with
      | .inl u=>u.1=8∧¬∀j:Nat,j<61→rdL (rdL t.fH to) (j:Int)=wv2 l (j:Int)
      | .inr u=>∀j:Nat,j<61→rdL (rdL t.fH to) (j:Int)=wv2 l (j:Int))
     (fun s=>61-s.2.toNat) (by
      rintro _ ⟨c,rfl,hc,hall⟩
      unfold eg;dsimp only
      rcases Nat.lt_or_ge c 61 with hlt|hge
      ·obtain⟨i,ei⟩:=last_eq (l:=l) (by omega) (x:=0) (c:=(c:Int))
       rw[dl (by omega),ei,oB,gPo (by omega),gPo (by omega),aZ (by omega)]
       dsimp only
       by_cases he:rdL (rdL t.fH to) (c:Int)=wv2 l (c:Int)
       ·rw[if_neg (by simp[he])]
        refine .inl ⟨_,E,⟨c+1,E,hlt,fun j hj=>?_⟩,by dsimp only;omega,fun t h=>h⟩
        by_cases e:j=c
        ·subst e;exact he
        ·exact hall j (by omega)
       ·rw[if_pos (by simpa using he)]
        exact .inr ⟨_,E,E,fun hh=>he (hh c hlt)⟩
      ·rw[cN (by omega)]
       exact .inr ⟨_,E,fun j hj=>hall j (by omega)⟩) (0,0) ⟨0,E,by omega,fun j hj=>by omega⟩
    obtain⟨out2,ho2,hp2⟩:=hinv
    rw[ho2,oB]
    rcases out2 with v|v
    ·dsimp only at hp2 ⊢
     rw[hp2.1,if_neg fun hh=>hp2.2 fun j hj=>by rw[hh.2.2.2,sj l hj]]
    ·dsimp only at hp2 ⊢
     rw[if_pos ⟨hB,hJ,hS,list61 hrl (by simp[wRow]) fun c hc=>by rw[sj l hc];exact hp2 c hc⟩]
  ·rw[decide_eq_false hB,if_pos (by rfl),if_neg fun hh=>hB hh.1]
 ·unfold dj bM
  rw[mw,re hr,oB,oB,if_pos (by simpa using hv),if_pos (by simpa using hv)]
  exact⟨E,_,E⟩
set_option linter.unusedSimpArgs false
theorem mn:bB=some true:=by kernel_rfl
set_option linter.unusedSimpArgs false
open Classical
theorem rows_eq {t:TTimes} (hl:t.fH.length≤9223372036854775807):∃b,eD t=some b∧(b=true→t.fH.length≤20∧∀l∈t.fH,l.length≤80):=by
 have hinv:=bf (body:=fu t)
  (fun s=>∃k:Nat,s=(false,(k:Int))∧k≤t.fH.length∧∀i,(hi:i<t.fH.length)→i<k→(t.fH[i]).length≤80)
  (fun _ out=>match out with
   | .inl u=>u.1=false
   | .inr _=>∀i,(hi:i<t.fH.length)→(t.fH[i]).length≤80)
  (fun s=>t.fH.length-s.2.toNat) (by
   rintro _ ⟨k,rfl,hk,hall⟩
   unfold fu;dsimp only
   rcases Nat.lt_or_ge k t.fH.length with hlt|hge
   ·rw[dl (by omega),gPo (by omega),aU hlt,aZ (by omega)]
    by_cases hc:80<(((t.fH[k]).length:Nat):Int)
    ·rw[if_pos (decide_eq_true hc)]
     exact .inr ⟨_,E,E⟩
    ·rw[if_neg (by simpa using hc)]
     refine .inl ⟨_,E,⟨k+1,E,hlt,fun i hi h=>?_⟩,by dsimp only;omega,fun t h=>h⟩
     rcases Nat.lt_or_ge i k with h' | h'
     ·exact hall i hi h'
     ·have:i=k:=by omega
      subst this;omega
   ·rw[cN (by omega)]
    exact .inr ⟨_,E,fun i hi=>hall i hi (by omega)⟩) (false,0) ⟨0,E,Nat.zero_le _,fun i hi h=>by omega⟩
 obtain⟨out,hr,hp⟩:=hinv
 unfold eD
 rw[hr,oB]
 rcases out with u|u
 ·exact⟨_,E,fun h=>by dsimp only at hp h;rw[hp]at h;cases h⟩
 ·refine⟨_,E,fun h=>⟨by have:=of_decide_eq_true h;omega,fun l hl=>?_⟩⟩
  obtain⟨i,hi,rfl⟩:=List.mem_iff_getElem.1 hl
  exact hp i hi
set_option linter.unusedSimpArgs false
open Classical
theorem sJ {r:TR} (hr:∀t∈r.fTracks,t.fK.length≤1000000) (f to h:Int):(lD r f to h 0≠0∧gr r f to h=some ([],lD r f to h 0))∨(AskedOk r f to h 0∧∃m js,fe r f h=some m∧LInv r f h (lS r) [] m∧hY r f to h=some js∧FrontOf r f to h m 61 js∧gr r f to h=some (js,0)):=by
 unfold gr
 rw[re hr,oB]
 by_cases hv:lD r f to h 0=0
 ·have hA:=lO.1 hv
  obtain⟨m,js,h1,h2,h3,h4⟩:=front_ok hA.good hA.fr hA.to hA.hour
  rw[if_neg (by simp[hv]),h3,oB]
  exact .inr ⟨hA,m,js,h1,h2,E,h4,E⟩
 ·rw[if_pos (by simpa using hv)]
  exact .inl ⟨hv,E⟩
theorem briefs_eq {l:List TJ} (hl:l.length≤1000000):∃out,aJ (bO l) (false,0)=some out∧(match out with
  | .inl u=>u.1=true
  | .inr _=>∀j∈l,j.fLegs.length≤40):=by
 exact bf (body:=bO l)
  (fun s=>∃k:Nat,s=(false,(k:Int))∧k≤l.length∧∀i,(hi:i<l.length)→i<k→(l[i]).fLegs.length≤40)
  (fun _ out=>match out with
   | .inl u=>u.1=true
   | .inr _=>∀j∈l,j.fLegs.length≤40)
  (fun s=>l.length-s.2.toNat) (by
   rintro _ ⟨k,rfl,hk,hall⟩
   unfold bO dV;dsimp only
   rcases Nat.lt_or_ge k l.length with hlt|hge
   ·rw[dl (by omega),gPo (by omega),oB,aU hlt,aZ (by omega)]
    by_cases hc:(((l[k]).fLegs.length:Nat):Int)≤40
    ·rw[if_neg (by simpa using hc)]
     refine .inl ⟨_,E,⟨k+1,E,hlt,fun i hi h=>?_⟩,by dsimp only;omega,fun t h=>h⟩
     rcases Nat.lt_or_ge i k with h' | h'
     ·exact hall i hi h'
     ·have:i=k:=by omega
      subst this;omega
    ·rw[if_pos (by simpa using hc),mn]
     exact .inr ⟨_,E,E⟩
   ·rw[cN (by omega)]
    refine .inr ⟨_,E,fun j hj=>?_⟩
    obtain⟨i,hi,rfl⟩:=List.mem_iff_getElem.1 hj
    exact hall i hi (by omega)) (false,0) ⟨0,E,Nat.zero_le _,fun i hi h=>by omega⟩
set_option linter.unusedSimpArgs false
open Classical
theorem briefs2_eq {l:List TJ} (hl:l.length≤1000000):∃out,aJ (cH l) (false,0)=some out∧(match out with
  | .inl u=>u.1=true
  | .inr _=>∀j∈l,j.fLegs.length≤40):=by
 have e:cH l=bO l:=rfl
 rw[e]
 exact briefs_eq hl
theorem CartFronts_true (r:TR) (f to h:Int) (l:List TJ) (t:TTimes) (hr:TRoads_rg r) (h1:Rg_i64 f) (h2:Rg_i64 to) (h3:Rg_i64 h) (hlr:Rg_list TJourney_rg l) (ht:TTimes_rg t):dI r f to h l t=some true:=by
 obtain⟨b1,e1,hfew⟩:=few_eq (r:=r) hr.2.1
 obtain⟨b2,e2,hrows⟩:=rows_eq (t:=t) ht.1
 unfold dI
 rw[e1,e2]
 simp only[oB,orB]
 by_cases hb:((!b1||decide (20<((l.length:Nat):Int))) || !b2)=true
 ·rw[if_pos hb,mn];rfl
 ·rw[if_neg hb]
  have hb':=Bool.eq_false_iff.2 hb
  simp only[Bool.or_eq_false_iff,Bool.not_eq_false',decide_eq_true_eq,decide_eq_false_iff_not]at hb'
  obtain⟨⟨rfl,hll⟩,rfl⟩:=hb'
  have hcl:∀t∈r.fTracks,t.fK.length≤1000000:=fun t ht=>by have:=hfew E t ht;omega
  obtain⟨ht1,ht2⟩:=hrows E
  obtain⟨out,ho,hout⟩:=briefs2_eq (l:=l) (by omega)
  rw[ho,oB]
  rcases out with u|u
  ·dsimp only at hout ⊢
   rw[hout]
  ·dsimp only at hout ⊢
   obtain⟨hcf,ec,hec⟩:=pM hcl (f:=f) (to:=to) (h:=h) (l:=l) (by omega) (fun j hj=>by have:=hout j hj;omega) (t:=t) (by omega) fun x hx=>by have:=ht2 x hx;omega
   have hcf2:=hcf
   rw[hec]at hcf2
   rw[mn,hec,hcf2]
   rcases sJ hcl f to h with⟨hv,e3⟩|⟨hA,m,js,hm,hI,hfr,hF,e3⟩
   ·have e4:gk r f to h=some ⟨[],lD r f to h 0⟩:=by
     unfold gk
     rw[mw,oB,if_pos (by simpa using hv)]
    rw[e3,e4,oB,oB]
    dsimp only
    rw[if_neg (by simp),if_neg (by simpa using hv),oB,oB,if_neg (by simp),oB,if_pos E,oB,oB,oB]
    simp
   ·have hR:=hA.good
    have hto:=hA.to
    have hBo:=lY hR hA.fr hA.hour hI
    have hlenB:=hBo.len
    have hl61:(nE m to).length=61:=by simp[nE]
    have e4:gk r f to h=some ⟨ptsV (nE m to) 61,0⟩:=by
     unfold gk
     rw[mw,lO.2 hA,oB,if_neg (by simp),nT hR hA.fr hA.hour hI,oB,gPo (by omega),j7 hto,rD (by omega),hl61,oB]
    rw[e3,e4,oB,oB]
    dsimp only
    rw[if_neg (by simp),if_pos (by rfl),rK hR hA.fr hto hA.hour hI hF,oB,oB,oB,if_neg (by simp),oB,if_pos E,oB,oB,oB]
    simp
end Go.Proofs.YthndghnkebboaaaGreat
