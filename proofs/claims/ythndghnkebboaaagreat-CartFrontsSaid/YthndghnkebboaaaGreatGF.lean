import Derived.Test.YthndghnkebboaaaGreatGz
import Derived.Test.YthndghnkebboaaaGreatGy
import Derived.Laws.CopyRow
set_option linter.unusedVariables false
namespace Go.Proofs.YthndghnkebboaaaGreat
open Go.RowKit (Below)
section
variable {r : Option Nat} {n : Nat} {P : Program} {ops : Array Oper} {Q : Exit → Act → World → Prop}
def im (Q:Exit→Act→World→Prop):Exit→Act→World→Prop:=fun e a w=>e=.normal∧Q .normal a w
def freeB (ops:Array Oper) (k i:Nat):Bool:=decide (i<k)&&match ops[i]? with
 | some ⟨some _,.move _,_,_,af,none⟩=>af.all fun e => !Region.binds .any e
 | _=>false
def tailF (ops:Array Oper) (fr:List Nat) (k:Nat):Bool :=
 decide (k≤ops.size)&&(decide (k=ops.size)||(
 (List.range k).all (fun i=>fr.contains i||(List.range (k+1)).any fun j=>decide (i<j)&&tailB.Region.waitsB ops j i) &&
 (List.range ops.size).all fun t=>decide (t≤k)||tailB.Region.waitsB ops t (t-1)))&&fr.all (freeB ops k)
theorem wpIn_past {o:Oper} {a:Act} {d:Tmp} {v:Value} {W:World} {K:Act→World→Prop} (hs:∀cs b,o.op ≠ .select cs b) (hd:∀c,o.op ≠ .defer c) (hdst:o.dst≠some d) (hev:∀x∈o.op.operands,a.eval x=(a.put (some d) v).eval x)
  {x:Operand} (hx:∀u,(a.put o.dst u).eval x=a.eval x) (h:o.wpIn (Fw r) n P (a.put (some d) v) W K (im Q)):o.wpIn (Fw r) n P a W (fun a' W'=>a'.eval x=a.eval x∧K (a'.put (some d) v) W') (im Q):=by
 refine⟨fun _ _=>by cases r <;> trivial,?_⟩
 have h2:=h.2
 have e:o.semAt r a.eval=o.semAt r (a.put (some d) v).eval:=by
  have e1:execOp a.eval o=execOp (a.put (some d) v).eval o:=execOp_congr o hs hev
  cases r with
  | none=>rw[Oper.semAt_none,Oper.semAt_none,e1]
  | some l=>rw[Oper.semAt_some l _ o hd,Oper.semAt_some l _ o hd,e1]
 have e0:(Fw r).round=r:=by cases r <;> rfl
 rw[e0]at h2 ⊢
 rw[e]
 have hp:∀u,(a.put o.dst u).put (some d) v=(a.put (some d) v).put o.dst u:=fun u=>Act.put_comm _ _ _ (fun d' h1 h2=>by
  rw[h1]at hdst
  exact hdst h2.symm)
 generalize (o.semAt r (a.put (some d) v).eval).run P W=res at h2 ⊢
 match res,h2 with
 | .ok (.value u) W',h2=>refine⟨hx u,?_⟩;rw[hp];exact h2
 | .ok .skip W',h2=>refine⟨hx undef,?_⟩;rw[hp];exact h2
 | .ok (.defer d') W',h2 =>
  refine⟨(by have:=hx undef;rw[←this];cases o.dst <;> rfl),?_⟩
  have:({ a with defers:=d'::a.defers }.put o.dst undef).put (some d) v=({ (a.put (some d) v)with defers:=d'::(a.put (some d) v).defers }).put o.dst undef:=by
   rw[Act.put_comm _ _ _ (fun d' h1 h2=>by rw[h1]at hdst;exact hdst h2.symm)]
   rfl
  rw[this]
  exact h2
 | .ok (.enter f args) W',h2 =>
  refine⟨h2.1,h2.2.mono ?_⟩
  rintro(_|_|_) w hw
  ·refine⟨hx _,?_⟩;rw[hp];exact hw
  ·exact absurd hw.1 (by intro h;cases h)
  ·exact hw
 | .ok (.row row args) W',h2 =>
  refine⟨h2.1,?_⟩
  have h3:=h2.2
  have e9:(fun(u:Value) (w:World)=>(a.put o.dst u).eval x=a.eval x∧K ((a.put o.dst u).put (some d) v) w)=fun u w=>K ((a.put (some d) v).put o.dst u) w:=by funext u w;rw[hp,hx u];simp
  show RowsIn _ _ _ _ _ _ (fun(u:Value) (w:World)=>(a.put o.dst u).eval x=a.eval x∧K ((a.put o.dst u).put (some d) v) w)
  rw[e9]
  exact h3
 | .ok (.round l f tmps assign body) W',h2 =>
  refine⟨h2.1,h2.2.mono ?_⟩
  rintro(_|_|_) w hw
  ·refine⟨hx _,?_⟩;rw[hp];exact hw
  ·exact absurd hw.1 (by intro h;cases h)
  ·exact hw
 | .halt (.panic u) W',h2=>exact absurd h2.1 (by intro h;cases h)
theorem any_front (hO:iE ops=true) {i d:Nat} {x:Operand} {ty:TypeId} {pos:String} {af:Array Edge} (ho:ops[i]? = some ⟨some d,.move x,ty,pos,af,none⟩) (haf:∀e∈af,Region.binds .any e=false):∀(c:Nat) (listed:Array Bool) (a:Act) (W:World),listed.size=ops.size→listed.getD i false=false →
  (∀j oj,ops[j]? = some oj→listed.getD j false=true→∀e∈oj.after,Region.binds .any e=true→listed.getD e.on false=true) →
  wpAnyIn (Fw r) n P .any ops (im Q) c (listed.setIfInBounds i true) (a.put (some d) (a.eval x)) W→wpAnyIn (Fw r) n P .any ops (im Q) (c+1) listed a W:=by
 intro c
 have hlt:i<ops.size:=(Array.getElem?_eq_some_iff.1 ho).1
 induction c with
 | zero =>
  intro listed a W hsz hun hcl h
  refine⟨fun h0=>?_,fun j hj=>?_⟩
  ·have:i∈Region.ready .any ops listed:=mem_ready.2 ⟨by rw[bN (by omega) true false];exact hun,_,ho,fun e he hb=>by rw[haf e he]at hb;cases hb⟩
   rw[h0]at this;cases this
  ·by_cases e:j=i
   ·subst e
    unfold wpOpIn
    simp only[ho]
    rw[if_pos (show Region.wanted (⟨some d,.move x,ty,pos,af,none⟩:Oper) (yielded ops a.tmps)=true from E)]
    exact gh (C:=fun W'=>W'=W) (C':=fun W'=>W'=W) (bK E) E (fun W' hW'=>by subst hW';exact h)
   ·obtain⟨hu,oj,hoj,hall⟩:=mem_ready.1 hj
    have hjs:j<ops.size:=(Array.getElem?_eq_some_iff.1 hoj).1
    have hj':j∈Region.ready .any ops (listed.setIfInBounds i true):=mem_ready.2 ⟨by
     rw[bN (by simp;omega) true false,bp (by omega),bN (by omega) false true,hu];simpa using e,oj,hoj,fun e' he hb=>by rw[bp (by omega),hall e' he hb];rfl⟩
    rw[h.1]at hj';cases hj'
 | succ c ih =>
  intro listed a W hsz hun hcl h
  refine⟨fun h0=>?_,fun j hj=>?_⟩
  ·have:i∈Region.ready .any ops listed:=mem_ready.2 ⟨by rw[bN (by omega) true false];exact hun,_,ho,fun e he hb=>by rw[haf e he]at hb;cases hb⟩
   rw[h0]at this;cases this
  ·by_cases e:j=i
   ·subst e
    unfold wpOpIn
    simp only[ho]
    rw[if_pos (show Region.wanted (⟨some d,.move x,ty,pos,af,none⟩:Oper) (yielded ops a.tmps)=true from E)]
    exact gh (C:=fun W'=>W'=W) (C':=fun W'=>W'=W) (bK E) E (fun W' hW'=>by subst hW';exact h)
   ·obtain⟨hu,oj,hoj,hall⟩:=mem_ready.1 hj
    have hjs:j<ops.size:=(Array.getElem?_eq_some_iff.1 hoj).1
    have hj':j∈Region.ready .any ops (listed.setIfInBounds i true):=mem_ready.2 ⟨by
     rw[bN (by simp;omega) true false,bp (by omega),bN (by omega) false true,hu];simpa using e,oj,hoj,fun e' he hb=>by rw[bp (by omega),hall e' he hb];rfl⟩
    have h2:=h.2 j hj'
    have hap:(∀q,oj.dst=some q→q∉(⟨some d,.move x,ty,pos,af,none⟩:Oper).looksAt ops)∧oj.dst≠some d∧d∉oj.looksAt ops:=by
     rcases Nat.lt_or_ge i j with hij|hij
     ·rcases (aV hO hoj).2.2.2 i _ hij ho with hap|⟨e',he,hb,hon⟩
      ·have:=Oper.apart_spec hap
       exact⟨this.2.2,this.2.1 d E,this.1 d E⟩
      ·have:=hall e' he hb
       rw[hon,hun]at this;cases this
     ·rcases (aV hO ho).2.2.2 j oj (by omega) hoj with hap|⟨e',he,hb,hon⟩
      ·have:=Oper.apart_spec hap
       exact⟨this.1,fun hc=>this.2.1 d hc E,this.2.2 d E⟩
      ·rw[haf e' he]at hb;cases hb
    obtain⟨hap1,hap2,hap3⟩:=hap
    obtain⟨hsel,hdef,_,_⟩:=aV hO hoj
    have hsame:=g8 (ops:=ops) (o:=oj) (a:=a) (b:=a.put (some d) (a.eval x)) (fun y hy=>(rv a (some d) _ y (by intro hc;cases hc;exact hap3 hy)).symm)
    have hxe:∀u,(a.put oj.dst u).eval x=a.eval x:=fun u=>Act.eval_put (fun q hq hx=>hap1 q hq (by
     rw[hx]
     unfold Oper.looksAt
     exact List.mem_append_left _ (List.mem_filterMap.2 ⟨.tmp q,by simp[Op.operands],E⟩)))
    have hset:(listed.setIfInBounds i true).setIfInBounds j true=(listed.setIfInBounds j true).setIfInBounds i true:=by
     apply Array.ext_getElem?
     intro q
     simp only[Array.getElem?_setIfInBounds]
     by_cases h1:j=q <;> by_cases h2:i=q <;> simp[h1,h2,hsz] <;> omega
    have hcl2:∀q oq,ops[q]? = some oq→(listed.setIfInBounds j true).getD q false=true→∀e∈oq.after,Region.binds .any e=true→(listed.setIfInBounds j true).getD e.on false=true:=fun q oq hoq hlq e' he hb=>by
     rw[bp (by omega)]at hlq ⊢
     by_cases eq:q=j
     ·subst eq
      rw[hoj]at hoq;cases hoq
      rw[hall e' he hb];rfl
     ·have:(q==j)=false:=by simpa using eq
      rw[this,Bool.or_false]at hlq
      rw[hcl q oq hoq hlq e' he hb];rfl
    have hun2:(listed.setIfInBounds j true).getD i false=false:=by
     rw[bp (by omega),hun];simp;omega
    unfold wpOpIn at h2 ⊢
    simp only[hoj]at h2 ⊢
    rw[hsame.2]
    split
    ·rename_i hw
     rw[if_pos hw]at h2
     refine Oper.wpIn_mono (fun a' W' h5=>?_) (wpIn_past (r:=r) (x:=x) hsel hdef hap2 hsame.1 hxe h2)
     refine ih _ _ _ (by simpa using hsz) hun2 hcl2 ?_
     rw[h5.1,←hset]
     exact h5.2
    ·rename_i hw
     rw[if_neg hw]at h2
     refine⟨fun _ _=>by cases r <;> trivial,?_⟩
     refine ih _ _ _ (by simpa using hsz) hun2 hcl2 ?_
     rw[hxe,←hset]
     have h4:=h2.2
     rw[Act.put_comm _ _ _ (fun d' h1 h2=>by rw[h1]at hap2;exact hap2 h2.symm)]
     exact h4
theorem sink {fr:List Nat} {k:Nat} (hkN:k≤ops.size)
  (hT:k=ops.size∨(List.range k).all (fun i=>fr.contains i||(List.range (k+1)).any fun j=>decide (i<j)&&tailB.Region.waitsB ops j i)=true∧((List.range ops.size).all fun t=>decide (t≤k)||tailB.Region.waitsB ops t (t-1))=true) :
  ∀(listed:Array Bool),listed.size=ops.size→(∀j oj,ops[j]? = some oj→listed.getD j false=true→∀e∈oj.after,Region.binds .any e=true→listed.getD e.on false=true) →
   (∀t,k≤t→t<ops.size→listed.getD t false=false)→(∀i,i∈fr→listed.getD i false=true)→∀(d i:Nat),k-i=d→i<k→listed.getD i false=false→∀t,k≤t→t∉Region.ready .any ops listed:=by
 have hchain:∀t,k<t→t<ops.size→tailB.Region.waitsB ops t (t-1)=true:=fun t h1 h2=>by
  rcases hT with hT|hT
  ·omega
  ·have:=List.all_eq_true.1 hT.2 t (List.mem_range.2 h2)
   simp only[Bool.or_eq_true,decide_eq_true_eq]at this
   rcases this with h|h
   ·omega
   ·exact h
 intro listed hsz hcl htl hfr d
 induction d using Nat.strongRecOn with
 | _ d ih =>
  intro i hd hi hun t ht hr
  obtain⟨htu,ot,hot,hall⟩:=mem_ready.1 hr
  have htlt:t<ops.size:=(Array.getElem?_eq_some_iff.1 hot).1
  have hT':(List.range k).all (fun i=>fr.contains i||(List.range (k+1)).any fun j=>decide (i<j)&&tailB.Region.waitsB ops j i)=true:=by
   rcases hT with hT|hT
   ·omega
   ·exact hT.1
  by_cases htk:t=k
  ·subst htk
   have h1:=List.all_eq_true.1 hT' i (List.mem_range.2 hi)
   rw[Bool.or_eq_true]at h1
   have h1:=h1.resolve_left (fun hc=>by
    have:=hfr i (by simpa using hc)
    rw[hun]at this;cases this)
   obtain⟨j,hj,hj2⟩:=List.any_eq_true.1 h1
   simp only[Bool.and_eq_true,decide_eq_true_eq]at hj2
   obtain⟨oj,hoj,e,he,hb,hon⟩:=gg hj2.2
   have hjle:j≤t:=by have:=List.mem_range.1 hj;omega
   by_cases hjt:j=t
   ·subst hjt
    rw[hot]at hoj;cases hoj
    have h2:=hall e he hb
    rw[hon,hun]at h2;cases h2
   ·cases hlj:listed.getD j false with
    | true =>
     have h2:=hcl j oj hoj hlj e he hb
     rw[hon,hun]at h2;cases h2
    | false=>exact ih (t-j) (by omega) j E (by omega) hlj t (Nat.le_refl _) hr
  ·obtain⟨oj,hoj,e,he,hb,hon⟩:=gg (hchain t (by omega) htlt)
   rw[hot]at hoj;cases hoj
   have h2:=hall e he hb
   rw[hon,htl (t-1) (by omega) (by omega)]at h2;cases h2
theorem pl {l:List Oper} (hops:ops=l.toArray) (fr:List Nat) {k:Nat} (hO:iE ops=true) (hkN:k≤ops.size)
  (hT:k=ops.size∨(List.range k).all (fun i=>fr.contains i||(List.range (k+1)).any fun j=>decide (i<j)&&tailB.Region.waitsB ops j i)=true∧((List.range ops.size).all fun t=>decide (t≤k)||tailB.Region.waitsB ops t (t-1))=true)
  {a0:Act} {vals:Nat→Value} {acts:Nat→Act} {C:World→Prop} (hst:∀m,acts m=stA ops vals a0 (fun _=>true) m)
  (hvals:∀(j:Nat) (o:Oper),j<k→j∉fr→ops[j]? = some o→(Region.wanted o (yielded ops (acts j).tmps)=true∧OpY r n P o (acts j).eval C C (vals j))∨(Region.wanted o (yielded ops (acts j).tmps)=false∧vals j=undef))
  (hK:∀W,C W→OL r n P ops (im Q) (l.drop k) (acts k) W) :
  ∀(c:Nat) (listed:Array Bool) (W:World),C W→listed.size=ops.size→left listed k=c →
   (∀j oj,ops[j]? = some oj→listed.getD j false=true→∀e∈oj.after,Region.binds .any e=true→listed.getD e.on false=true) →
   (∀t,k≤t→t<ops.size→listed.getD t false=false)→(∀i,i∈fr→listed.getD i false=true) →
   wpAnyIn (Fw r) n P .any ops (im Q) (c+(ops.size-k)) listed (stA ops vals a0 (fun j=>listed.getD j false) k) W:=by
 have hchain:∀t,k<t→t<ops.size→tailB.Region.waitsB ops t (t-1)=true:=fun t h1 h2=>by
  rcases hT with hT|hT
  ·omega
  ·have:=List.all_eq_true.1 hT.2 t (List.mem_range.2 h2)
   simp only[Bool.or_eq_true,decide_eq_true_eq]at this
   rcases this with h|h
   ·omega
   ·exact h
 -- while an operation of the first k is still to come,no later one comes up
 have hsink:∀(listed:Array Bool),listed.size=ops.size→(∀j oj,ops[j]? = some oj→listed.getD j false=true→∀e∈oj.after,Region.binds .any e=true→listed.getD e.on false=true) →
   (∀t,k≤t→t<ops.size→listed.getD t false=false)→(∀i,i∈fr→listed.getD i false=true)→∀(d i:Nat),k-i=d→i<k→listed.getD i false=false→∀t,k≤t→t∉Region.ready .any ops listed:=by
  intro listed hsz hcl htl hfr d
  induction d using Nat.strongRecOn with
  | _ d ih =>
   intro i hd hi hun t ht hr
   obtain⟨htu,ot,hot,hall⟩:=mem_ready.1 hr
   have htlt:t<ops.size:=(Array.getElem?_eq_some_iff.1 hot).1
   have hT':(List.range k).all (fun i=>fr.contains i||(List.range (k+1)).any fun j=>decide (i<j)&&tailB.Region.waitsB ops j i)=true:=by
    rcases hT with hT|hT
    ·omega
    ·exact hT.1
   by_cases htk:t=k
   ·subst htk
    have h1:=List.all_eq_true.1 hT' i (List.mem_range.2 hi)
    rw[Bool.or_eq_true]at h1
    have h1:=h1.resolve_left (fun hc=>by
     have:=hfr i (by simpa using hc)
     rw[hun]at this;cases this)
    obtain⟨j,hj,hj2⟩:=List.any_eq_true.1 h1
    simp only[Bool.and_eq_true,decide_eq_true_eq]at hj2
    obtain⟨oj,hoj,e,he,hb,hon⟩:=gg hj2.2
    have hjle:j≤t:=by have:=List.mem_range.1 hj;omega
    by_cases hjt:j=t
    ·subst hjt
     rw[hot]at hoj;cases hoj
     have h2:=hall e he hb
     rw[hon,hun]at h2;cases h2
    ·cases hlj:listed.getD j false with
     | true =>
      have h2:=hcl j oj hoj hlj e he hb
      rw[hon,hun]at h2;cases h2
     | false=>exact ih (t-j) (by omega) j E (by omega) hlj t (Nat.le_refl _) hr
   ·obtain⟨oj,hoj,e,he,hb,hon⟩:=gg (hchain t (by omega) htlt)
    rw[hot]at hoj;cases hoj
    have h2:=hall e he hb
    rw[hon,htl (t-1) (by omega) (by omega)]at h2;cases h2
 intro c
 induction c with
 | zero =>
  intro listed W hC hsz hc hcl htl hfr
  have hall:=mT hc
  have hs:stA ops vals a0 (fun j=>listed.getD j false) k=acts k:=by
   rw[hst k]
   have:∀m,m≤k→stA ops vals a0 (fun j=>listed.getD j false) m=stA ops vals a0 (fun _=>true) m:=by
    intro m
    induction m with
    | zero=>intro _;rfl
    | succ m ih=>intro hm;simp only[stA,ih (show m≤k by omega),hall m (by omega)]
   exact this k (Nat.le_refl _)
  rw[hs,Nat.zero_add]
  exact tF hops hO hchain _ k listed _ W E (Nat.le_refl _) hkN hsz (fun j hj=>by
   by_cases h:j<k
   ·rw[hall j h];simp[h]
   ·rw[htl j (by omega) hj];simp[h]) (hK W hC)
 | succ c ih =>
  intro listed W hC hsz hc hcl htl hfr
  -- one of the first k is still to come
  have hex:∃i,i<k∧listed.getD i false=false:=by
   apply Classical.byContradiction
   intro hno
   have:left listed k=0:=by
    unfold left
    rw[List.filter_eq_nil_iff.2 fun j hj=>?_]
    ·rfl
    ·have hj':=List.mem_range.1 hj
     cases hl:listed.getD j false with
     | true=>simp
     | false=>exact absurd ⟨j,hj',hl⟩ hno
   omega
  obtain⟨i0,hi0,hun0⟩:=hex
  have hrdy:∀j,j<ops.size→listed.getD j false=false→∃i,i∈Region.ready .any ops listed:=by
   intro j
   induction j using Nat.strongRecOn with
   | _ j ihj =>
    intro hj hun
    obtain⟨o,ho⟩:∃o,ops[j]? = some o:=⟨_,Array.getElem?_eq_some_iff.2 ⟨hj,E⟩⟩
    by_cases hall:∀e∈o.after,Region.binds .any e=true→listed.getD e.on false=true
    ·exact⟨j,mem_ready.2 ⟨by rw[bN (by omega) true false];exact hun,o,ho,hall⟩⟩
    ·have:∃e∈o.after,Region.binds .any e=true∧listed.getD e.on false=false:=by
      apply Classical.byContradiction
      intro hno
      exact hall fun e he hb=>by
       cases hl:listed.getD e.on false with
       | true=>rfl
       | false=>exact absurd ⟨e,he,hb,hl⟩ hno
     obtain⟨e,he,hb,hf⟩:=this
     have hlt:=(aV hO ho).2.2.1 e he hb
     exact ihj e.on hlt (by omega) hf
  obtain⟨i1,hi1⟩:=hrdy i0 (by omega) hun0
  rw[show c+1+(ops.size-k)=(c+(ops.size-k))+1 by omega]
  refine⟨fun h=>(by rw[h]at hi1;cases hi1),fun i hi=>?_⟩
  obtain⟨hun,o,ho,hall⟩:=mem_ready.1 hi
  have hlt:i<ops.size:=(Array.getElem?_eq_some_iff.1 ho).1
  have hik:i<k:=by
   rcases Nat.lt_or_ge i k with h|h
   ·exact h
   ·exact absurd hi (hsink listed hsz hcl htl hfr _ i0 E hi0 hun0 i h)
  rw[bN (by omega) true false]at hun
  obtain⟨hsel,hdef,_,hord⟩:=aV hO ho
  -- what it looks at is as in the text's order
  have hlook:∀j,j<k→(listed.getD j false)≠decide (j<i)→∀d,gl ops j=some d→¬d∈o.looksAt ops:=by
   intro j hj hne d hd hmem
   obtain⟨oj,hoj⟩:∃oj,ops[j]? = some oj:=⟨_,Array.getElem?_eq_some_iff.2 ⟨by omega,E⟩⟩
   have hdj:oj.dst=some d:=by simpa [gl,hoj]using hd
   rcases Nat.lt_trichotomy j i with h|h|h
   ·-- not listed,yet the operation is ready: it does not wait for it
    have hl:listed.getD j false=false:=by
     cases hl:listed.getD j false with
     | false=>rfl
     | true=>exact absurd (by rw[hl];simp[h]) hne
    rcases hord j oj h hoj with hap|⟨e,he,hb,hon⟩
    ·exact(Oper.apart_spec hap).1 d hdj hmem
    ·have:=hall e he hb
     rw[hon,hl]at this;cases this
   ·subst h
    exact absurd (by rw[hun];simp) hne
   ·have hl:listed.getD j false=true:=by
     cases hl:listed.getD j false with
     | true=>rfl
     | false=>exact absurd (by rw[hl];simp;omega) hne
    rcases (aV hO hoj).2.2.2 i o h ho with hap|⟨e,he,hb,hon⟩
    ·exact(Oper.apart_spec hap).2.2 d hdj hmem
    ·have:=hcl j oj hoj hl e he hb
     rw[hon,hun]at this;cases this
  have hag:=jx (ops:=ops) vals a0 (fun x=>x∈o.looksAt ops) (fun j=>listed.getD j false) (fun j=>decide (j<i)) k hlook
  have hlex:stA ops vals a0 (fun j=>decide (j<i)) k=acts i:=by
   rw[hst i]
   have h1:∀m,m≤i→stA ops vals a0 (fun j=>decide (j<i)) m=stA ops vals a0 (fun _=>true) m:=by
    intro m
    induction m with
    | zero=>intro _;rfl
    | succ m ih=>intro hm;simp only[stA];rw[ih (by omega)];simp;omega
   have h2:∀m,i≤m→stA ops vals a0 (fun j=>decide (j<i)) m=stA ops vals a0 (fun j=>decide (j<i)) i:=by
    intro m
    induction m with
    | zero =>
     intro h
     have:i=0:=by omega
     subst this;rfl
    | succ m ih =>
     intro hm
     by_cases e:i=m+1
     ·rw[e]
     ·simp only[stA]
      rw[if_neg (by simp;omega)]
      exact ih (by omega)
   rw[h2 k (by omega),h1 i (Nat.le_refl _)]
  rw[hlex]at hag
  obtain⟨hev,hwa⟩:=g8 (ops:=ops) (o:=o) (a:=stA ops vals a0 (fun j=>listed.getD j false) k) (b:=acts i) hag.1
  have hins:stA ops vals a0 (fun j=>(listed.setIfInBounds i true).getD j false) k=(stA ops vals a0 (fun j=>listed.getD j false) k).put o.dst (vals i):=by
   have e1:(fun j=>(listed.setIfInBounds i true).getD j false)=fun j=>listed.getD j false||j==i:=funext fun j=>bp (by omega)
   rw[e1,jf (ops:=ops) vals a0 (fun j=>listed.getD j false) i hun k hik (fun j h1 h2 hS d hd he=>?_)]
   ·congr 1
    simp[gl,ho]
   ·obtain⟨oj,hoj⟩:∃oj,ops[j]? = some oj:=⟨_,Array.getElem?_eq_some_iff.2 ⟨by omega,E⟩⟩
    have hdj:oj.dst=some d:=by simpa [gl,hoj]using hd
    have hdi:o.dst=some d:=by simpa [gl,ho]using he
    rcases (aV hO hoj).2.2.2 i o h1 ho with hap|⟨e,he,hb,hon⟩
    ·exact(Oper.apart_spec hap).2.1 d hdi hdj
    ·have:=hcl j oj hoj hS e he hb
     rw[hon,hun]at this;cases this
  have hgo:∀W',C W'→wpAnyIn (Fw r) n P .any ops (im Q) (c+(ops.size-k)) (listed.setIfInBounds i true) ((stA ops vals a0 (fun j=>listed.getD j false) k).put o.dst (vals i)) W':=fun W' hC'=>by
   rw[←hins]
   have hl:=kH (by omega) hun k hik
   refine ih _ W' hC' (by simpa using hsz) (by omega) (fun j oj hoj hlj e he hb=>?_) (fun t h1 h2=>?_) (fun i' hi'=>by rw[bp (by omega),hfr i' hi'];rfl)
   ·rw[bp (by omega)]at hlj ⊢
    by_cases e':j=i
    ·subst e'
     rw[ho]at hoj;cases hoj
     rw[hall e he hb];rfl
    ·have:(j==i)=false:=by simpa using e'
     rw[this,Bool.or_false]at hlj
     rw[hcl j oj hoj hlj e he hb];rfl
   ·rw[bp (by omega),htl t h1 h2]
    simp;omega
  unfold wpOpIn
  simp only[ho]
  rcases hvals i o hik (fun hfi=>by rw[hfr i hfi]at hun;cases hun) ho with⟨hw,hy⟩|⟨hw,hv⟩
  ·rw[hwa,if_pos hw]
   refine gh (mX hsel hdef (fun x hx=>(hev x hx).symm) hy) hC ?_
   exact hgo
  ·rw[hwa,if_neg (by rw[hw];simp)]
   refine⟨fun _ _=>trivial,?_⟩
   have:=hgo W hC
   rwa [hv]at this
theorem wp_drawsF {l:List Oper} (fr:List Nat) (k:Nat) (hm:P.follows .mixedOrders=true) (hO:iE l.toArray=true) (hT:tailF l.toArray fr k=true) {id:Nat} {a0:Act} {W0:World} {C:World→Prop}
  (h0:C { W0 with drawn:=W0.drawn+1 })
  (hq:QW r n P l.toArray C (fun a'=>∀W,C W→OL r n P l.toArray (im Q) (l.drop k) a' W) (l.take k) a0):(Code.region id l.toArray true).wpIn (Fw r) n P Q a0 W0:=by
 refine wpIn_mono (Q:=im Q) ?_ (fun e a w h=>by obtain⟨rfl,h⟩:=h;exact h)
 refine wpIn_region_any hm ?_
 obtain⟨ops,hops⟩:∃ops,ops=l.toArray:=⟨_,E⟩
 rw[←hops]at hO hT hq ⊢
 unfold tailF at hT
 simp only[Bool.and_eq_true,Bool.or_eq_true,decide_eq_true_eq]at hT
 obtain⟨⟨hkN,hT⟩,hF⟩:=hT
 have hlen:(l.take k).length=k:=by rw[hops]at hkN;simp at hkN;simp;omega
 obtain⟨vals,acts,ha0,hacts,hvals,hK⟩:=so (l.take k) 0 a0 (fun j hj=>by
  rw[hlen]at hj
  rw[hops];simp[hj]) hq
 rw[hlen]at hvals hK
 have hst:∀m,acts m=stA ops vals a0 (fun _=>true) m:=by
  intro m
  induction m with
  | zero=>exact ha0
  | succ m ih=>rw[hacts m,Nat.zero_add,ih];simp[stA]
 have main:=pl (r:=r) (n:=n) (P:=P) (Q:=Q) hops fr hO hkN hT (vals:=vals) (acts:=acts) (C:=C) hst (fun j o hj _ ho=>hvals j o hj (by rw[Nat.zero_add];exact ho)) hK
 -- the free ones come first
 have hfree:∀i∈fr,i<k∧∃d x ty pos af,ops[i]? = some ⟨some d,.move x,ty,pos,af,none⟩∧∀e∈af,Region.binds .any e=false:=fun i hi=>by
  have h1:=List.all_eq_true.1 hF i hi
  unfold freeB at h1
  simp only[Bool.and_eq_true,decide_eq_true_eq]at h1
  obtain⟨h1,h2⟩:=h1
  split at h2
  ·rename_i d x ty pos af ho
   exact⟨h1,d,x,ty,pos,af,ho,fun e he=>by simpa using Array.all_eq_true'.1 h2 e he⟩
  ·cases h2
 have front:∀(fs:List Nat),(∀i∈fs,i∈fr)→∀(listed:Array Bool) (c:Nat),listed.size=ops.size →
   (∀j oj,ops[j]? = some oj→listed.getD j false=true→∀e∈oj.after,Region.binds .any e=true→listed.getD e.on false=true) →
   (∀t,k≤t→t<ops.size→listed.getD t false=false)→(∀i∈fr,i∈fs∨listed.getD i false=true)→left listed k+(ops.size-k)=c →
   wpAnyIn (Fw r) n P .any ops (im Q) c listed (stA ops vals a0 (fun j=>listed.getD j false) k) { W0 with drawn:=W0.drawn+1 }:=by
  intro fs
  induction fs with
  | nil =>
   intro _ listed c hsz hcl htl hfr hc
   rw[←hc]
   exact main _ listed _ h0 hsz E hcl htl (fun i hi=>(hfr i hi).elim (fun h=>absurd h List.not_mem_nil) (fun h=>h))
  | cons i fs ih =>
   intro hsub listed c hsz hcl htl hfr hc
   obtain⟨hik,d,x,ty,pos,af,ho,haf⟩:=hfree i (hsub i (List.mem_cons_self ..))
   have hlt:i<ops.size:=by omega
   cases hun:listed.getD i false with
   | true =>
    refine ih (fun j hj=>hsub j (List.mem_cons_of_mem _ hj)) listed c hsz hcl htl (fun j hj=>?_) hc
    rcases hfr j hj with h|h
    ·rcases List.mem_cons.1 h with rfl|h
     ·exact .inr hun
     ·exact .inl h
    ·exact .inr h
   | false =>
    have hl:=kH (by omega) hun k hik
    have hcl':∀j oj,ops[j]? = some oj→(listed.setIfInBounds i true).getD j false=true→∀e∈oj.after,Region.binds .any e=true→(listed.setIfInBounds i true).getD e.on false=true:=fun j oj hoj hlj e he hb=>by
     rw[bp (by omega)]at hlj ⊢
     by_cases e':j=i
     ·subst e'
      rw[ho]at hoj;cases hoj
      rw[haf e he]at hb;cases hb
     ·have:(j==i)=false:=by simpa using e'
      rw[this,Bool.or_false]at hlj
      rw[hcl j oj hoj hlj e he hb];rfl
    obtain⟨c',rfl⟩:∃c',c=c'+1:=⟨c-1,by omega⟩
    have h7:=ih (fun j hj=>hsub j (List.mem_cons_of_mem _ hj)) (listed.setIfInBounds i true) c' (by simpa using hsz) hcl'
     (fun t h1 h2=>by rw[bp (by omega),htl t h1 h2];simp;omega)
     (fun j hj=>by
      rw[bp (by omega)]
      rcases hfr j hj with h|h
      ·rcases List.mem_cons.1 h with rfl|h
       ·right;simp
       ·exact .inl h
      ·right;rw[h];rfl) (by omega)
    refine any_front hO ho haf c' listed _ _ hsz hun hcl ?_
    have e1:(fun j=>(listed.setIfInBounds i true).getD j false)=fun j=>listed.getD j false||j==i:=funext fun j=>bp (by omega)
    rw[e1,jf (ops:=ops) vals a0 (fun j=>listed.getD j false) i hun k hik (fun j h1 h2 hS d' hd he=>?_)]at h7
    ·have e2:gl ops i=some d:=by simp[gl,ho]
     have e3:vals i=(stA ops vals a0 (fun j=>listed.getD j false) k).eval x:=by
      rcases hvals i _ hik (by rw[Nat.zero_add];exact ho)with⟨_,hy⟩|⟨hw,_⟩
      ·have h8:=hy _ h0
       have e4:((⟨some d,.move x,ty,pos,af,none⟩:Oper).semAt r (acts i).eval).run P { W0 with drawn:=W0.drawn+1 }=.ok (.value ((acts i).eval x)) { W0 with drawn:=W0.drawn+1 }:=by
        cases r with
        | none=>rw[Oper.semAt_none];rfl
        | some l'=>rw[Oper.semAt_some l' _ _ (by intro c h;cases h)];rfl
       rw[e4]at h8
       have h9:(acts i).eval x=vals i:=h8.1
       rw[←h9]
       -- what it looks at
       cases x with
       | tmp q =>
        refine pz ?_
        have hag:=jx (ops:=ops) vals a0 (fun y=>y=q) (fun j=>listed.getD j false) (fun j=>decide (j<i)) k (fun j hj hne d' hd' hq'=>by
         obtain⟨oj,hoj⟩:∃oj,ops[j]? = some oj:=⟨_,Array.getElem?_eq_some_iff.2 ⟨by omega,E⟩⟩
         have hdj:oj.dst=some d':=by simpa [gl,hoj]using hd'
         have hlk:d'∈(⟨some d,.move (.tmp q),ty,pos,af,none⟩:Oper).looksAt ops:=by
          rw[hq']
          unfold Oper.looksAt
          exact List.mem_append_left _ (List.mem_filterMap.2 ⟨.tmp q,by simp[Op.operands],E⟩)
         rcases Nat.lt_trichotomy j i with h|h|h
         ·rcases (aV hO ho).2.2.2 j oj h hoj with hap|⟨e,he,hb,_⟩
          ·exact(Oper.apart_spec hap).1 d' hdj hlk
          ·rw[haf e he]at hb;cases hb
         ·subst h
          exact absurd (by simp[hun]) hne
         ·have hlj:listed.getD j false=true:=by
           cases hl':listed.getD j false with
           | true=>rfl
           | false=>exact absurd (by simp[hl'];omega) hne
          rcases (aV hO hoj).2.2.2 i _ h ho with hap|⟨e,he,hb,hon⟩
          ·exact(Oper.apart_spec hap).2.2 d' hdj hlk
          ·have:=hcl j oj hoj hlj e he hb
           rw[hon,hun]at this;cases this)
        have hlex:stA ops vals a0 (fun j=>decide (j<i)) k=acts i:=by
         rw[hst i]
         have h1:∀m,m≤i→stA ops vals a0 (fun j=>decide (j<i)) m=stA ops vals a0 (fun _=>true) m:=by
          intro m
          induction m with
          | zero=>intro _;rfl
          | succ m ih=>intro hm;simp only[stA];rw[ih (by omega)];simp;omega
         have h2:∀m,i≤m→stA ops vals a0 (fun j=>decide (j<i)) m=stA ops vals a0 (fun j=>decide (j<i)) i:=by
          intro m
          induction m with
          | zero =>
           intro h
           have:i=0:=by omega
           subst this;rfl
          | succ m ih =>
           intro hm
           by_cases e:i=m+1
           ·rw[e]
           ·simp only[stA]
            rw[if_neg (by simp;omega)]
            exact ih (by omega)
         rw[h2 k (by omega),h1 i (Nat.le_refl _)]
        rw[hlex]at hag
        exact(hag.1 q E).symm
       | _=>rfl
      ·have:Region.wanted (⟨some d,.move x,ty,pos,af,none⟩:Oper) (yielded ops (acts i).tmps)=true:=rfl
       rw[this]at hw;cases hw
     rw[e2,e3]at h7
     exact h7
    ·obtain⟨oj,hoj⟩:∃oj,ops[j]? = some oj:=⟨_,Array.getElem?_eq_some_iff.2 ⟨by omega,E⟩⟩
     have hdj:oj.dst=some d':=by simpa [gl,hoj]using hd
     have hdi:(some d)=some d':=by simpa [gl,ho]using he
     rcases (aV hO hoj).2.2.2 i _ h1 ho with hap|⟨e,he,hb,hon⟩
     ·exact(Oper.apart_spec hap).2.1 d' hdi hdj
     ·have:=hcl j oj hoj hS e he hb
      rw[hon,hun]at this;cases this
 have hfin:=front fr (fun i hi=>hi) (Array.replicate ops.size false) _ (by simp) (fun j oj hoj hl=>by
  have:j<ops.size:=(Array.getElem?_eq_some_iff.1 hoj).1
  simp[this]at hl) (fun t _ h=>by simp[h]) (fun i hi=>.inl hi) E
 have e1:left (Array.replicate ops.size false) k+(ops.size-k)=ops.size:=by
  have:left (Array.replicate ops.size false) k=k:=by
   unfold left
   rw[List.filter_eq_self.2 fun j hj=>?_]
   ·simp
   ·have:=List.mem_range.1 hj
    simp[show j<ops.size by omega]
  omega
 have e2:stA ops vals a0 (fun j=>(Array.replicate ops.size false).getD j false) k=a0:=by
  have:∀m,m≤k→stA ops vals a0 (fun j=>(Array.replicate ops.size false).getD j false) m=a0:=by
   intro m
   induction m with
   | zero=>intro _;rfl
   | succ m ih=>intro hm;simp only[stA];rw[ih (by omega)];simp[show m<ops.size by omega]
  exact this k (Nat.le_refl _)
 rw[e1,e2]at hfin
 exact hfin
end
section
variable {r : Option Nat} {n : Nat} {P : Program} {Q : Exit → Act → World → Prop} {w0 : World} {L : List Res} {m : Nat} {tm : Nat → Value} {d : List Deferred}
theorem rE (fr:List Nat) (k:Nat) {id:Nat} {l:List Oper} (hm:P.follows .mixedOrders=true) (hO:iE l.toArray=true) (hT:tailF l.toArray fr k=true)
  (h:QX r n P l.toArray (im Q) w0 L (l.drop k) (l.take k) m tm d):CX r n P (.region id l.toArray true) Q w0 L m tm d :=
 fun _ hW=>wp_drawsF fr k hm hO hT (C:=fun W=>Ext w0 W L) hW.drawn h
theorem qI (h:EX Q .normal w0 L m tm d):EX (im Q) .normal w0 L m tm d:=fun W hW=>⟨E,h W hW⟩
end
open Go.RowKit (Below)
def nw (Ds:List Nat):Res where
 dom b:=b∈Ds
 holds W:=∀D∈Ds,W.heap[D]? = some (.deferred (some []))
 loc W W' h _ hh:=fun D hD=>(h D hD).trans (hh D hD)
 inb W hh b hb:=kv (hh b hb)
def colD (Ds:List Nat):List Deferred:=Ds.map fun D=>⟨.collected D,#[]⟩
theorem Cy.dfs {B:Nat} {Ds:List Nat}:Cy B (nw Ds):=fun W b hh hb=>.inr ⟨_,hh b hb,E⟩
theorem Cy.no {B:Nat}:Cy B noR:=fun W b hh hb=>hb.elim
section
variable {r : Option Nat} {n : Nat} {P : Program} {Q : Exit → Act → World → Prop} {w0 : World} {L : List Res} {m : Nat} {tm : Nat → Value} {d : List Deferred}
theorem cx_addDfs {c:Code} (h:CX r n P c Q w0 (L++[nw []]) m tm d):CX r n P c Q w0 L m tm d:=fun W hW =>
 h W (hW.snoc (p:=nw []) (fun D hD=>by cases hD) (fun b hb=>by cases hb) (fun i q hq b hb hb'=>by cases hb'))
theorem ex_dfs {e:Exit} (i j:Nat) (hij:i≠j) {Ds:List Nat} {D:Nat} (hp:L[i]? = some (nw Ds)) (hq:L[j]? = some (dfR D)) (h:D∉Ds→EX Q e w0 ((L.set j noR).set i (nw (D::Ds))) m tm d):EX Q e w0 L m tm d:=fun W hW=>by
 have hi:i<L.length:=(List.getElem?_eq_some_iff.1 hp).1
 have h1:=hW.joinF i j hij hp hq
 have h2:((L.set j noR).set i (p8 (nw Ds) (dfR D)))[i]? = some (p8 (nw Ds) (dfR D)):=by
  rw[List.getElem?_set,if_pos E,if_pos (by simpa using hi)]
 have h3:=h1.tell i h2 (q:=nw (D::Ds)) (fun hh D' hD'=>by
  rcases List.mem_cons.1 hD' with rfl|hD'
  ·exact hW.mem hq
  ·exact hW.mem hp D' hD') (fun b hb=>by
  rcases List.mem_cons.1 hb with rfl|hb
  ·exact .inr E
  ·exact .inl hb)
 rw[List.set_set]at h3
 exact h (fun hD=>hW.sep i j _ _ hp hq hij D hD E) W h3
theorem ex_MN {fn:Func} {R:Ending→World→Prop} {e:Exit} (i:Nat) {Ds:List Nat} (hL:L[i]? = some (nw Ds)) (nd:Ds.Nodup) (he:e=.ret∨e=.normal) (h:EX (bodyPost P fn R) e w0 (L.set i noR) m tm []) :
  EX (bodyPostM (Fw none) 8 P fn R) e w0 L m tm (colD Ds):=fun W hW=>by
 have hi:i<L.length:=(List.getElem?_eq_some_iff.1 hL).1
 have key:∀(Ds:List Nat) (W:World) (dd:List Deferred),Ext w0 W (L.set i (nw Ds))→Ds.Nodup→LeavesInM (Fw none) 8 P fn (act m tm dd).tmps R (colD Ds) .returning W:=by
  intro Ds
  induction Ds with
  | nil =>
   intro W dd hW _
   have h1:Ext w0 W (L.set i noR):=by
    have h2:(L.set i (nw []))[i]? = some (nw []):=by rw[List.getElem?_set,if_pos E,if_pos hi]
    have:=hW.tell i h2 (q:=noR) (fun _=>trivial) (fun b hb=>hb.elim)
    rw[List.set_set]at this
    exact this
   have h2:=h W h1
   rcases he with rfl|rfl <;> exact h2.2
  | cons D Ds ih =>
   intro W dd hW nd
   rw[List.nodup_cons]at nd
   have h2:(L.set i (nw (D::Ds)))[i]? = some (nw (D::Ds)):=by rw[List.getElem?_set,if_pos E,if_pos hi]
   have hm:=hW.mem h2
   have hd:W.heap[D]? = some (.deferred (some [])):=hm D List.mem_cons_self
   have h3:Ext w0 (W.putObj D (.deferred none)) ((L.set i (nw (D::Ds))).set i (nw Ds)) :=
    hW.set h2 (nw Ds) (fun D' hD'=>(World.putObj_heap_other (fun e=>nd.1 (by rw[←e];exact hD'))).trans (hm D' (List.mem_cons_of_mem _ hD'))) E E E (by simp[World.putObj]) (fun b hb hn=>World.putObj_heap_other (fun e=>hn (by rw[e];exact List.mem_cons_self))) (fun b hb=>.inl (List.mem_cons_of_mem _ hb))
   rw[List.set_set]at h3
   exact⟨(by intro h;cases h),.inl ⟨D,_,E,run_takeDeferred hd,ih _ dd h3 nd.2⟩⟩
 have hW':Ext w0 W (L.set i (nw Ds)):=by
  have e:L.set i (nw Ds)=L:=by
   obtain⟨h1,h2⟩:=List.getElem?_eq_some_iff.1 hL
   rw[←h2];simp
  rw[e];exact hW
 have:=key Ds W (colD Ds) hW' nd
 rcases he with rfl|rfl <;> exact this
def rndD {S T:Type} (w0:World) (m:Nat) (I:S→List Res→(Nat→Value)→List Deferred→Prop) (J:T→Exit→List Res→(Nat→Value)→List Deferred→Prop) (st:S ⊕ T):Exit→Act→World→Prop:=fun e a W =>
 match st with
 | .inl s'=>e=.normal∧∃L' tm' d',a=act m tm' d'∧Ext w0 W L'∧I s' L' tm' d'
 | .inr u=>∃L' tm' d',a=act m tm' d'∧Ext w0 W L'∧J u e L' tm' d'
theorem tx {S T:Type} {I:S→List Res→(Nat→Value)→List Deferred→Prop} {J:T→Exit→List Res→(Nat→Value)→List Deferred→Prop} {s':S} (h:I s' L tm d):EX (rndD w0 m I J (.inl s')) .normal w0 L m tm d:=fun _ hW=>⟨E,L,tm,d,E,hW,h⟩
theorem ex_stopD {S T:Type} {I:S→List Res→(Nat→Value)→List Deferred→Prop} {J:T→Exit→List Res→(Nat→Value)→List Deferred→Prop} {u:T} {e:Exit} (h:J u e L tm d):EX (rndD w0 m I J (.inr u)) e w0 L m tm d:=fun _ hW=>⟨L,tm,d,E,hW,h⟩
theorem cx_loopD {S T:Type} {body:S→Option (S ⊕ T)} {c:Code} {s:S} {u:T} (I:S→List Res→(Nat→Value)→List Deferred→Prop) (J:T→Exit→List Res→(Nat→Value)→List Deferred→Prop) (hl:aJ body s=some u) (h0:I s L tm d)
  (round:∀s L tm d st,I s L tm d→body s=some st→CX r n P c (rndD w0 m I J st) w0 L m tm d)
  (after:∀e L tm d,J u e L tm d→e ≠ .normal∧EX Q e w0 L m tm d):CX r n P (.loop c) Q w0 L m tm d:=fun W hW=>by
 let p:Act→World→Nat→Prop:=fun a W k=>∃s L tm d,loopN body k s=some u∧a=act m tm d∧Ext w0 W L∧I s L tm d
 let μ:Act→World→Nat:=fun a W=>open Classical in if h:∃k,p a W k∧∀i,i<k→¬p a W i then Classical.choose h else 0
 have hμ:∀a W k,p a W k→p a W (μ a W)∧∀j,p a W j→μ a W≤j:=fun a W k hk=>by
  have hx:=least (p a W) k hk
  have he:μ a W=Classical.choose hx:=by simp only[μ];rw[dif_pos hx]
  have hs:=Classical.choose_spec hx
  rw[←he]at hs
  exact⟨hs.1,fun j hj=>by
   rcases Nat.lt_or_ge j (μ a W)with h|h
   ·exact absurd hj (hs.2 j h)
   ·exact h⟩
 obtain⟨k,hk⟩:=kd hl
 refine wpIn_loop (fun a W=>∃k,p a W k) μ ⟨k,s,L,tm,d,hk,E,hW,h0⟩ ?_
 rintro a W1 ⟨k,hk⟩
 obtain⟨⟨s1,L1,tm1,d1,hN,rfl,hE,hI⟩,hmin⟩:=hμ a W1 k hk
 cases hj:μ (act m tm1 d1) W1 with
 | zero=>rw[hj]at hN;cases hN
 | succ j =>
  rw[hj]at hN
  unfold loopN at hN
  cases hb:body s1 with
  | none=>rw[hb]at hN;cases hN
  | some st =>
   rw[hb]at hN
   refine wpIn_mono (round s1 L1 tm1 d1 st hI hb W1 hE) ?_
   intro e a2 W2 h2
   cases st with
   | inl s' =>
    obtain⟨rfl,L',tm',d',rfl,hE',hI'⟩:=h2
    have hp:p (act m tm' d') W2 j:=⟨s',L',tm',d',hN,E,hE',hI'⟩
    exact⟨⟨j,hp⟩,by have:=(hμ _ _ _ hp).2 j hp;omega⟩
   | inr u' =>
    obtain⟨L',tm',d',rfl,hE',hJ⟩:=h2
    have:u'=u:=Option.some.inj hN
    subst this
    obtain⟨hne,hex⟩:=after e L' tm' d' hJ
    have h3:=hex W2 hE'
    cases e with
    | normal=>exact absurd E hne
    | _=>exact h3
end
section
variable {r : Option Nat} {n : Nat} {P : Program} {ρ : Operand → Value} {w0 : World} {L : List Res}
variable {t : Option Tmp} {ty : TypeId} {pos : String} {af : Array Edge} {g : Option (Nat × Bool)}
variable {κ β : Type} [DecidableEq κ] {ek : κ → Value} {ok : κ → Bool} {ev : β → Value} {z : β}
theorem y_insertV (i:Nat) {kt et mt b:Nat} {m:List (κ × β)} {x y u:Operand} {k:κ} {v:β} (hL:L[i]? = some (mapV P kt ek ok ev z b m)) (K:KeyE P kt ek ok) (hm:P.underlying mt=some (.map kt et))
  (hx:ρ x=.map (some b)) (hy:ρ y=ek k) (hv:ρ u=ev v) (hr:ok k=true∧m.length<1000000000) :
  OpY r n P ⟨t,.insert mt x y u,ty,pos,af,g⟩ ρ (fun W=>Ext w0 W L) (fun W=>Ext w0 W (L.set i (mapV P kt ek ok ev z b ((k,v)::m)))) undef :=
 fun W hW=>by
  have h:=la (r:=r) (n:=n) (t:=t) (ty:=ty) (pos:=pos) (af:=af) (g:=g) i hL K hm hx hy hv hr W hW
  rw[bQ (by intro c h;cases h)]at h ⊢
  exact h
end
section
variable {β γ : Type}
def seqE (ys:List (Hd × β)) (q:β→Bool):List {y:Hd × β // y∈ys}:=ys.attach.filter fun y=>q y.1.2
theorem seqE_map {ys:List (Hd × β)} {xs:List β} {q:β→Bool} (h:ys.map Prod.snd=xs):(seqE ys q).map (fun y=>y.1.2)=xs.filter q:=by
 subst h
 unfold seqE
 have h1:(ys.attach.filter fun y=>q y.1.2).map (fun y:{y:Hd × β // y∈ys}=>y.1.2)=(ys.attach.map (fun y=>y.1.2)).filter q:=by
  rw[List.filter_map];rfl
 rw[h1]
 congr 1
 have h2:=List.attach_map_subtype_val ys
 have h3:ys.attach.map (fun y=>y.1.2)=(ys.attach.map Subtype.val).map Prod.snd:=by rw[List.map_map];rfl
 rw[h3,h2]
theorem rZ {S T α α':Type} {f:S→α→Option (S ⊕ T)} {g:α'→α}:∀(l:List α') (s:S),iL (fun s y=>f s (g y)) l s=iL f (l.map g) s
 | [],s=>rfl
 | y::l,s=>by
  rw[List.map_cons]
  unfold iL
  cases h:f s (g y)with
  | none=>rfl
  | some st=>cases st with
   | inl s'=>exact rZ l s'
   | inr t=>rfl
theorem foldO_seqE {S T:Type} {f:S→β→Option (S ⊕ T)} {ys:List (Hd × β)} {xs:List β} {q:β→Bool} {s0:S} {st:S ⊕ T} (h:ys.map Prod.snd=xs) (hl:iL f (xs.filter q) s0=some st):iL (fun s (y:{y:Hd × β // y∈ys})=>f s y.1.2) (seqE ys q) s0=some st:=by
 rw[rZ (f:=f) (g:=fun y:{y:Hd × β // y∈ys}=>y.1.2),seqE_map h]
 exact hl
theorem rX {α:Type} (q:α→Bool):∀(l:List α) (s:Nat) (x:α),l[s]? = some x→q x=true→(l.filter q)[((l.take s).filter q).length]? = some x
 | [],s,x,h,_=>by simp at h
 | y::l,0,x,h,hx=>by
  simp at h
  subst h
  simp[hx]
 | y::l,s+1,x,h,hx=>by
  have ih:=rX q l s x (by simpa using h) hx
  rw[List.take_succ_cons,List.filter_cons,List.filter_cons]
  split
  ·simpa using ih
  ·exact ih
theorem n1 {α:Type} (q:α→Bool) (l:List α) (s:Nat) (x:α) (h:l[s]? = some x):((l.take (s+1)).filter q).length=((l.take s).filter q).length+if q x=true then 1 else 0:=by
 rw[List.take_add_one,h,List.filter_append,List.length_append]
 cases hq:q x <;> simp[hq]
end
open Go.RowKit (Below)
section
variable {r : Option Nat} {n : Nat} {P : Program} {ops : Array Oper} {Q : Exit → Act → World → Prop}
theorem qc {k:Nat} (hO:iE ops=true) (hkN:k≤ops.size) {a0:Act} {vals:Nat→Value} {acts:Nat→Act} {C:World→Prop} (hst:∀m,acts m=stA ops vals a0 (fun _=>true) m)
  {listed:Array Bool} {W:World} (hC:C W) (hsz:listed.size=ops.size)
  (hcl:∀j oj,ops[j]? = some oj→listed.getD j false=true→∀e∈oj.after,Region.binds .any e=true→listed.getD e.on false=true)
  {i:Nat} {o:Oper} (hik:i<k) (hun:listed.getD i true=false) (ho:ops[i]? = some o) (hall:∀e∈o.after,Region.binds .any e=true→listed.getD e.on false=true)
  (hvals:(Region.wanted o (yielded ops (acts i).tmps)=true∧OpY r n P o (acts i).eval C C (vals i))∨(Region.wanted o (yielded ops (acts i).tmps)=false∧vals i=undef)) {K:Act→World→Prop}
  (hK:∀W',C W'→K (stA ops vals a0 (fun j=>(listed.setIfInBounds i true).getD j false) k) W') :
  wpOpIn (Fw r) n P ops (im Q) i K (stA ops vals a0 (fun j=>listed.getD j false) k) W:=by
 rw[bN (by omega) true false]at hun
 obtain⟨hsel,hdef,_,hord⟩:=aV hO ho
 -- what it looks at is as in the text's order
 have hlook:∀j,j<k→(listed.getD j false)≠decide (j<i)→∀d,gl ops j=some d→¬d∈o.looksAt ops:=by
  intro j hj hne d hd hmem
  obtain⟨oj,hoj⟩:∃oj,ops[j]? = some oj:=⟨_,Array.getElem?_eq_some_iff.2 ⟨by omega,E⟩⟩
  have hdj:oj.dst=some d:=by simpa [gl,hoj]using hd
  rcases Nat.lt_trichotomy j i with h|h|h
  ·-- not listed,yet the operation is ready: it does not wait for it
   have hl:listed.getD j false=false:=by
    cases hl:listed.getD j false with
    | false=>rfl
    | true=>exact absurd (by rw[hl];simp[h]) hne
   rcases hord j oj h hoj with hap|⟨e,he,hb,hon⟩
   ·exact(Oper.apart_spec hap).1 d hdj hmem
   ·have:=hall e he hb
    rw[hon,hl]at this;cases this
  ·subst h
   exact absurd (by rw[hun];simp) hne
  ·have hl:listed.getD j false=true:=by
    cases hl:listed.getD j false with
    | true=>rfl
    | false=>exact absurd (by rw[hl];simp;omega) hne
   rcases (aV hO hoj).2.2.2 i o h ho with hap|⟨e,he,hb,hon⟩
   ·exact(Oper.apart_spec hap).2.2 d hdj hmem
   ·have:=hcl j oj hoj hl e he hb
    rw[hon,hun]at this;cases this
 have hag:=jx (ops:=ops) vals a0 (fun x=>x∈o.looksAt ops) (fun j=>listed.getD j false) (fun j=>decide (j<i)) k hlook
 have hlex:stA ops vals a0 (fun j=>decide (j<i)) k=acts i:=by
  rw[hst i]
  have h1:∀m,m≤i→stA ops vals a0 (fun j=>decide (j<i)) m=stA ops vals a0 (fun _=>true) m:=by
   intro m
   induction m with
   | zero=>intro _;rfl
   | succ m ih=>intro hm;simp only[stA];rw[ih (by omega)];simp;omega
  have h2:∀m,i≤m→stA ops vals a0 (fun j=>decide (j<i)) m=stA ops vals a0 (fun j=>decide (j<i)) i:=by
   intro m
   induction m with
   | zero =>
    intro h
    have:i=0:=by omega
    subst this;rfl
   | succ m ih =>
    intro hm
    by_cases e:i=m+1
    ·rw[e]
    ·simp only[stA]
     rw[if_neg (by simp;omega)]
     exact ih (by omega)
  rw[h2 k (by omega),h1 i (Nat.le_refl _)]
 rw[hlex]at hag
 obtain⟨hev,hwa⟩:=g8 (ops:=ops) (o:=o) (a:=stA ops vals a0 (fun j=>listed.getD j false) k) (b:=acts i) hag.1
 have hins:stA ops vals a0 (fun j=>(listed.setIfInBounds i true).getD j false) k=(stA ops vals a0 (fun j=>listed.getD j false) k).put o.dst (vals i):=by
  have e1:(fun j=>(listed.setIfInBounds i true).getD j false)=fun j=>listed.getD j false||j==i:=funext fun j=>bp (by omega)
  rw[e1,jf (ops:=ops) vals a0 (fun j=>listed.getD j false) i hun k hik (fun j h1 h2 hS d hd he=>?_)]
  ·congr 1
   simp[gl,ho]
  ·obtain⟨oj,hoj⟩:∃oj,ops[j]? = some oj:=⟨_,Array.getElem?_eq_some_iff.2 ⟨by omega,E⟩⟩
   have hdj:oj.dst=some d:=by simpa [gl,hoj]using hd
   have hdi:o.dst=some d:=by simpa [gl,ho]using he
   rcases (aV hO hoj).2.2.2 i o h1 ho with hap|⟨e,he,hb,hon⟩
   ·exact(Oper.apart_spec hap).2.1 d hdi hdj
   ·have:=hcl j oj hoj hS e he hb
    rw[hon,hun]at this;cases this
 have hgo:∀W',C W'→K ((stA ops vals a0 (fun j=>listed.getD j false) k).put o.dst (vals i)) W':=fun W' hC'=>by
  rw[←hins]
  exact hK W' hC'
 unfold wpOpIn
 simp only[ho]
 rcases hvals with⟨hw,hy⟩|⟨hw,hv⟩
 ·rw[hwa,if_pos hw]
  refine gh (mX hsel hdef (fun x hx=>(hev x hx).symm) hy) hC ?_
  exact hgo
 ·rw[hwa,if_neg (by rw[hw];simp)]
  refine⟨fun _ _=>trivial,?_⟩
  have:=hgo W hC
  rwa [hv]at this
def QWg (ops:Array Oper) (Y:Oper→(Operand→Value)→Value→Prop) (K:Act→Prop):List Oper→Act→Prop
 | [],a=>K a
 | o::rest,a=>if Region.wanted o (yielded ops a.tmps)then ∃v,Y o a.eval v∧QWg ops Y K rest (a.put o.dst v)else QWg ops Y K rest (a.put o.dst undef)
theorem rg {Y:Oper→(Operand→Value)→Value→Prop} {K:Act→Prop}:∀(l:List Oper) (i0:Nat) (a:Act),(∀j,j<l.length→l[j]? = ops[i0+j]?)→QWg ops Y K l a →
  ∃(vals:Nat→Value) (acts:Nat→Act),acts 0=a∧(∀j,acts (j+1)=(acts j).put (gl ops (i0+j)) (vals j)) ∧
   (∀j o,j<l.length→ops[i0+j]? = some o→(Region.wanted o (yielded ops (acts j).tmps)=true∧Y o (acts j).eval (vals j))∨(Region.wanted o (yielded ops (acts j).tmps)=false∧vals j=undef)) ∧
   K (acts l.length)
 | [],i0,a,_,h=>by
  have hK:K a:=h
  exact⟨fun _=>undef,fun j=>Nat.rec a (fun j b=>b.put (gl ops (i0+j)) undef) j,E,fun _=>E,(fun j o hj=>by simp at hj),hK⟩
 | o::rest,i0,a,hl,h=>by
  have ho:ops[i0]? = some o:=by simpa using(hl 0 (by simp)).symm
  have hl':∀j,j<rest.length→rest[j]? = ops[i0+1+j]?:=fun j hj=>by
   have:=hl (j+1) (by simp;omega)
   simpa [Nat.add_assoc,Nat.add_comm 1 j]using this
  have hdst:gl ops i0=o.dst:=by simp[gl,ho]
  have key:∃v,((Region.wanted o (yielded ops a.tmps)=true∧Y o a.eval v)∨(Region.wanted o (yielded ops a.tmps)=false∧v=undef))∧QWg ops Y K rest (a.put o.dst v):=by
   unfold QWg at h
   by_cases hw:Region.wanted o (yielded ops a.tmps)=true
   ·rw[if_pos hw]at h
    obtain⟨v,h1,h2⟩:=h
    exact⟨v,.inl ⟨hw,h1⟩,h2⟩
   ·rw[if_neg hw]at h
    exact⟨undef,.inr ⟨by simpa using hw,E⟩,h⟩
  obtain⟨v,hv,hq⟩:=key
  obtain⟨vals,acts,h0,h1,h2,h3⟩:=rg rest (i0+1) _ hl' hq
  refine⟨fun|0=>v|j+1=>vals j,fun|0=>a|j+1=>acts j,E,?_,?_,h3⟩
  ·intro j
   cases j with
   | zero=>show acts 0=a.put (gl ops (i0+0)) v;rw[h0,Nat.add_zero,hdst]
   | succ j=>show acts (j+1)=(acts j).put (gl ops (i0+(j+1))) (vals j);rw[h1 j];simp[Nat.add_assoc,Nat.add_comm 1 j]
  ·intro j o' hj ho'
   cases j with
   | zero =>
    have:o'=o:=by rw[Nat.add_zero,ho]at ho';cases ho';rfl
    subst this
    exact hv
   | succ j=>exact h2 j o' (by simpa using hj) (by simpa [Nat.add_assoc,Nat.add_comm 1 j]using ho')
def allocB (ops:Array Oper) (k:Nat):Bool:=match ops[k]? with
 | some ⟨some _,.alloc _,_,_,af,none⟩=>af.all fun e => !Region.binds .any e
 | _=>false
theorem wp_drawsA {l:List Oper} (k:Nat) (hm:P.follows .mixedOrders=true) (hO:iE l.toArray=true) (hT:tailB l.toArray (k+1)=true) (hA:allocB l.toArray k=true) {id:Nat} {a0:Act} {W0 w0:World} {L:List Res}
  (h0:Ext w0 { W0 with drawn:=W0.drawn+1 } L)
  (hq:QWg l.toArray (fun o ρ v=>∀L2,OpY r n P o ρ (fun W=>Ext w0 W (L++L2)) (fun W=>Ext w0 W (L++L2)) v) (fun a'=>∀d e ty pos af,l[k]? = some ⟨some d,.alloc e,ty,pos,af,none⟩ →
   ∃z,bz P e=some z∧∀b W,Ext w0 W (L++[ak b e z.cells.toList])→OL r n P l.toArray (im Q) (l.drop (k+1)) (a'.put (some d) (.pointer (some ⟨b,0,none⟩))) W) (l.take k) a0):(Code.region id l.toArray true).wpIn (Fw r) n P Q a0 W0:=by
 refine wpIn_mono (Q:=im Q) ?_ (fun e a w h=>by obtain⟨rfl,h⟩:=h;exact h)
 refine wpIn_region_any hm ?_
 obtain⟨ops,hops⟩:∃ops,ops=l.toArray:=⟨_,E⟩
 rw[←hops]at hO hT hA hq ⊢
 unfold tailB at hT
 simp only[Bool.and_eq_true,Bool.or_eq_true,decide_eq_true_eq]at hT
 obtain⟨hkN,hT⟩:=hT
 have hkk:k<ops.size:=by omega
 obtain⟨dd,e,ty,pos,af,hok,haf⟩:∃d e ty pos af,ops[k]? = some ⟨some d,.alloc e,ty,pos,af,none⟩∧∀x∈af,Region.binds .any x=false:=by
  unfold allocB at hA
  split at hA
  ·rename_i d e ty pos af ho
   exact⟨d,e,ty,pos,af,ho,fun x hx=>by simpa using Array.all_eq_true'.1 hA x hx⟩
  ·cases hA
 have hlen:(l.take k).length=k:=by rw[hops]at hkk;simp at hkk;simp;omega
 obtain⟨vals,acts,ha0,hacts,hvals,hK⟩:=rg (l.take k) 0 a0 (fun j hj=>by
  rw[hlen]at hj
  rw[hops];simp[hj]) hq
 rw[hlen]at hvals hK
 simp only[Nat.zero_add]at hacts hvals
 obtain⟨z,hz,hK⟩:=hK dd e ty pos af (by rw[hops]at hok;simpa using hok)
 obtain⟨inf,hinf,hzz⟩:∃inf,P.info? e=some inf∧inf.zero=some z:=by
  unfold bz at hz
  cases hi:P.info? e with
  | none=>rw[hi]at hz;cases hz
  | some inf=>rw[hi]at hz;exact⟨inf,E,hz⟩
 have hst:∀m,acts m=stA ops vals a0 (fun _=>true) m:=by
  intro m
  induction m with
  | zero=>exact ha0
  | succ m ih=>rw[hacts m,ih];simp[stA]
 have hfr0:(k+1)=ops.size∨(List.range (k+1)).all (fun i=>[k].contains i||(List.range (k+1+1)).any fun j=>decide (i<j)&&tailB.Region.waitsB ops j i)=true∧((List.range ops.size).all fun t=>decide (t≤k+1)||tailB.Region.waitsB ops t (t-1))=true:=by
  rcases hT with h|h
  ·exact .inl h
  ·refine .inr ⟨?_,h.2⟩
   rw[List.all_eq_true]at *
   intro i hi
   rw[h.1 i hi,Bool.or_true]
 have hfr1:(k+1)=ops.size∨(List.range (k+1)).all (fun i=>([]:List Nat).contains i||(List.range (k+1+1)).any fun j=>decide (i<j)&&tailB.Region.waitsB ops j i)=true∧((List.range ops.size).all fun t=>decide (t≤k+1)||tailB.Region.waitsB ops t (t-1))=true:=by
  rcases hT with h|h
  ·exact .inl h
  ·refine .inr ⟨?_,h.2⟩
   rw[List.all_eq_true]at *
   intro i hi
   rw[h.1 i hi,Bool.or_true]
 have hsink:=sink (fr:=[]) hkN hfr1
 have main:∀(c:Nat) (listed:Array Bool) (W:World),Ext w0 W L→listed.size=ops.size→left listed k=c →
   (∀j oj,ops[j]? = some oj→listed.getD j false=true→∀e∈oj.after,Region.binds .any e=true→listed.getD e.on false=true) →
   (∀t,k≤t→t<ops.size→listed.getD t false=false) →
   wpAnyIn (Fw r) n P .any ops (im Q) (c+(ops.size-k)) listed (stA ops vals a0 (fun j=>listed.getD j false) k) W:=by
  intro c
  induction c using Nat.strongRecOn with
  | _ c ih =>
  intro listed W hC hsz hc hcl htl
  have hunk:listed.getD k false=false:=htl k (Nat.le_refl _) hkk
  have hrk:k∈Region.ready .any ops listed:=mem_ready.2 ⟨by rw[bN (by omega) true false];exact hunk,_,hok,fun x hx hb=>by rw[haf x hx]at hb;cases hb⟩
  rw[show c+(ops.size-k)=(c+(ops.size-(k+1)))+1 by omega]
  refine⟨fun h=>(by rw[h]at hrk;cases hrk),fun i hi=>?_⟩
  rcases Nat.lt_trichotomy i k with hik|hik|hik
  ·obtain⟨hun,o,ho,hall⟩:=mem_ready.1 hi
   have hun':=hun
   rw[bN (by omega) true false]at hun'
   have hl:=kH (by omega) hun' k hik
   refine qc (r:=r) (C:=fun W=>Ext w0 W L) hO (by omega) hst hC hsz hcl hik hun ho hall ?_ (fun W' hC'=>?_)
   ·rcases hvals i o hik ho with⟨h1,h2⟩|h1
    ·refine .inl ⟨h1,?_⟩
     have:=h2 []
     rw[List.append_nil]at this
     exact this
    ·exact .inr h1
   ·have:=ih (left (listed.setIfInBounds i true) k) (by omega) (listed.setIfInBounds i true) W' hC' (by simpa using hsz) E (fun j oj hoj hlj e he hb=>by
     rw[bp (by omega)]at hlj ⊢
     by_cases e':j=i
     ·subst e'
      rw[ho]at hoj;cases hoj
      rw[hall e he hb];rfl
     ·have:(j==i)=false:=by simpa using e'
      rw[this,Bool.or_false]at hlj
      rw[hcl j oj hoj hlj e he hb];rfl) (fun t h1 h2=>by
     rw[bp (by omega),htl t h1 h2]
     simp;omega)
    rw[show left (listed.setIfInBounds i true) k+(ops.size-k)=c+(ops.size-(k+1)) by omega]at this
    exact this
  ·subst hik
   unfold wpOpIn
   simp only[hok]
   rw[if_pos (show Region.wanted (⟨some dd,.alloc e,ty,pos,af,none⟩:Oper) _=true from E)]
   refine⟨fun _ _=>by cases r <;> trivial,?_⟩
   have hrun:((⟨some dd,.alloc e,ty,pos,af,none⟩:Oper).semAt (Fw r).round (stA ops vals a0 (fun j=>listed.getD j false) i).eval).run P W=.ok (.value (.pointer (some ⟨W.heap.size,0,none⟩))) (W.alloc (.cells z.cells e)):=by
    have e0:(Fw r).round=r:=by cases r <;> rfl
    rw[e0,bQ (by intro c h;cases h)]
    simp only[execOp,Instr.alloc,zeroValue,typeInfo,newVar,newRow]
    simp[hinf,hzz]
   rw[hrun]
   have hW2:Ext w0 (W.alloc (.cells z.cells e)) (L++[ak W.heap.size e z.cells.toList]):=by
    have:=hC.alloc (.cells z.cells e)
    simpa [ak]using this
   generalize hb0:W.heap.size=b at hW2 hrun
   show wpAnyIn (Fw r) n P .any ops (im Q) _ _ _ _
   have hvb:∀m,m≤i→stA ops (fun j=>if j=i then .pointer (some ⟨b,0,none⟩)else vals j) a0 (fun _=>true) m=acts m:=by
    intro m
    induction m with
    | zero=>intro _;exact ha0.symm
    | succ m ihm=>intro hm;rw[hacts m,←ihm (by omega)];simp[stA];rw[if_neg (by omega)]
   have hvl:∀m,m≤i→stA ops (fun j=>if j=i then .pointer (some ⟨b,0,none⟩)else vals j) a0 (fun j=>(listed.setIfInBounds i true).getD j false) m=stA ops vals a0 (fun j=>listed.getD j false) m:=by
    intro m
    induction m with
    | zero=>intro _;rfl
    | succ m ihm =>
     intro hm
     simp only[stA]
     rw[ihm (by omega),bp (by omega),if_neg (show ¬m=i by omega)]
     have:(m==i)=false:=by simp;omega
     rw[this,Bool.or_false]
   have hli:(listed.setIfInBounds i true).getD i false=true:=by rw[bp (by omega)];simp
   have hdi:gl ops i=some dd:=by simp[gl,hok]
   have:=pl (r:=r) (n:=n) (P:=P) (Q:=Q) hops [i] (k:=i+1) hO hkN hfr0 (a0:=a0) (vals:=fun j=>if j=i then .pointer (some ⟨b,0,none⟩)else vals j)
    (acts:=stA ops (fun j=>if j=i then .pointer (some ⟨b,0,none⟩)else vals j) a0 (fun _=>true)) (C:=fun W=>Ext w0 W (L++[ak b e z.cells.toList])) (fun _=>E)
    (fun j o hj hne ho=>by
     have hji:j<i:=by
      have:j≠i:=fun h=>hne (by simp[h])
      omega
     rw[hvb j (by omega)]
     simp only[if_neg (show ¬j=i by omega)]
     rcases hvals j o hji ho with⟨h1,h2⟩|h1
     ·exact .inl ⟨h1,h2 _⟩
     ·exact .inr h1)
    (fun W' hW'=>by
     have e9:stA ops (fun j=>if j=i then .pointer (some ⟨b,0,none⟩)else vals j) a0 (fun _=>true) (i+1)=(acts i).put (some dd) (.pointer (some ⟨b,0,none⟩)):=by
      simp only[stA]
      rw[hvb i (Nat.le_refl _),hdi]
      simp
     rw[e9]
     exact hK b W' hW')
    c (listed.setIfInBounds i true) _ hW2 (by simpa using hsz) (by
     rw[←hc]
     unfold left
     rw[List.range_succ,List.filter_append,List.length_append,List.filter_cons_of_neg (by rw[hli];simp)]
     simp only[List.filter_nil,List.length_nil,Nat.add_zero]
     congr 1
     exact List.filter_congr fun j hj=>by
      have:=List.mem_range.1 hj
      rw[bp (by omega)]
      have:(j==i)=false:=by simp;omega
      rw[this,Bool.or_false])
    (fun j oj hoj hlj e' he hb=>by
     rw[bp (by omega)]at hlj ⊢
     by_cases e2:j=i
     ·subst e2
      rw[hok]at hoj;cases hoj
      rw[haf e' he]at hb;cases hb
     ·have:(j==i)=false:=by simpa using e2
      rw[this,Bool.or_false]at hlj
      rw[hcl j oj hoj hlj e' he hb];rfl)
    (fun t h1 h2=>by
     rw[bp (by omega),htl t (by omega) h2]
     simp;omega)
    (fun j hj=>by rw[List.mem_singleton.1 hj];exact hli)
   have e9:stA ops (fun j=>if j=i then .pointer (some ⟨b,0,none⟩)else vals j) a0 (fun j=>(listed.setIfInBounds i true).getD j false) (i+1)=(stA ops vals a0 (fun j=>listed.getD j false) i).put (some dd) (.pointer (some ⟨b,0,none⟩)):=by
    simp only[stA]
    rw[hvl i (Nat.le_refl _),hdi,hli]
    simp
   rw[e9]at this
   exact this
  ·exact absurd hi (hsink listed hsz hcl (fun t h1 h2=>htl t (by omega) h2) (fun i hi=>absurd hi List.not_mem_nil) _ k E (by omega) hunk i hik)
 have hfin:=main (left (Array.replicate ops.size false) k) (Array.replicate ops.size false) _ h0 (by simp) E (fun j oj hoj hl=>by
  have:j<ops.size:=(Array.getElem?_eq_some_iff.1 hoj).1
  simp[this]at hl) (fun t _ h=>by simp[h])
 have e1:left (Array.replicate ops.size false) k+(ops.size-k)=ops.size:=by
  have:left (Array.replicate ops.size false) k=k:=by
   unfold left
   rw[List.filter_eq_self.2 fun j hj=>?_]
   ·simp
   ·have:=List.mem_range.1 hj
    simp[show j<ops.size by omega]
  omega
 have e2:stA ops vals a0 (fun j=>(Array.replicate ops.size false).getD j false) k=a0:=by
  have:∀m,m≤k→stA ops vals a0 (fun j=>(Array.replicate ops.size false).getD j false) m=a0:=by
   intro m
   induction m with
   | zero=>intro _;rfl
   | succ m ih=>intro hm;simp only[stA];rw[ih (by omega)];simp[show m<ops.size by omega]
  exact this k (Nat.le_refl _)
 rw[e1,e2]at hfin
 exact hfin
end
section
variable {r : Option Nat} {n : Nat} {P : Program} {ops : Array Oper} {Q : Exit → Act → World → Prop} {w0 : World} {L : List Res} {m : Nat} {tm : Nat → Value} {d : List Deferred}
variable {t : Tmp} {ty : TypeId} {pos : String} {af : Array Edge} {g : Option (Nat × Bool)} {l rest : List Oper}
def AX (r:Option Nat) (n:Nat) (P:Program) (ops:Array Oper) (Q:Exit→Act→World→Prop) (w0:World) (L:List Res) (k:Nat) (all:List Oper) (l:List Oper) (m:Nat) (tm:Nat→Value) (d:List Deferred):Prop :=
 QWg ops (fun o ρ v=>∀L2,OpY r n P o ρ (fun W=>Ext w0 W (L++L2)) (fun W=>Ext w0 W (L++L2)) v) (fun a'=>∀d e ty pos af,all[k]? = some ⟨some d,.alloc e,ty,pos,af,none⟩ →
   ∃z,bz P e=some z∧∀b W,Ext w0 W (L++[ak b e z.cells.toList])→OL r n P ops (im Q) (all.drop (k+1)) (a'.put (some d) (.pointer (some ⟨b,0,none⟩))) W) l (act m tm d)
theorem cx_drawsA (k:Nat) {id:Nat} {l:List Oper} (hm:P.follows .mixedOrders=true) (hO:iE l.toArray=true) (hT:tailB l.toArray (k+1)=true) (hA:allocB l.toArray k=true)
  (h:AX r n P l.toArray Q w0 L k l (l.take k) m tm d):CX r n P (.region id l.toArray true) Q w0 L m tm d :=
 fun _ hW=>wp_drawsA k hm hO hT hA hW.drawn h
theorem ax_y {k:Nat} {all:List Oper} {op:Op} {v:Value} (hw:eW ops m tm ⟨some t,op,ty,pos,af,g⟩=true) (hy:∀L2,OpY r n P ⟨some t,op,ty,pos,af,g⟩ (opv m tm) (fun W=>Ext w0 W (L++L2)) (fun W=>Ext w0 W (L++L2)) v)
  (h:AX r n P ops Q w0 L k all rest m (upd tm t v) d):AX r n P ops Q w0 L k all (⟨some t,op,ty,pos,af,g⟩::rest) m tm d:=by
 unfold AX QWg
 rw[bJ,if_pos hw,dK]
 refine⟨v,hy,?_⟩
 rw[dT]
 exact h
theorem ax_nil {k:Nat} {all:List Oper} {e:TypeId} {z:Value} (hk:all[k]? = some ⟨some t,.alloc e,ty,pos,af,none⟩) (hz:bz P e=some z)
  (h:∀b,OX r n P ops (im Q) w0 (L++[ak b e z.cells.toList]) (all.drop (k+1)) m (upd tm t (.pointer (some ⟨b,0,none⟩))) d):AX r n P ops Q w0 L k all [] m tm d:=by
 unfold AX QWg
 intro d' e' ty' pos' af' hk'
 rw[hk]at hk'
 simp only[Option.some.injEq,Oper.mk.injEq,Op.alloc.injEq,and_true]at hk'
 obtain⟨rfl,rfl,_,_,_⟩:=hk'
 refine⟨z,hz,fun b W hW=>?_⟩
 rw[dT]
 exact h b W hW
end
open Go.RowKit (Below)
section
variable {r : Option Nat} {n : Nat} {P : Program} {ops : Array Oper} {Q : Exit → Act → World → Prop}
def capQ (w0:World) (L:List Res) (a:Act) (dst:Option Tmp) (G:Value→List Res→Prop):Exit→Act→World→Prop:=fun e a' W =>
 e=.normal∧∃v L1,a'=a.put dst v∧G v L1∧Ext w0 W (L++L1)
def QWq (r:Option Nat) (n:Nat) (P:Program) (ops:Array Oper) (w0:World) (L:List Res) (G:Value→List Res→Prop) (K:Act→Prop):Nat→List Oper→Act→Prop
 | _,[],a=>K a
 | 0,o::rest,a=>Region.wanted o (yielded ops a.tmps)=true∧(∀W,Ext w0 W L→o.wpIn (Fw r) n P a W (fun a' W'=>capQ w0 L a o.dst G .normal a' W') (capQ w0 L a o.dst G))∧QWg ops (fun o ρ v=>∀L2,OpY r n P o ρ (fun W=>Ext w0 W (L++L2)) (fun W=>Ext w0 W (L++L2)) v) K rest (a.put o.dst undef)
 | q+1,o::rest,a=>if Region.wanted o (yielded ops a.tmps)then ∃v,(∀L2,OpY r n P o a.eval (fun W=>Ext w0 W (L++L2)) (fun W=>Ext w0 W (L++L2)) v)∧QWq r n P ops w0 L G K q rest (a.put o.dst v)else QWq r n P ops w0 L G K q rest (a.put o.dst undef)
theorem qwq_vals {w0:World} {L:List Res} {G:Value→List Res→Prop} {K:Act→Prop}:∀(q:Nat) (l:List Oper) (i0:Nat) (a:Act),q<l.length→(∀j,j<l.length→l[j]? = ops[i0+j]?)→QWq r n P ops w0 L G K q l a →
  ∃(vals:Nat→Value) (acts:Nat→Act),acts 0=a∧(∀j,acts (j+1)=(acts j).put (gl ops (i0+j)) (vals j))∧vals q=undef ∧
   (∀o,ops[i0+q]? = some o→Region.wanted o (yielded ops (acts q).tmps)=true∧∀W,Ext w0 W L→o.wpIn (Fw r) n P (acts q) W (fun a' W'=>capQ w0 L (acts q) o.dst G .normal a' W') (capQ w0 L (acts q) o.dst G)) ∧
   (∀j o,j<l.length→j≠q→ops[i0+j]? = some o→(Region.wanted o (yielded ops (acts j).tmps)=true∧∀L2,OpY r n P o (acts j).eval (fun W=>Ext w0 W (L++L2)) (fun W=>Ext w0 W (L++L2)) (vals j))∨(Region.wanted o (yielded ops (acts j).tmps)=false∧vals j=undef)) ∧
   K (acts l.length):=by
 intro q
 induction q with
 | zero =>
  intro l i0 a hq hl h
  cases l with
  | nil=>simp at hq
  | cons o rest =>
   obtain⟨hw,hop,hrest⟩:=h
   have ho:ops[i0]? = some o:=by simpa using(hl 0 (by simp)).symm
   have hdst:gl ops i0=o.dst:=by simp[gl,ho]
   obtain⟨vals,acts,h0,h1,h2,h3⟩:=rg rest (i0+1) _ (fun j hj=>by
    have:=hl (j+1) (by simp;omega)
    simpa [Nat.add_assoc,Nat.add_comm 1 j]using this) hrest
   refine⟨fun|0=>undef|j+1=>vals j,fun|0=>a|j+1=>acts j,E,?_,E,?_,?_,h3⟩
   ·intro j
    cases j with
    | zero=>show acts 0=a.put (gl ops (i0+0)) undef;rw[h0,Nat.add_zero,hdst]
    | succ j=>show acts (j+1)=(acts j).put (gl ops (i0+(j+1))) (vals j);rw[h1 j];simp[Nat.add_assoc,Nat.add_comm 1 j]
   ·intro o' ho'
    rw[Nat.add_zero,ho]at ho';cases ho'
    exact⟨hw,hop⟩
   ·intro j o' hj hne ho'
    cases j with
    | zero=>exact absurd E hne
    | succ j=>exact h2 j o' (by simpa using hj) (by simpa [Nat.add_assoc,Nat.add_comm 1 j]using ho')
 | succ q ih =>
  intro l i0 a hq hl h
  cases l with
  | nil=>simp at hq
  | cons o rest =>
   have ho:ops[i0]? = some o:=by simpa using(hl 0 (by simp)).symm
   have hdst:gl ops i0=o.dst:=by simp[gl,ho]
   have hl':∀j,j<rest.length→rest[j]? = ops[i0+1+j]?:=fun j hj=>by
    have:=hl (j+1) (by simp;omega)
    simpa [Nat.add_assoc,Nat.add_comm 1 j]using this
   have key:∃v,((Region.wanted o (yielded ops a.tmps)=true∧∀L2,OpY r n P o a.eval (fun W=>Ext w0 W (L++L2)) (fun W=>Ext w0 W (L++L2)) v)∨(Region.wanted o (yielded ops a.tmps)=false∧v=undef))∧QWq r n P ops w0 L G K q rest (a.put o.dst v):=by
    unfold QWq at h
    by_cases hw:Region.wanted o (yielded ops a.tmps)=true
    ·rw[if_pos hw]at h
     obtain⟨v,h1,h2⟩:=h
     exact⟨v,.inl ⟨hw,h1⟩,h2⟩
    ·rw[if_neg hw]at h
     exact⟨undef,.inr ⟨by simpa using hw,E⟩,h⟩
   obtain⟨v,hv,hqq⟩:=key
   obtain⟨vals,acts,h0,h1,hu,hop,h2,h3⟩:=ih rest (i0+1) _ (by simpa using hq) hl' hqq
   refine⟨fun|0=>v|j+1=>vals j,fun|0=>a|j+1=>acts j,E,?_,hu,?_,?_,h3⟩
   ·intro j
    cases j with
    | zero=>show acts 0=a.put (gl ops (i0+0)) v;rw[h0,Nat.add_zero,hdst]
    | succ j=>show acts (j+1)=(acts j).put (gl ops (i0+(j+1))) (vals j);rw[h1 j];simp[Nat.add_assoc,Nat.add_comm 1 j]
   ·intro o' ho'
    exact hop o' (by simpa [Nat.add_assoc,Nat.add_comm 1 q]using ho')
   ·intro j o' hj hne ho'
    cases j with
    | zero =>
     have:o'=o:=by rw[Nat.add_zero,ho]at ho';cases ho';rfl
     subst this
     exact hv
    | succ j=>exact h2 j o' (by simpa using hj) (fun e=>hne (by omega)) (by simpa [Nat.add_assoc,Nat.add_comm 1 j]using ho')
theorem put_put (a:Act) (d:Option Tmp) (u v:Value):(a.put d u).put d v=a.put d v:=by
 cases d with
 | none=>rfl
 | some i =>
  show(⟨(a.tmps.setIfInBounds i u).setIfInBounds i v,a.defers⟩:Act)=⟨a.tmps.setIfInBounds i v,a.defers⟩
  congr 1
  apply Array.ext_getElem?
  intro j
  simp only[Array.getElem?_setIfInBounds]
  by_cases e:i=j <;> simp[e]
theorem put_size (a:Act) (d:Option Tmp) (v:Value):(a.put d v).tmps.size=a.tmps.size:=by
 cases d with
 | none=>rfl
 | some i=>simp[Act.put]
theorem oA (vals:Nat→Value) (a0:Act) (S:Nat→Bool):∀m,(stA ops vals a0 S m).tmps.size=a0.tmps.size
 | 0=>rfl
 | m+1=>by
  unfold stA
  split
  ·rw[put_size,oA vals a0 S m]
  ·exact oA vals a0 S m
theorem ow (vals:Nat→Value) (a0:Act) (S:Nat→Bool):∀m,(stA ops vals a0 S m).defers=a0.defers
 | 0=>rfl
 | m+1=>by
  unfold stA
  split
  ·rw[ja,ow vals a0 S m]
  ·exact ow vals a0 S m
theorem put_same {a b:Act} {d:Option Tmp} {u v:Value} (hs:a.tmps.size=b.tmps.size) (h:a.put d u=a.put d v):b.put d u=b.put d v:=by
 cases d with
 | none=>rfl
 | some i =>
  have h1:a.tmps.setIfInBounds i u=a.tmps.setIfInBounds i v:=congrArg Act.tmps h
  show(⟨b.tmps.setIfInBounds i u,b.defers⟩:Act)=⟨b.tmps.setIfInBounds i v,b.defers⟩
  congr 1
  apply Array.ext_getElem?
  intro j
  have h2:=congrArg (fun t=>t[j]?) h1
  simp only[Array.getElem?_setIfInBounds]at h2 ⊢
  by_cases e:i=j
  ·subst e
   by_cases hl:i<b.tmps.size
   ·simp[hl,hs]at h2 ⊢
    exact h2
   ·simp[hl]
  ·simp[e]
theorem wpIn_move {o:Oper} {a b:Act} {W w0:World} {L:List Res} {G:Value→List Res→Prop} {K:Act→World→Prop} (hs:∀cs x,o.op ≠ .select cs x) (hd:∀c,o.op ≠ .defer c) (hev:∀x∈o.op.operands,a.eval x=b.eval x) (hsz:a.tmps.size=b.tmps.size) (_hdf:a.defers=b.defers)
  (h:o.wpIn (Fw r) n P a W (fun a' W'=>capQ w0 L a o.dst G .normal a' W') (capQ w0 L a o.dst G)) (hK:∀v L1 W',G v L1→Ext w0 W' (L++L1)→K (b.put o.dst v) W'):o.wpIn (Fw r) n P b W K (im Q):=by
 refine⟨fun _ _=>by cases r <;> trivial,?_⟩
 have h2:=h.2
 have e:o.semAt r b.eval=o.semAt r a.eval:=by
  have e1:execOp b.eval o=execOp a.eval o:=execOp_congr o hs (fun x hx=>(hev x hx).symm)
  cases r with
  | none=>rw[Oper.semAt_none,Oper.semAt_none,e1]
  | some l=>rw[Oper.semAt_some l _ o hd,Oper.semAt_some l _ o hd,e1]
 have e0:(Fw r).round=r:=by cases r <;> rfl
 rw[e0]at h2 ⊢
 rw[e]
 have key:∀u W',capQ w0 L a o.dst G .normal (a.put o.dst u) W'→K (b.put o.dst u) W':=fun u W' hc=>by
  obtain⟨_,v,L1,hv,hG,hE⟩:=hc
  rw[put_same hsz hv]
  exact hK v L1 W' hG hE
 generalize (o.semAt r a.eval).run P W=res at h2 ⊢
 match res,h2 with
 | .ok (.value u) W',h2=>exact key u W' h2
 | .ok .skip W',h2=>exact key undef W' h2
 | .ok (.defer d') W',h2 =>
  obtain⟨_,v,L1,hv,_,_⟩:=h2
  have h9:=congrArg Act.defers hv
  rw[ja,ja]at h9
  exact absurd h9 (by simp)
 | .ok (.enter f args) W',h2 =>
  refine⟨h2.1,h2.2.mono ?_⟩
  rintro(_|_|_) w hw
  ·exact key _ _ hw
  ·exact absurd hw.1 (by intro h;cases h)
  ·obtain⟨a9,w9,h9⟩:=hw
   exact absurd h9.1 (by intro h;cases h)
 | .ok (.row row args) W',h2 =>
  refine⟨h2.1,?_⟩
  exact RowsIn.mono h2.2 (fun u w hw=>key u w hw)
 | .ok (.round l f tmps assign body) W',h2 =>
  refine⟨h2.1,h2.2.mono ?_⟩
  rintro(_|_|_) w hw
  ·exact key _ _ hw
  ·exact absurd hw.1 (by intro h;cases h)
  ·obtain⟨a9,w9,h9⟩:=hw
   exact absurd h9.1 (by intro h;cases h)
 | .halt (.panic u) W',h2=>exact absurd h2.1 (by intro h;cases h)
def floatB (ops:Array Oper) (q k:Nat):Bool:=decide (q<k)&&(List.range k).all fun j=>decide (j≤q)||(match ops[q]?,ops[j]? with
 | some oq,some oj=>oq.apart ops oj
 | _,_=>false)
theorem wp_drawsQ {l:List Oper} (q k:Nat) (G:Value→List Res→Prop) (hm:P.follows .mixedOrders=true) (hO:iE l.toArray=true) (hT:tailB l.toArray k=true) (hF:floatB l.toArray q k=true) {id:Nat} {a0:Act} {W0 w0:World} {L:List Res}
  (h0:Ext w0 { W0 with drawn:=W0.drawn+1 } L)
  (hq:QWq r n P l.toArray w0 L G (fun a'=>∀v L1 W,G v L1→Ext w0 W (L++L1)→OL r n P l.toArray (im Q) (l.drop k) (a'.put ((l[q]?).bind (·.dst)) v) W) q (l.take k) a0):(Code.region id l.toArray true).wpIn (Fw r) n P Q a0 W0:=by
 refine wpIn_mono (Q:=im Q) ?_ (fun e a w h=>by obtain⟨rfl,h⟩:=h;exact h)
 refine wpIn_region_any hm ?_
 obtain⟨ops,hops⟩:∃ops,ops=l.toArray:=⟨_,E⟩
 rw[←hops]at hO hT hF hq ⊢
 unfold tailB at hT
 simp only[Bool.and_eq_true,Bool.or_eq_true,decide_eq_true_eq]at hT
 obtain⟨hkN,hT⟩:=hT
 unfold floatB at hF
 simp only[Bool.and_eq_true,decide_eq_true_eq]at hF
 obtain⟨hqk,hF⟩:=hF
 have hqN:q<ops.size:=by omega
 obtain⟨oq,hoq⟩:∃o,ops[q]? = some o:=⟨_,Array.getElem?_eq_some_iff.2 ⟨hqN,E⟩⟩
 have hfar:∀j oj,q<j→j<k→ops[j]? = some oj→oq.apart ops oj=true:=fun j oj h1 h2 hoj=>by
  have:=List.all_eq_true.1 hF j (List.mem_range.2 h2)
  simp only[Bool.or_eq_true,decide_eq_true_eq,hoq,hoj]at this
  rcases this with h|h
  ·omega
  ·exact h
 have hlen:(l.take k).length=k:=by rw[hops]at hkN;simp at hkN;simp;omega
 obtain⟨vals,acts,ha0,hacts,hvq,hopq,hvals,hK⟩:=qwq_vals q (l.take k) 0 a0 (by rw[hlen];exact hqk) (fun j hj=>by
  rw[hlen]at hj
  rw[hops];simp[hj]) hq
 rw[hlen]at hvals hK
 simp only[Nat.zero_add]at hacts hvals hopq
 have hlq:(l[q]?).bind (·.dst)=oq.dst:=by
  rw[hops]at hoq
  have:l[q]? = some oq:=by simpa using hoq
  rw[this];rfl
 rw[hlq]at hK
 have hst:∀m,acts m=stA ops vals a0 (fun _=>true) m:=by
  intro m
  induction m with
  | zero=>exact ha0
  | succ m ih=>rw[hacts m,ih];simp[stA]
 have hdq:gl ops q=oq.dst:=by simp[gl,hoq]
 have hfr0:k=ops.size∨(List.range k).all (fun i=>[q].contains i||(List.range (k+1)).any fun j=>decide (i<j)&&tailB.Region.waitsB ops j i)=true∧((List.range ops.size).all fun t=>decide (t≤k)||tailB.Region.waitsB ops t (t-1))=true:=by
  rcases hT with h|h
  ·exact .inl h
  ·refine .inr ⟨?_,h.2⟩
   rw[List.all_eq_true]at *
   intro i hi
   rw[h.1 i hi,Bool.or_true]
 have hfr1:k=ops.size∨(List.range k).all (fun i=>([]:List Nat).contains i||(List.range (k+1)).any fun j=>decide (i<j)&&tailB.Region.waitsB ops j i)=true∧((List.range ops.size).all fun t=>decide (t≤k)||tailB.Region.waitsB ops t (t-1))=true:=by
  rcases hT with h|h
  ·exact .inl h
  ·refine .inr ⟨?_,h.2⟩
   rw[List.all_eq_true]at *
   intro i hi
   rw[h.1 i hi,Bool.or_true]
 have hsink:=sink (fr:=[]) hkN hfr1
 have main:∀(c:Nat) (listed:Array Bool) (W:World),Ext w0 W L→listed.size=ops.size→left listed k=c+1→listed.getD q false=false →
   (∀j oj,ops[j]? = some oj→listed.getD j false=true→∀e∈oj.after,Region.binds .any e=true→listed.getD e.on false=true) →
   (∀t,k≤t→t<ops.size→listed.getD t false=false) →
   wpAnyIn (Fw r) n P .any ops (im Q) (c+1+(ops.size-k)) listed (stA ops vals a0 (fun j=>listed.getD j false) k) W:=by
  intro c
  induction c using Nat.strongRecOn with
  | _ c ih =>
  intro listed W hC hsz hc hunq hcl htl
  rw[show c+1+(ops.size-k)=(c+(ops.size-k))+1 by omega]
  have hrdy:∀j,j<ops.size→listed.getD j false=false→∃i,i∈Region.ready .any ops listed:=by
   intro j
   induction j using Nat.strongRecOn with
   | _ j ihj =>
    intro hj hun
    obtain⟨o,ho⟩:∃o,ops[j]? = some o:=⟨_,Array.getElem?_eq_some_iff.2 ⟨hj,E⟩⟩
    by_cases hall:∀e∈o.after,Region.binds .any e=true→listed.getD e.on false=true
    ·exact⟨j,mem_ready.2 ⟨by rw[bN (by omega) true false];exact hun,o,ho,hall⟩⟩
    ·have:∃e∈o.after,Region.binds .any e=true∧listed.getD e.on false=false:=by
      apply Classical.byContradiction
      intro hno
      exact hall fun e he hb=>by
       cases hl:listed.getD e.on false with
       | true=>rfl
       | false=>exact absurd ⟨e,he,hb,hl⟩ hno
     obtain⟨e,he,hb,hf⟩:=this
     have hlt:=(aV hO ho).2.2.1 e he hb
     exact ihj e.on hlt (by omega) hf
  obtain⟨i1,hi1⟩:=hrdy q hqN hunq
  refine⟨fun h=>(by rw[h]at hi1;cases hi1),fun i hi=>?_⟩
  obtain⟨hun,o,ho,hall⟩:=mem_ready.1 hi
  have hiN:i<ops.size:=(Array.getElem?_eq_some_iff.1 ho).1
  have hun':=hun
  rw[bN (by omega) true false]at hun'
  have hik:i<k:=by
   rcases Nat.lt_or_ge i k with h|h
   ·exact h
   ·exact absurd hi (hsink listed hsz hcl htl (fun i hi=>absurd hi List.not_mem_nil) _ q E hqk hunq i h)
  have hl:=kH (by omega) hun' k hik
  have hcl':∀j oj,ops[j]? = some oj→(listed.setIfInBounds i true).getD j false=true→∀e∈oj.after,Region.binds .any e=true→(listed.setIfInBounds i true).getD e.on false=true:=fun j oj hoj hlj e he hb=>by
   rw[bp (by omega)]at hlj ⊢
   by_cases e':j=i
   ·subst e'
    rw[ho]at hoj;cases hoj
    rw[hall e he hb];rfl
   ·have:(j==i)=false:=by simpa using e'
    rw[this,Bool.or_false]at hlj
    rw[hcl j oj hoj hlj e he hb];rfl
  have htl':∀t,k≤t→t<ops.size→(listed.setIfInBounds i true).getD t false=false:=fun t h1 h2=>by
   rw[bp (by omega),htl t h1 h2]
   simp;omega
  by_cases hiq:i=q
  ·subst hiq
   rw[hoq]at ho;cases ho
   obtain⟨hwq,hwp⟩:=hopq oq hoq
   -- the frame as in the text's order
   have hlook:∀j,j<k→(listed.getD j false)≠decide (j<i)→∀d,gl ops j=some d→¬d∈oq.looksAt ops:=by
    intro j hj hne d hd hmem
    obtain⟨oj,hoj⟩:∃oj,ops[j]? = some oj:=⟨_,Array.getElem?_eq_some_iff.2 ⟨by omega,E⟩⟩
    have hdj:oj.dst=some d:=by simpa [gl,hoj]using hd
    rcases Nat.lt_trichotomy j i with h|h|h
    ·have hl:listed.getD j false=false:=by
      cases hl:listed.getD j false with
      | false=>rfl
      | true=>exact absurd (by rw[hl];simp[h]) hne
     rcases (aV hO hoq).2.2.2 j oj h hoj with hap|⟨e,he,hb,hon⟩
     ·exact(Oper.apart_spec hap).1 d hdj hmem
     ·have:=hall e he hb
      rw[hon,hl]at this;cases this
    ·subst h
     exact absurd (by rw[hun'];simp) hne
    ·exact(Oper.apart_spec (hfar j oj h hj hoj)).2.2 d hdj hmem
   have hag:=jx (ops:=ops) vals a0 (fun x=>x∈oq.looksAt ops) (fun j=>listed.getD j false) (fun j=>decide (j<i)) k hlook
   have hlex:stA ops vals a0 (fun j=>decide (j<i)) k=acts i:=by
    rw[hst i]
    have h1:∀m,m≤i→stA ops vals a0 (fun j=>decide (j<i)) m=stA ops vals a0 (fun _=>true) m:=by
     intro m
     induction m with
     | zero=>intro _;rfl
     | succ m ih=>intro hm;simp only[stA];rw[ih (by omega)];simp;omega
    have h2:∀m,i≤m→stA ops vals a0 (fun j=>decide (j<i)) m=stA ops vals a0 (fun j=>decide (j<i)) i:=by
     intro m
     induction m with
     | zero =>
      intro h
      have:i=0:=by omega
      subst this;rfl
     | succ m ih =>
      intro hm
      by_cases e:i=m+1
      ·rw[e]
      ·simp only[stA]
       rw[if_neg (by simp;omega)]
       exact ih (by omega)
    rw[h2 k (by omega),h1 i (Nat.le_refl _)]
   rw[hlex]at hag
   obtain⟨hev,hwa⟩:=g8 (ops:=ops) (o:=oq) (a:=stA ops vals a0 (fun j=>listed.getD j false) k) (b:=acts i) hag.1
   obtain⟨hsel,hdef,_,_⟩:=aV hO hoq
   unfold wpOpIn
   simp only[hoq]
   rw[hwa,if_pos hwq]
   refine wpIn_move (a:=acts i) hsel hdef (fun x hx=>(hev x hx).symm) (by rw[hst i,oA,oA]) (by rw[hst i,ow,ow]) (hwp W hC) ?_
   intro v L1 W' hG hE
   -- behind it
   have hvb:∀m,stA ops (fun j=>if j=i then v else vals j) a0 (fun _=>true) m=if m≤i then acts m else stA ops (fun j=>if j=i then v else vals j) a0 (fun _=>true) m:=by
    intro m
    split
    ·rename_i hm
     induction m with
     | zero=>exact ha0.symm
     | succ m ihm=>rw[hacts m,←ihm (by omega)];simp[stA];rw[if_neg (by omega)]
    ·rfl
   have hfin2:∀m,i<m→m≤k→stA ops (fun j=>if j=i then v else vals j) a0 (fun _=>true) m=(acts m).put oq.dst v:=by
    intro m
    induction m with
    | zero=>intro h;omega
    | succ m ihm =>
     intro h1 h2
     by_cases e:m=i
     ·subst e
      have:=hvb m
      rw[if_pos (Nat.le_refl _)]at this
      simp only[stA,if_true]
      rw[this,hdq,hacts m,hdq,hvq]
      exact(put_put _ _ _ _).symm
     ·have:=ihm (by omega) (by omega)
      simp only[stA,if_true]
      rw[this,if_neg e,hacts m]
      refine Act.put_comm _ _ _ (fun d hd hd'=>?_)
      obtain⟨om,hom⟩:∃om,ops[m]? = some om:=⟨_,Array.getElem?_eq_some_iff.2 ⟨by omega,E⟩⟩
      have hdm:om.dst=some d:=by simpa [gl,hom]using hd'
      exact(Oper.apart_spec (hfar m om (by omega) (by omega) hom)).2.1 d hd hdm
   have hvl:∀m,m≤k→stA ops (fun j=>if j=i then v else vals j) a0 (fun j=>(listed.setIfInBounds i true).getD j false) m=if m≤i then stA ops vals a0 (fun j=>listed.getD j false) m else(stA ops vals a0 (fun j=>listed.getD j false) m).put oq.dst v:=by
    intro m
    induction m with
    | zero=>intro _;simp;rfl
    | succ m ihm =>
     intro hm
     simp only[stA]
     rw[ihm (by omega),bp (by omega)]
     rcases Nat.lt_trichotomy m i with h|h|h
     ·rw[if_pos (show m≤i by omega),if_pos (show m+1≤i by omega),if_neg (show ¬m=i by omega)]
      have:(m==i)=false:=by simp;omega
      rw[this,Bool.or_false]
     ·subst h
      rw[if_pos (Nat.le_refl m),if_neg (show ¬(m+1≤m) by omega)]
      simp[hun',hdq]
     ·rw[if_neg (show ¬m≤i by omega),if_neg (show ¬m+1≤i by omega),if_neg (show ¬m=i by omega)]
      have:(m==i)=false:=by simp;omega
      rw[this,Bool.or_false]
      split
      ·refine Act.put_comm _ _ _ (fun d hd hd'=>?_)
       obtain⟨om,hom⟩:∃om,ops[m]? = some om:=⟨_,Array.getElem?_eq_some_iff.2 ⟨by omega,E⟩⟩
       have hdm:om.dst=some d:=by simpa [gl,hom]using hd'
       exact(Oper.apart_spec (hfar m om (by omega) (by omega) hom)).2.1 d hd hdm
      ·rfl
   have hli:(listed.setIfInBounds i true).getD i false=true:=by rw[bp (by omega)];simp
   have:=pl (r:=r) (n:=n) (P:=P) (Q:=Q) hops [i] (k:=k) hO hkN hfr0 (a0:=a0) (vals:=fun j=>if j=i then v else vals j)
    (acts:=stA ops (fun j=>if j=i then v else vals j) a0 (fun _=>true)) (C:=fun W=>Ext w0 W (L++L1)) (fun _=>E)
    (fun j o hj hne ho=>by
     have hji:j≠i:=fun h=>hne (by simp[h])
     simp only[if_neg hji]
     rcases Nat.lt_or_ge i j with h|h
     ·rw[hfin2 j h (by omega)]
      have hsame:=g8 (ops:=ops) (o:=o) (a:=acts j) (b:=(acts j).put oq.dst v) (fun y hy=>(rv (acts j) oq.dst _ y (fun hc=>(Oper.apart_spec (hfar j o h hj ho)).1 y hc hy)).symm)
      obtain⟨hsel,hdef,_,_⟩:=aV hO ho
      rw[←hsame.2]
      rcases hvals j o hj hji ho with⟨h1,h2⟩|h1
      ·exact .inl ⟨h1,mX hsel hdef (fun x hx=>hsame.1 x hx) (h2 L1)⟩
      ·exact .inr h1
     ·have:=hvb j
      rw[if_pos h]at this
      rw[this]
      rcases hvals j o hj hji ho with⟨h1,h2⟩|h1
      ·exact .inl ⟨h1,h2 L1⟩
      ·exact .inr h1)
    (fun W' hW'=>by
     rw[hfin2 k hqk (Nat.le_refl _)]
     exact hK v L1 W' hG hW')
    c (listed.setIfInBounds i true) W' hE (by simpa using hsz) (by omega) hcl' htl' (fun j hj=>by rw[List.mem_singleton.1 hj];exact hli)
   rw[hvl k (Nat.le_refl _),if_neg (by omega)]at this
   exact this
  ·have hlq:(listed.setIfInBounds i true).getD q false=false:=by
    rw[bp (by omega),hunq]
    simp;omega
   obtain⟨c',rfl⟩:∃c',c=c'+1:=by
    have:left (listed.setIfInBounds i true) k≠0:=fun h0=>by
     have:=mT h0 q hqk
     rw[hlq]at this;cases this
    exact⟨c-1,by omega⟩
   refine qc (r:=r) (C:=fun W=>Ext w0 W L) hO hkN hst hC hsz hcl hik hun ho hall ?_ (fun W' hC'=>?_)
   ·rcases hvals i o hik hiq ho with⟨h1,h2⟩|h1
    ·refine .inl ⟨h1,?_⟩
     have:=h2 []
     rw[List.append_nil]at this
     exact this
    ·exact .inr h1
   ·exact ih c' (by omega) (listed.setIfInBounds i true) W' hC' (by simpa using hsz) (by omega) hlq hcl' htl'
 have e1:left (Array.replicate ops.size false) k=k:=by
  unfold left
  rw[List.filter_eq_self.2 fun j hj=>?_]
  ·simp
  ·have:=List.mem_range.1 hj
   simp[show j<ops.size by omega]
 have hfin:=main (k-1) (Array.replicate ops.size false) _ h0 (by simp) (by rw[e1];omega) (by simp[hqN]) (fun j oj hoj hl=>by
  have:j<ops.size:=(Array.getElem?_eq_some_iff.1 hoj).1
  simp[this]at hl) (fun t _ h=>by simp[h])
 have e2:stA ops vals a0 (fun j=>(Array.replicate ops.size false).getD j false) k=a0:=by
  have:∀m,m≤k→stA ops vals a0 (fun j=>(Array.replicate ops.size false).getD j false) m=a0:=by
   intro m
   induction m with
   | zero=>intro _;rfl
   | succ m ih=>intro hm;simp only[stA];rw[ih (by omega)];simp[show m<ops.size by omega]
  exact this k (Nat.le_refl _)
 rw[show k-1+1+(ops.size-k)=ops.size by omega,e2]at hfin
 exact hfin
end
section
variable {r : Option Nat} {n : Nat} {P : Program} {ops : Array Oper} {Q : Exit → Act → World → Prop} {w0 : World} {L : List Res} {m : Nat} {tm : Nat → Value} {d : List Deferred}
variable {t : Tmp} {ty : TypeId} {pos : String} {af : Array Edge} {g : Option (Nat × Bool)} {l rest : List Oper} {G : Value → List Res → Prop} {q k : Nat} {all : List Oper}
def BX (r:Option Nat) (n:Nat) (P:Program) (ops:Array Oper) (Q:Exit→Act→World→Prop) (w0:World) (L:List Res) (G:Value→List Res→Prop) (q k:Nat) (all:List Oper) (i:Nat) (l:List Oper) (m:Nat) (tm:Nat→Value) (d:List Deferred):Prop :=
 QWq r n P ops w0 L G (fun a'=>∀v L1 W,G v L1→Ext w0 W (L++L1)→OL r n P ops (im Q) (all.drop k) (a'.put ((all[q]?).bind (·.dst)) v) W) i l (act m tm d)
def KX (r:Option Nat) (n:Nat) (P:Program) (ops:Array Oper) (Q:Exit→Act→World→Prop) (w0:World) (L:List Res) (G:Value→List Res→Prop) (q k:Nat) (all:List Oper) (l:List Oper) (m:Nat) (tm:Nat→Value) (d:List Deferred):Prop :=
 QWg ops (fun o ρ v=>∀L2,OpY r n P o ρ (fun W=>Ext w0 W (L++L2)) (fun W=>Ext w0 W (L++L2)) v) (fun a'=>∀v L1 W,G v L1→Ext w0 W (L++L1)→OL r n P ops (im Q) (all.drop k) (a'.put ((all[q]?).bind (·.dst)) v) W) l (act m tm d)
theorem cx_drawsQ (q k:Nat) (G:Value→List Res→Prop) {id:Nat} {l:List Oper} (hm:P.follows .mixedOrders=true) (hO:iE l.toArray=true) (hT:tailB l.toArray k=true) (hF:floatB l.toArray q k=true)
  (h:BX r n P l.toArray Q w0 L G q k l q (l.take k) m tm d):CX r n P (.region id l.toArray true) Q w0 L m tm d :=
 fun _ hW=>wp_drawsQ q k G hm hO hT hF hW.drawn h
theorem bx_y {i:Nat} {op:Op} {v:Value} (hw:eW ops m tm ⟨some t,op,ty,pos,af,g⟩=true) (hy:∀L2,OpY r n P ⟨some t,op,ty,pos,af,g⟩ (opv m tm) (fun W=>Ext w0 W (L++L2)) (fun W=>Ext w0 W (L++L2)) v)
  (h:BX r n P ops Q w0 L G q k all i rest m (upd tm t v) d):BX r n P ops Q w0 L G q k all (i+1) (⟨some t,op,ty,pos,af,g⟩::rest) m tm d:=by
 unfold BX QWq
 rw[bJ,if_pos hw,dK]
 refine⟨v,hy,?_⟩
 rw[dT]
 exact h
theorem ex_cap {L1:List Res} {v:Value} (h:G v L1):EX (capQ w0 L (act m tm d) (some t) G) .normal w0 (L++L1) m (upd tm t v) d:=fun _W hW=>⟨E,v,L1,(dT m tm d (some t) v).symm,h,hW⟩
theorem bx_q {op:Op} (hw:eW ops m tm ⟨some t,op,ty,pos,af,g⟩=true) (hop:OX r n P ops (capQ w0 L (act m tm d) (some t) G) w0 L [⟨some t,op,ty,pos,af,g⟩] m tm d)
  (h:KX r n P ops Q w0 L G q k all rest m (upd tm t undef) d):BX r n P ops Q w0 L G q k all 0 (⟨some t,op,ty,pos,af,g⟩::rest) m tm d:=by
 unfold BX QWq
 refine⟨by rw[bJ];exact hw,fun W hW=>?_,?_⟩
 ·have h1:=hop W hW
  unfold OL at h1
  rw[bJ,if_pos hw]at h1
  exact Oper.wpIn_mono (fun a w h=>h) h1
 ·rw[dT]
  exact h
theorem kx_nil (hd:(all[q]?).bind (·.dst)=some t) (h:∀v L1,G v L1→OX r n P ops (im Q) w0 (L++L1) (all.drop k) m (upd tm t v) d):KX r n P ops Q w0 L G q k all [] m tm d:=by
 unfold KX QWg
 intro v L1 W hG hW
 rw[hd,dT]
 exact h v L1 hG W hW
end
open Go.RowKit (Below)
section
variable {r : Option Nat} {n' : Nat} {P : Program} {ρ : Operand → Value} {w0 : World} {L : List Res}
variable {t : Option Tmp} {ty : TypeId} {pos : String} {af : Array Edge} {g : Option (Nat × Bool)}
theorem y_copyA (i:Nat) {xs ys:List Int} {N n c:Nat} {x y:Operand} {u et:TypeId} {b:Nat} {e:TypeId} {A:Option Addr} (hN:0<N) (hu:P.underlying u=some (.slice et)) (hs:szB P et 1=true) (hl:xs.length=N) (hL:L[i]? = some (ak b e (encL cI xs))) (hR:RdL w0 L A n c (encL cI ys)) (hn:n=ys.length) (hy':ys.length=N) (hx:ρ x=.slice (some ⟨b,0,none⟩) N N) (hy:ρ y=.slice A n c) :
  OpY r n' P ⟨t,.call ⟨.builtin .copy,#[x,y],#[u,u]⟩,ty,pos,af,g⟩ ρ (fun W=>Ext w0 W L) (fun W=>Ext w0 W (L.set i (ak b e (encL cI ys)))) (.int .i64 (N:Int)):=fun W hW=>by
 rw[bQ (by intro c h;cases h)]
 have hb:W.heap[b]? = some (.cells (encL cI xs).toArray e (0,0)):=hW.mem hL
 have hlen:(encL cI ys).length=N:=by rw[lenA,hy']
 have h0:0<(encL cI ys).length:=by omega
 obtain⟨b',o,hA,_⟩:=(hR W hW).cell 0 _ (List.getElem?_eq_getElem h0)
 subst hA
 have hsz:(P.info? et).map (·.size)=some 1:=by
  unfold szB at hs
  cases hq:P.info? et with
  | none=>rw[hq]at hs;cases hs
  | some j=>rw[hq]at hs;simpa using hs
 have hrun:=run_copy_row P W u u ty et b 0 N N ⟨b',o,none⟩ n c (encL cI xs).toArray e (encL cI ys) hu hsz hb (by rw[hlen,hn,hy'];exact(Nat.min_self N).symm) (fun j v hj=>by
  obtain⟨b2,o2,e2,hc⟩:=(hR W hW).cell j v hj
  cases e2
  rw[Addr.add_lit]
  exact hc) (by simp only[List.size_toArray];rw[lenA,lenA];omega) (fun v hv=>List.all_eq_true.1 (allA ys) v hv)
 have e1:(encL cI xs).toArray.toList.take 0++encL cI ys++(encL cI xs).toArray.toList.drop (0+(encL cI ys).length)=encL cI ys:=by
  rw[List.take_zero,List.nil_append,List.drop_eq_nil_of_le (by simp only;rw[lenA,lenA];omega),List.append_nil]
 rw[e1,hlen]at hrun
 have:(execOp ρ ⟨t,.call ⟨.builtin .copy,#[x,y],#[u,u]⟩,ty,pos,af,g⟩).run P W=.ok (.value (.int .i64 (N:Int))) (W.setRow b (encL cI ys).toArray):=by
  simp[execOp,resolve,invoke,builtin,hx,hy,hrun,goInt]
 rw[this]
 exact⟨E,hW.setRow hL _⟩
end
section
variable {r : Option Nat} {n : Nat} {P : Program} {ops : Array Oper} {Q : Exit → Act → World → Prop} {w0 : World} {L : List Res} {m : Nat} {tm : Nat → Value} {d : List Deferred}
variable {t : Tmp} {ty : TypeId} {pos : String} {af : Array Edge} {g : Option (Nat × Bool)} {rest : List Oper}
end
theorem eqAN {P:Program} {t e:TypeId} {k:IntKind} {N:Nat} {W:World} {xs ys:List Int} {d:Nat} (hu:P.underlying t=some (.array N e)) (hs:scB P e=true) (he:P.underlying e=some (.int k)) (hx:xs.length=N) (hy:ys.length=N) :
  (Op.equalIn (d+2) t (.agg (encL cI xs).toArray) (.agg (encL cI ys).toArray)).run P W=.ok (decide (xs=ys)) W:=by
 have hu1:(underlying t).run P W=.ok (.array N e) W:=by simp[underlying,hu]
 have hel:∀a b:Int,(Op.equalIn (d+1) e (.int .i64 a) (.int .i64 b)).run P W=.ok (a==b) W:=fun a b=>run_equalIn_int W d e _ _ a b he
 rw[show d+2=(d+1)+1 from E]
 generalize hd:d+1=d1 at hel ⊢
 have hpart:∀(zs:List Int) (i:Nat),i<zs.length→(part e (encL cI zs).toArray i).run P W=.ok (.int .i64 (zs.getD i default)) W:=fun zs i hi=>by
  have h2:(encL cI zs)[i]? = some (.int .i64 (zs.getD i default)):=getA hi
  simp[part,iH hs,h2]
 obtain⟨f1,hf1⟩:∃f:Nat→Int,∀i,f i=xs.getD i default:=⟨_,fun _=>E⟩
 obtain⟨f2,hf2⟩:∃f:Nat→Int,∀i,f i=ys.getD i default:=⟨_,fun _=>E⟩
 have key:∀l:List Nat,(∀i∈l,i<N)→Sem.run P (forIn l ((none,()):Option Bool × Unit) (fun i __s=>do
   let a ←part e (encL cI xs).toArray i
   let b ←part e (encL cI ys).toArray i
   let c ←Op.equalIn d1 e a b
   if(!c)=true then pure (ForInStep.done (some false,()))else pure (ForInStep.yield (none,())))) W=.ok (if ∀i∈l,f1 i=f2 i then(none,())else(some false,())) W:=by
  intro l
  induction l with
  | nil=>intro _;simp
  | cons i l ih =>
   intro hl
   have hi:=hl i (by simp)
   have ih':=ih fun j hj=>hl j (by simp[hj])
   rw[List.forIn_cons]
   simp only[Sem.run_bind,hpart xs i (by omega),hpart ys i (by omega),←hf1,←hf2,hel,Result.andThen_ok]
   by_cases hc:f1 i=f2 i
   ·have e1:(f1 i==f2 i)=true:=by rw[beq_iff_eq];exact hc
    rw[e1]
    simp only[Bool.not_true,Bool.false_eq_true,if_false,Sem.run_pure,Result.andThen_ok,ih']
    congr 1
    simp[hc]
   ·have e1:(f1 i==f2 i)=false:=by rw[beq_eq_false_iff_ne];exact hc
    rw[e1]
    simp[hc]
 simp only[Op.equalIn,Sem.run_bind,hu1,Result.andThen_ok,kx hs]
 rw[Std.Legacy.Range.forIn_eq_forIn_range']
 simp only[Std.Legacy.Range.size,Nat.sub_zero,Nat.add_sub_cancel,Nat.div_one,Nat.mul_one]
 rw[key (List.range' 0 N) (fun i hi=>by have:=List.mem_range'_1.1 hi;omega),Result.andThen_ok]
 have hiff:(∀i∈List.range' 0 N,f1 i=f2 i)↔xs=ys:=by
  constructor
  ·intro h
   refine List.ext_getElem (by omega) fun i h1 h2=>?_
   have:=h i (List.mem_range'_1.2 (by omega))
   rw[hf1,hf2,List.getD_eq_getElem?_getD,List.getD_eq_getElem?_getD,List.getElem?_eq_getElem h1,List.getElem?_eq_getElem h2]at this
   exact this
  ·intro h i _;rw[hf1,hf2,h]
 by_cases hc:xs=ys
 ·rw[if_pos (hiff.2 hc),decide_eq_true hc];rfl
 ·rw[if_neg fun h=>hc (hiff.1 h),decide_eq_false hc];rfl
open Go.RowKit (Below)
section
variable {w0 : World} {L : List Res}
theorem Ext.weakR {W:World} (h:Ext w0 W L) (i:Nat) {p:Res} (hp:L[i]? = some p) (q:Res) (hd:∀b,q.dom b→p.dom b) (hh:q.holds W):Ext w0 W (L.set i q) :=
 h.set hp q hh E E E (Nat.le_refl _) (fun _ _ _=>E) (fun b hb=>.inl (hd b hb))
theorem Ext.splitR {W:World} (h:Ext w0 W L) (i:Nat) {M:List Res} (hp:L[i]? = some (bH M [])) (p:Nat) {q:Res} (hq:M[p]? = some q):Ext w0 W (L.set i (bH M [p])++[q]):=by
 have hM:=h.all i _ hp
 have hsub:∀b,(bH M [p]).dom b→(bH M []).dom b:=fun b ⟨j,s,_,hs,hb⟩=>⟨j,s,by simp,hs,hb⟩
 have hq0:∀b,q.dom b→(bH M []).dom b:=fun b hb=>⟨p,q,by simp,hq,hb⟩
 have h1:Ext w0 W (L.set i (bH M [p])):=h.weakR i hp _ hsub ⟨fun j s _ hs=>hM.1 j s (by simp) hs,fun j k s u _ _ hs hu=>hM.2 j k s u (by simp) (by simp) hs hu⟩
 have hi:=(List.getElem?_eq_some_iff.1 hp).1
 refine h1.snoc (hM.1 p q (by simp) hq) (fun b hb=>h.new i _ hp b (hq0 b hb)) fun k s hk b hb hb'=>?_
 by_cases e:i=k
 ·subst e
  rw[List.getElem?_set_self hi]at hk
  cases hk
  obtain⟨j,u,hj,hu,hd⟩:=hb
  exact hM.2 j p u q (by simp) (by simp) hu hq (by simpa using hj) b hd hb'
 ·rw[List.getElem?_set_ne e]at hk
  exact h.sep k i s _ hk hp (fun e'=>e e'.symm) b hb (hq0 b hb')
theorem tw {M:List Res} {p:Nat} {q R:Res} (hR:∀b,(bH M [p]).dom b→R.dom b) (hh:∀W,R.holds W→(bH M [p]).holds W) (hpM:p<M.length):(∀b,(bH (M.set p q) []).dom b→(p8 R q).dom b)∧∀W,(p8 R q).holds W→(bH (M.set p q) []).holds W:=by
 have hget:∀(j:Nat) (s:Res),(M.set p q)[j]? = some s→(j=p∧s=q)∨(j≠p∧M[j]? = some s):=fun j s hs=>by
  by_cases e:p=j
  ·subst e
   rw[List.getElem?_set_self hpM]at hs
   exact .inl ⟨E,(Option.some.inj hs).symm⟩
  ·rw[List.getElem?_set_ne e]at hs
   exact .inr ⟨fun e'=>e e'.symm,hs⟩
 refine⟨fun b ⟨j,s,_,hs,hb⟩=>?_,fun W hW=>⟨fun j s _ hs=>?_,fun j k s u _ _ hs hu hne b hb hb'=>?_⟩⟩
 ·rcases hget j s hs with⟨_,rfl⟩|⟨h1,h2⟩
  ·exact .inr hb
  ·exact .inl (hR b ⟨j,s,by simpa using h1,h2,hb⟩)
 ·rcases hget j s hs with⟨_,rfl⟩|⟨h1,h2⟩
  ·exact hW.2.1
  ·exact(hh W hW.1).1 j s (by simpa using h1) h2
 ·rcases hget j s hs with⟨e1,rfl⟩|⟨h1,h2⟩
  ·rcases hget k u hu with⟨e2,rfl⟩|⟨h3,h4⟩
   ·exact hne (e1.trans e2.symm)
   ·exact hW.2.2 b (hR b ⟨k,u,by simpa using h3,h4,hb'⟩) hb
  ·rcases hget k u hu with⟨e2,rfl⟩|⟨h3,h4⟩
   ·exact hW.2.2 b (hR b ⟨j,s,by simpa using h1,h2,hb⟩) hb'
   ·exact(hh W hW.1).2 j k s u (by simpa using h1) (by simpa using h3) h2 h4 hne b hb hb'
theorem Ext.backR {W:World} {i:Nat} {M:List Res} {p:Nat} {q:Res} (hi:i<L.length) (hpM:p<M.length) (h:Ext w0 W (L.set i (bH M [p])++[q])):Ext w0 W (L.set i (bH (M.set p q) [])):=by
 have hj:=h.joinF i L.length (by omega) (p:=bH M [p]) (q:=q) (by rw[List.getElem?_append_left (by rw[List.length_set];exact hi),List.getElem?_set_self hi]) (by rw[List.getElem?_append_right (by rw[List.length_set];omega)];simp)
 have e:((L.set i (bH M [p])++[q]).set L.length noR).set i (p8 (bH M [p]) q)=L.set i (p8 (bH M [p]) q)++[noR]:=by
  rw[List.set_append_right _ _ (by rw[List.length_set];omega),List.length_set,Nat.sub_self,List.set_cons_zero,List.set_append_left _ _ (by rw[List.length_set];exact hi),List.set_set]
 rw[e]at hj
 have ht:=hj.take L.length
 rw[List.take_append_of_le_length (by rw[List.length_set];omega),List.take_of_length_le (by rw[List.length_set];omega)]at ht
 obtain⟨w1,w2⟩:=tw (M:=M) (p:=p) (q:=q) (R:=bH M [p]) (fun _ h=>h) (fun _ h=>h) hpM
 have:=ht.weakR i (p:=p8 (bH M [p]) q) (by rw[List.getElem?_set_self hi]) (bH (M.set p q) []) w1 (w2 W (ht.all i _ (by rw[List.getElem?_set_self hi])))
 rwa [List.set_set]at this
theorem Ext.putR {W:World} (h:Ext w0 W L) (i j:Nat) (hij:i≠j) {M:List Res} {p:Nat} {q:Res} (hp:L[i]? = some (bH M [])) (hq:L[j]? = some q) (hpM:p<M.length):Ext w0 W ((L.set j noR).set i (bH (M.set p q) [])):=by
 have hj:=h.joinF i j hij hp hq
 have hi:=(List.getElem?_eq_some_iff.1 hp).1
 have hi2:i<(L.set j noR).length:=by rw[List.length_set];exact hi
 obtain⟨w1,w2⟩:=tw (M:=M) (p:=p) (q:=q) (R:=bH M []) (fun b ⟨j,s,_,hs,hb⟩=>⟨j,s,by simp,hs,hb⟩) (fun W hW=>⟨fun j s _ hs=>hW.1 j s (by simp) hs,fun j k s u _ _ hs hu=>hW.2 j k s u (by simp) (by simp) hs hu⟩) hpM
 have:=hj.weakR i (p:=p8 (bH M []) q) (by rw[List.getElem?_set_self hi2]) (bH (M.set p q) []) w1 (w2 W (hj.all i _ (by rw[List.getElem?_set_self hi2])))
 rwa [List.set_set]at this
def nilY:Hd × List Int:=((none,0,0),[])
def inR (e:TypeId) (ys:List (Hd × List Int)):Res:=bH (ys.map fun y=>aR y.1.1 y.1.2.2 e 1 y.1.2.1 (encL cI y.2)) []
theorem PvL.inR {e:TypeId} {wb:World} {Hb:World→Prop} {ys:List (Hd × List Int)}:PvL (fun z:List Int=>z) cI wb (fun W=>Hb W∧(inR e ys).holds W) ys:=fun y hy W hb hh=>by
 obtain⟨i,hi,rfl⟩:=List.mem_iff_getElem.1 hy
 exact eZ (hh.2.1 i _ (by simp) (by rw[List.getElem?_map,List.getElem?_eq_getElem hi];rfl))
end
section
variable {r : Option Nat} {n : Nat} {P : Program} {ops : Array Oper} {Q : Exit → Act → World → Prop} {w0 : World} {L : List Res} {m : Nat} {tm : Nat → Value} {d : List Deferred} {l : List Oper} {e : Exit} {ρ : Operand → Value}
variable {t : Option Tmp} {ty : TypeId} {pos : String} {af : Array Edge} {g : Option (Nat × Bool)}
theorem ox_putIn (i j:Nat) (hij:i≠j) {e:TypeId} {ys:List (Hd × List Int)} {p:Int} {A:Option Addr} {k c:Nat} {xs:List Int} (hp:L[i]? = some (inR e ys)) (hq:L[j]? = some (aR A c e 1 k (encL cI xs))) (h0:0≤p) (h1:p<(ys.length:Int)) (h:OX r n P ops Q w0 ((L.set j noR).set i (inR e (ys.set p.toNat ((A,k,c),xs)))) l m tm d):OX r n P ops Q w0 L l m tm d:=fun W hW=>h W (by
 have:=hW.putR i j hij (p:=p.toNat) hp hq (by rw[List.length_map];omega)
 unfold inR
 rw[List.map_set]
 exact this)
theorem Yld.to {C C':World→Prop} {v:Value} {R:Result Next} (h:Yld r n P C v R) (hc:∀W,C W→C' W):Yld r n P C' v R:=by
 unfold Yld at h ⊢
 split at h
 ·exact⟨h.1,hc _ h.2⟩
 ·exact⟨h.1,hc _ h.2⟩
 ·exact h.mono fun e W hh=>⟨hh.1,hc _ hh.2⟩
 ·exact h.mono fun e W hh=>⟨hh.1,hc _ hh.2⟩
 ·exact h.elim
theorem NestP.nils {k:Nat}:NestP (fun z:List Int=>z) (List.replicate k nilY) (List.replicate k []):=⟨by rw[List.map_replicate];rfl,fun y hy=>by rw[(List.mem_replicate.1 hy).2];rfl⟩
theorem NestP.ltIn {ys:List (Hd × List Int)} {xs:List (List Int)} (h:NestP (fun z:List Int=>z) ys xs) {p j:Int} (hj:j<((rdL xs p).length:Int)):j<((rdL ys p).2.length:Int):=by
 rw[h.snd p]
 exact hj
theorem NestP.setIn {ys:List (Hd × List Int)} {xs:List (List Int)} (h:NestP (fun z:List Int=>z) ys xs) {p j v:Int} (h0:0≤p) (h1:p<(xs.length:Int)):NestP (fun z:List Int=>z) (ys.set p.toNat ((rdL ys p).1,(rdL ys p).2.set j.toNat v)) (xs.set p.toNat ((rdL xs p).set j.toNat v)) :=
 h.set _ (by rw[h.len h0 h1];show(rdL xs p).length=((rdL ys p).2.set j.toNat v).length;rw[List.length_set,h.snd p]) (by show(rdL ys p).2.set j.toNat v=_;rw[h.snd p])
theorem ox_addIn {e:TypeId} {k:Nat} (h:OX r n P ops Q w0 (L++[inR e (List.replicate k nilY)]) l m tm d):OX r n P ops Q w0 L l m tm d:=fun W hW=>h W (by
 have hn:∀(j:Nat) (p:Res),((List.replicate k nilY).map fun y:Hd × List Int=>aR y.1.1 y.1.2.2 e 1 y.1.2.1 (encL cI y.2))[j]? = some p→p=aR none 0 e 1 0 (encL cI ([]:List Int)):=fun j p hj=>by
  rw[List.map_replicate]at hj
  exact(List.mem_replicate.1 (List.mem_of_getElem? hj)).2
 have hd:∀b,¬(aR none 0 e 1 0 (encL cI ([]:List Int))).dom b:=fun b ⟨a,ha,_⟩=>by cases ha
 have h0:(aR none 0 e 1 0 (encL cI ([]:List Int))).holds W:=(hW.nilrow e 1).all L.length _ (by simp[encL])
 refine hW.snoc ⟨fun j p _ hj=>by rw[hn j p hj];exact h0,fun j k p q _ _ hj _ _ b hb _=>by rw[hn j p hj]at hb;exact hd b hb⟩ (fun b ⟨j,p,_,hj,hb⟩=>by rw[hn j p hj]at hb;exact(hd b hb).elim) (fun i q _ b _ ⟨j,p,_,hj,hb⟩=>by rw[hn j p hj]at hb;exact hd b hb))
theorem mL (i0 i:Nat) (hne:i0≠i) {cells:Hd × List Int→List Value} (hce:∀y z,y.1=z.1→cells y=cells z) {A:Option Addr} {c k sz:Nat} {e0:TypeId} {e:TypeId} {ys:List (Hd × List Int)} {p j:Int} {v:Int} {x y:Operand} {u:TypeId} (hs:szB P u 1=true) (hL0:L[i0]? = some (aR A c e0 sz k (encL cells ys))) (hL:L[i]? = some (inR e ys)) (hp0:0≤p) (hp1:p<(ys.length:Int)) (h0:0≤j) (h1:j<((rdL ys p).2.length:Int)) (hx:ρ x=slA (rdL ys p).1.1 (j.toNat*1)) (hy:ρ y=.int .i64 v) :
  OpY r n P ⟨t,.store u x y,ty,pos,af,g⟩ ρ (fun W=>Ext w0 W L) (fun W=>Ext w0 W ((L.set i (inR e (ys.set p.toNat ((rdL ys p).1,(rdL ys p).2.set j.toNat v)))).set i0 (aR A c e0 sz k (encL cells (ys.set p.toNat ((rdL ys p).1,(rdL ys p).2.set j.toNat v)))))) undef:=fun W hW=>by
 have hpl:p.toNat<ys.length:=by omega
 have hrd:rdL ys p=ys[p.toNat]:=by
  unfold rdL
  rw[List.getD_eq_getElem?_getD,List.getElem?_eq_getElem hpl]
  rfl
 have hi:=(List.getElem?_eq_some_iff.1 hL).1
 have hsp:=hW.splitR i hL p.toNat (q:=aR (rdL ys p).1.1 (rdL ys p).1.2.2 e 1 (rdL ys p).1.2.1 (encL cI (rdL ys p).2)) (by rw[List.getElem?_map,List.getElem?_eq_getElem hpl,hrd];rfl)
 have hst:=iD (r:=r) (n:=n) (P:=P) (ρ:=ρ) (w0:=w0) (t:=t) (ty:=ty) (pos:=pos) (af:=af) (g:=g) (L:=L.set i (bH (ys.map fun y=>aR y.1.1 y.1.2.2 e 1 y.1.2.1 (encL cI y.2)) [p.toNat])++[aR (rdL ys p).1.1 (rdL ys p).1.2.2 e 1 (rdL ys p).1.2.1 (encL cI (rdL ys p).2)]) L.length (cells:=cI) (fun _=>E) (xs:=(rdL ys p).2) (A:=(rdL ys p).1.1) (c:=(rdL ys p).1.2.2) (e:=e) (k:=(rdL ys p).1.2.1) v hs (by rw[List.getElem?_append_right (by rw[List.length_set];omega)];simp) h0 h1 hx E hy E
 refine(hst W hsp).to fun W2 h2=>?_
 rw[List.set_append_right _ _ (by rw[List.length_set];omega),List.length_set,Nat.sub_self,List.set_cons_zero]at h2
 have h3:Ext w0 W2 (L.set i (inR e (ys.set p.toNat ((rdL ys p).1,(rdL ys p).2.set j.toNat v)))):=by
  have:=Ext.backR hi (by rw[List.length_map];exact hpl) h2
  unfold inR
  rw[List.map_set]
  exact this
 have hcc:encL cells (ys.set p.toNat ((rdL ys p).1,(rdL ys p).2.set j.toNat v))=encL cells ys:=by
  have:(ys.set p.toNat ((rdL ys p).1,(rdL ys p).2.set j.toNat v)).map cells=ys.map cells:=by
   refine List.ext_getElem (by simp) fun q a b=>?_
   rw[List.getElem_map,List.getElem_map,List.getElem_set]
   split
   ·rename_i e1
    subst e1
    exact hce _ _ (by rw[hrd])
   ·rfl
  unfold encL
  rw[List.flatMap_def,List.flatMap_def,this]
 rw[hcc]
 have h4:=(List.getElem?_eq_some_iff.1 hL0).1
 have h5:=(List.getElem?_eq_some_iff.1 hL0).2
 have e2:(L.set i (inR e (ys.set p.toNat ((rdL ys p).1,(rdL ys p).2.set j.toNat v)))).set i0 (aR A c e0 sz k (encL cells ys))=L.set i (inR e (ys.set p.toNat ((rdL ys p).1,(rdL ys p).2.set j.toNat v))):=by
  rw[List.set_comm _ _ (fun e3=>hne e3.symm),←h5,List.set_getElem_self]
 rw[e2]
 exact h3
end
end Go.Proofs.YthndghnkebboaaaGreat
