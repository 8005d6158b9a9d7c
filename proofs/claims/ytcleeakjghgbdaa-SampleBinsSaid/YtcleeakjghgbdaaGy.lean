import Derived.Test.YtcleeakjghgbdaaGr
set_option linter.unusedVariables false
namespace Go.Proofs.Ytcleeakjghgbdaa
open Go.RowKit (Below)
theorem kS (a:Act) (d:Option Tmp) (v:Value):(a.put d v).tmps.size=a.tmps.size:=by
 cases d with
 | none=>rfl
 | some i=>simp[Act.put]
theorem gK {ops:Array Oper} (vals:Nat→Value) (a0:Act) (S:Nat→Bool):∀m,(stA ops vals a0 S m).tmps.size=a0.tmps.size
 | 0=>rfl
 | m+1=>by
  unfold stA
  split
  ·rw[kS,gK vals a0 S m]
  ·exact gK vals a0 S m
theorem lJ {a b:Act} {d:Option Tmp} {u v:Value} (hs:a.tmps.size=b.tmps.size) (h:a.put d u=a.put d v):b.put d u=b.put d v:=by
 cases d with
 | none=>rfl
 | some i =>
  have h1:a.tmps.setIfInBounds i u=a.tmps.setIfInBounds i v:=congrArg Act.tmps h
  show(⟨b.tmps.setIfInBounds i u,b.defers⟩:Act)=⟨b.tmps.setIfInBounds i v,b.defers⟩
  congr 1
  apply Array.ext_getElem?
  intro j
  have h2:=congrArg (fun t=>t[j]?) h1
  simp only[Array.getElem?_setIfInBounds]at h2 ⊢
  by_cases e:i=j
  ·subst e
   by_cases hl:i<b.tmps.size
   ·simp[hl,hs]at h2 ⊢
    exact h2
   ·simp[hl]
  ·simp[e]
abbrev Xo:=Nat→Option Addr × Nat × Nat × List (Option Addr × Nat × Nat) × Res
abbrev Sd:=Option Nat × Nat × List Bool
structure Dyn where
 val:(Nat→Xo)→Value
 wp:(Nat→Xo)→Res
 made:(Nat→Xo)→List Res
instance:Inhabited Dyn:=⟨⟨fun _=>undef,fun _=>noR,fun _=>[]⟩⟩
def bP:List Res→List Bool→List Res
 | p::L,true::k=>p::bP L k
 | _::L,false::k=>noR::bP L k
 | _,_=>[]
def g8 (s:Sd) (d:Dyn) (ξ:Nat→Xo) (L:List Res):List Res:=(match s.1 with|some i=>L.set i (d.wp ξ)|none=>L)++d.made ξ
def iZ (ξ:Nat→Xo) (j:Nat) (x:Xo):Nat→Xo:=fun i=>if i=j then x else ξ i
def obQ (w0:World) (j:Nat) (s:Sd) (d:Dyn) (ξ:Nat→Xo) (dst:Option Tmp) (L:List Res) (a:Act):Exit→Act→World→Prop:=fun e a' W =>
 e=.normal∧∃x,a'=a.put dst (d.val (iZ ξ j x))∧Ext w0 W (g8 s d (iZ ξ j x) L)
def obG (r:Option Nat) (n:Nat) (P:Program) (ops:Array Oper) (w0:World) (ξ:Nat→Xo) (j:Nat) (o:Oper) (s:Sd) (d:Dyn) (L:List Res) (a:Act):Prop :=
 (Region.wanted o (yielded ops a.tmps)=true∧∀(L2:List Res) (W:World),Ext w0 W (bP L s.2.2++L2)→o.wpIn (Fw r) n P a W (fun a' W'=>obQ w0 j s d ξ o.dst (bP L s.2.2++L2) a .normal a' W') (obQ w0 j s d ξ o.dst (bP L s.2.2++L2) a)) ∨
 (Region.wanted o (yielded ops a.tmps)=false∧(∀ξ',d.val ξ'=undef)∧s.1=none∧s.2.1=0)
def GW (r:Option Nat) (n:Nat) (P:Program) (ops:Array Oper) (w0:World) (ξ:Nat→Xo) (K:List Res→Act→Prop):Nat→List Oper→List Sd→List Dyn→List Res→Act→Prop
 | _,[],[],[],L,a=>K L a
 | j,o::os,s::ss,d::ds,L,a=>obG r n P ops w0 ξ j o s d L a∧GW r n P ops w0 ξ K (j+1) os ss ds (g8 s d ξ L) (a.put o.dst (d.val ξ))
 | _,_,_,_,_,_=>False
def d8 (sd:List Sd) (base:Nat):Nat→Nat
 | 0=>base
 | j+1=>d8 sd base j+(sd.getD j default).2.1
def wrG (sd:List Sd) (base j i:Nat):Bool:=((sd.getD j default).1==some i)||(decide (d8 sd base j≤i)&&decide (i<d8 sd base (j+1)))
def dpG (A:List (List Nat)) (j i:Nat):Bool:=(A.getD j []).contains i
def chkG (ops:Array Oper) (A:List (List Nat)) (sd:List Sd) (base:Nat):Bool :=
 decide (sd.length=ops.size)&&(List.range ops.size).all fun j =>
  (match (sd.getD j default).1 with|none=>true|some i=>decide (i<d8 sd base j))&&decide ((sd.getD j default).2.2.length=d8 sd base j) &&
  ((A.getD j []).all fun i=>match ops[j]? with
   | some o=>o.after.any fun e=>Region.binds .any e&&(e.on==i||dpG A e.on i)
   | none=>false) &&
  ((List.range ops.size).all fun i=>decide (i=j)||(List.range (d8 sd base ops.size)).all fun q => !(wrG sd base i q) ||
   ((!(wrG sd base j q)||dpG A j i||dpG A i j)&&(!((sd.getD j default).2.2.getD q false)||(if i<j then dpG A j i else dpG A i j))))
def IndA (A:List (List Nat)):Nat→List Sd→List Dyn→Prop
 | _,[],[]=>True
 | j,s::ss,d::ds=>((∀ξ ξ':Nat→Xo,(∀i,(i=j∨dpG A j i=true)→ξ i=ξ' i)→d.val ξ=d.val ξ'∧d.wp ξ=d.wp ξ'∧d.made ξ=d.made ξ')∧∀ξ,(d.made ξ).length=s.2.1)∧IndA A (j+1) ss ds
 | _,_,_=>False
structure ExtF (w0 W:World) (f:Nat→Option Res):Prop where
 below:Below w0.heap.size w0 W
 all:∀(i:Nat) (p:Res),f i=some p→p.holds W
 new:∀(i:Nat) (p:Res),f i=some p→∀b,p.dom b→w0.heap.size≤b
 sep:∀(i j:Nat) (p q:Res),f i=some p→f j=some q→i≠j→∀b,p.dom b→¬q.dom b
theorem ExtF.of {w0 W:World} {L:List Res} (h:Ext w0 W L):ExtF w0 W (fun i=>L[i]?):=⟨h.below,h.all,h.new,h.sep⟩
theorem ExtF.to {w0 W:World} {L:List Res} (h:ExtF w0 W (fun i=>L[i]?)):Ext w0 W L:=⟨h.below,h.all,h.new,h.sep⟩
theorem ExtF.map {w0 W:World} {f g:Nat→Option Res} (h:ExtF w0 W f) (σ:Nat→Nat) (hg:∀i p,g i=some p→p=noR∨f (σ i)=some p)
  (hj:∀i j p q,g i=some p→g j=some q→i≠j→p=noR∨q=noR∨(f (σ i)=some p∧f (σ j)=some q∧σ i≠σ j)):ExtF w0 W g where
 below:=h.below
 all i p hp:=by
  rcases hg i p hp with rfl|h1
  ·trivial
  ·exact h.all _ _ h1
 new i p hp b hb:=by
  rcases hg i p hp with rfl|h1
  ·exact hb.elim
  ·exact h.new _ _ h1 b hb
 sep i j p q hp hq hne b hb hb':=by
  rcases hj i j p q hp hq hne with rfl|rfl|⟨h1,h2,h3⟩
  ·exact hb.elim
  ·exact hb'.elim
  ·exact h.sep _ _ _ _ h1 h2 h3 b hb hb'
theorem gP:∀(L:List Res) (k:List Bool) (q:Nat),L.length=k.length→(bP L k)[q]? = (L[q]?).map fun p=>if k.getD q false=true then p else noR
 | [],[],q,_=>by simp[bP]
 | p::L,true::k,0,_=>by simp[bP]
 | p::L,false::k,0,_=>by simp[bP]
 | p::L,true::k,q+1,h=>by
  have:=gP L k q (by simpa using h)
  simpa [bP]using this
 | p::L,false::k,q+1,h=>by
  have:=gP L k q (by simpa using h)
  simpa [bP]using this
theorem iK:∀(L:List Res) (k:List Bool),L.length=k.length→(bP L k).length=L.length
 | [],[],_=>rfl
 | p::L,true::k,h=>by simp[bP,iK L k (by simpa using h)]
 | p::L,false::k,h=>by simp[bP,iK L k (by simpa using h)]
section
variable {r : Option Nat} {n : Nat} {P : Program} {ops : Array Oper}
def lx (sd:List Sd) (dy:List Dyn) (ξ:Nat→Xo) (L0:List Res):Nat→List Res
 | 0=>L0
 | j+1=>g8 (sd.getD j default) (dy.getD j default) ξ (lx sd dy ξ L0 j)
def vaG (dy:List Dyn) (ξ:Nat→Xo) (j:Nat):Value:=(dy.getD j default).val ξ
theorem gw_spec {l:List Oper} (hops:ops=l.toArray) {sd:List Sd} {dy:List Dyn} {w0:World} {ξ:Nat→Xo} {K:List Res→Act→Prop} {L0:List Res} {a0:Act} (hs:sd.length=l.length) (hd:dy.length=l.length) :
  ∀(c j:Nat),j+c=l.length→GW r n P ops w0 ξ K j (l.drop j) (sd.drop j) (dy.drop j) (lx sd dy ξ L0 j) (stA ops (vaG dy ξ) a0 (fun _=>true) j) →
   (∀i o,j≤i→ops[i]? = some o→obG r n P ops w0 ξ i o (sd.getD i default) (dy.getD i default) (lx sd dy ξ L0 i) (stA ops (vaG dy ξ) a0 (fun _=>true) i))∧K (lx sd dy ξ L0 l.length) (stA ops (vaG dy ξ) a0 (fun _=>true) l.length):=by
 intro c
 induction c with
 | zero =>
  intro j hj h
  have:j=l.length:=by omega
  subst this
  rw[List.drop_length,←hs,List.drop_length,hs,←hd,List.drop_length,hd]at h
  refine⟨fun i o hi ho=>?_,h⟩
  have:i<ops.size:=(Array.getElem?_eq_some_iff.1 ho).1
  rw[hops]at this
  simp at this
  omega
 | succ c ih =>
  intro j hj h
  have h1:j<l.length:=by omega
  rw[List.drop_eq_getElem_cons h1,List.drop_eq_getElem_cons (show j<sd.length by omega),List.drop_eq_getElem_cons (show j<dy.length by omega)]at h
  obtain⟨hob,hrest⟩:=h
  have e1:sd[j]'(by omega)=sd.getD j default:=by simp[show j<sd.length by omega]
  have e2:dy[j]'(by omega)=dy.getD j default:=by simp[show j<dy.length by omega]
  have ho:ops[j]? = some l[j]:=by rw[hops];simp[h1]
  have e3:dr ops j=l[j].dst:=by simp[dr,ho]
  rw[e1,e2]at hob hrest
  have hrest':GW r n P ops w0 ξ K (j+1) (l.drop (j+1)) (sd.drop (j+1)) (dy.drop (j+1)) (lx sd dy ξ L0 (j+1)) (stA ops (vaG dy ξ) a0 (fun _=>true) (j+1)):=by
   have e4:stA ops (vaG dy ξ) a0 (fun _=>true) (j+1)=(stA ops (vaG dy ξ) a0 (fun _=>true) j).put (l[j]).dst ((dy.getD j default).val ξ):=by
    simp[stA,e3,vaG]
   rw[e4]
   exact hrest
  obtain⟨h2,h3⟩:=ih (j+1) (by omega) hrest'
  refine⟨fun i o hi hoi=>?_,h3⟩
  by_cases e:i=j
  ·subst e
   rw[ho]at hoi;cases hoi
   exact hob
  ·exact h2 i o (by omega) hoi
theorem kh {A:List (List Nat)}:∀(sd:List Sd) (dy:List Dyn) (j0:Nat),IndA A j0 sd dy→dy.length=sd.length∧∀j,j<sd.length →
  (∀ξ ξ':Nat→Xo,(∀i,(i=j0+j∨dpG A (j0+j) i=true)→ξ i=ξ' i)→(dy.getD j default).val ξ=(dy.getD j default).val ξ'∧(dy.getD j default).wp ξ=(dy.getD j default).wp ξ'∧(dy.getD j default).made ξ=(dy.getD j default).made ξ')∧∀ξ,((dy.getD j default).made ξ).length=(sd.getD j default).2.1
 | [],[],_,_=>⟨E,fun j hj=>by simp at hj⟩
 | s::ss,d::ds,j0,h=>by
  obtain⟨h1,h2⟩:=kh ss ds (j0+1) h.2
  refine⟨by simp[h1],fun j hj=>?_⟩
  cases j with
  | zero=>exact⟨h.1.1,h.1.2⟩
  | succ j =>
   have:=h2 j (by simpa using hj)
   simpa [Nat.add_assoc,Nat.add_comm 1 j]using this
 | [],_::_,_,h=>h.elim
 | _::_,[],_,h=>h.elim
theorem kC {o:Oper} {a b:Act} {W w0:World} {j:Nat} {s:Sd} {dd:Dyn} {ξ:Nat→Xo} {L:List Res} {K:Act→World→Prop} {Q:Exit→Act→World→Prop} (hs:∀cs x,o.op ≠ .select cs x) (hd:∀c,o.op ≠ .defer c) (hev:∀x∈o.op.operands,a.eval x=b.eval x) (hsz:a.tmps.size=b.tmps.size)
  (h:o.wpIn (Fw r) n P a W (fun a' W'=>obQ w0 j s dd ξ o.dst L a .normal a' W') (obQ w0 j s dd ξ o.dst L a)) (hK:∀x W',Ext w0 W' (g8 s dd (iZ ξ j x) L)→K (b.put o.dst (dd.val (iZ ξ j x))) W'):o.wpIn (Fw r) n P b W K Q:=by
 refine⟨fun _ _=>by cases r <;> trivial,?_⟩
 have h2:=h.2
 have e:o.semAt r b.eval=o.semAt r a.eval:=by
  have e1:execOp b.eval o=execOp a.eval o:=execOp_congr o hs (fun x hx=>(hev x hx).symm)
  cases r with
  | none=>rw[Oper.semAt_none,Oper.semAt_none,e1]
  | some l=>rw[Oper.semAt_some l _ o hd,Oper.semAt_some l _ o hd,e1]
 have e0:(Fw r).round=r:=by cases r <;> rfl
 rw[e0]at h2 ⊢
 rw[e]
 have key:∀u W',obQ w0 j s dd ξ o.dst L a .normal (a.put o.dst u) W'→K (b.put o.dst u) W':=fun u W' hc=>by
  obtain⟨_,x,hv,hE⟩:=hc
  rw[lJ hsz hv]
  exact hK x W' hE
 generalize (o.semAt r a.eval).run P W=res at h2 ⊢
 match res,h2 with
 | .ok (.value u) W',h2=>exact key u W' h2
 | .ok .skip W',h2=>exact key undef W' h2
 | .ok (.defer d') W',h2 =>
  obtain⟨_,x,hv,_⟩:=h2
  have h9:=congrArg Act.defers hv
  rw[dR,dR]at h9
  exact absurd h9 (by simp)
 | .ok (.enter f args) W',h2 =>
  refine⟨h2.1,h2.2.mono ?_⟩
  rintro(_|_|_) w hw
  ·exact key _ _ hw
  ·exact absurd hw.1 (by intro h;cases h)
  ·obtain⟨a9,w9,h9⟩:=hw
   exact absurd h9.1 (by intro h;cases h)
 | .ok (.row row args) W',h2 =>
  refine⟨h2.1,?_⟩
  exact RowsIn.mono h2.2 (fun u w hw=>key u w hw)
 | .ok (.round l f tmps assign body) W',h2 =>
  refine⟨h2.1,h2.2.mono ?_⟩
  rintro(_|_|_) w hw
  ·exact key _ _ hw
  ·exact absurd hw.1 (by intro h;cases h)
  ·obtain⟨a9,w9,h9⟩:=hw
   exact absurd h9.1 (by intro h;cases h)
 | .halt (.panic u) W',h2=>exact absurd h2.1 (by intro h;cases h)
end
section
variable {r : Option Nat} {n : Nat} {P : Program} {ops : Array Oper} {Q : Exit → Act → World → Prop} {w0 : World} {sd : List Sd} {dy : List Dyn} {base : Nat} {L0 : List Res} {A : List (List Nat)} {ξ ξ' : Nat → Xo} {S S' : Nat → Bool}
def cu (sd:List Sd) (dy:List Dyn) (base:Nat) (L0:List Res) (ξ:Nat→Xo) (S:Nat→Bool):Nat→Nat→Option Res
 | 0,q=>L0[q]?
 | j+1,q=>if S j=true∧(sd.getD j default).1=some q then some ((dy.getD j default).wp ξ)
   else if S j=true∧d8 sd base j≤q∧q<d8 sd base (j+1)then((dy.getD j default).made ξ)[q-d8 sd base j]?
   else cu sd dy base L0 ξ S j q
theorem iw {j q:Nat}:wrG sd base j q=true↔(sd.getD j default).1=some q∨(d8 sd base j≤q∧q<d8 sd base (j+1)):=by
 unfold wrG
 simp only[Bool.or_eq_true,Bool.and_eq_true,decide_eq_true_eq,beq_iff_eq]
theorem cu_no {j q:Nat} (h:¬(S j=true∧wrG sd base j q=true)):cu sd dy base L0 ξ S (j+1) q=cu sd dy base L0 ξ S j q:=by
 rw[iw]at h
 simp only[cu]
 rw[if_neg (fun x=>h ⟨x.1,.inl x.2⟩),if_neg (fun x=>h ⟨x.1,.inr x.2⟩)]
theorem jT {j:Nat}:∀k,j≤k→d8 sd base j≤d8 sd base k:=fun k h=>by
 induction k with
 | zero =>
  have:j=0:=by omega
  subst this;exact Nat.le_refl _
 | succ k ih =>
  by_cases e:j=k+1
  ·subst e;exact Nat.le_refl _
  ·have:=ih (by omega)
   simp only[d8]
   omega
theorem lx_spec (hb:L0.length=base) {k:Nat} (hwr:∀j i,j<k→(sd.getD j default).1=some i→i<d8 sd base j) (hlen:∀j,j<k→((dy.getD j default).made ξ).length=(sd.getD j default).2.1) :
  ∀j,j≤k→(lx sd dy ξ L0 j).length=d8 sd base j∧∀q,(lx sd dy ξ L0 j)[q]? = cu sd dy base L0 ξ (fun _=>true) j q:=by
 intro j
 induction j with
 | zero=>intro _;exact⟨hb,fun q=>rfl⟩
 | succ j ih =>
  intro hj
  obtain⟨h1,h2⟩:=ih (by omega)
  have h3:=hlen j (by omega)
  have h4:=hwr j
  have key:∀L:List Res,L.length=d8 sd base j→(∀q,L[q]? = if(sd.getD j default).1=some q then some ((dy.getD j default).wp ξ)else cu sd dy base L0 ξ (fun _=>true) j q) →
    (L++(dy.getD j default).made ξ).length=d8 sd base (j+1)∧∀q,(L++(dy.getD j default).made ξ)[q]? = cu sd dy base L0 ξ (fun _=>true) (j+1) q:=by
   intro L hL hq
   refine⟨by rw[List.length_append,hL,h3];rfl,fun q=>?_⟩
   simp only[cu,true_and]
   by_cases e:(sd.getD j default).1=some q
   ·have:=h4 q (by omega) e
    rw[if_pos e,List.getElem?_append_left (by omega),hq q,if_pos e]
   ·rw[if_neg e]
    by_cases hlt:q<d8 sd base j
    ·rw[if_neg (by omega),List.getElem?_append_left (by omega),hq q,if_neg e]
    ·rw[List.getElem?_append_right (by omega),hL]
     by_cases hlt2:q<d8 sd base (j+1)
     ·rw[if_pos ⟨by omega,hlt2⟩]
     ·rw[if_neg (by omega),List.getElem?_eq_none (by rw[h3];simp only[d8]at hlt2;omega),←h2 q,List.getElem?_eq_none (by omega)]
  simp only[lx,g8]
  cases hw:(sd.getD j default).1 with
  | none=>exact key _ h1 (fun q=>by rw[hw,if_neg (by intro h;cases h),h2 q])
  | some i =>
   have hi:=h4 i (by omega) hw
   refine key _ (by rw[List.length_set];exact h1) (fun q=>?_)
   rw[List.getElem?_set,hw,h2 q]
   by_cases e:i=q
   ·subst e
    rw[if_pos E,if_pos (by omega),if_pos E]
   ·rw[if_neg e,if_neg (by intro h;cases h;exact e E)]
theorem cu_lt (hb:L0.length=base) {k:Nat} (hwr:∀j i,j<k→(sd.getD j default).1=some i→i<d8 sd base j) :
  ∀j q p,j≤k→cu sd dy base L0 ξ S j q=some p→q<d8 sd base j:=by
 intro j
 induction j with
 | zero =>
  intro q p _ h
  have:q<L0.length:=(List.getElem?_eq_some_iff.1 h).1
  simp only[d8];omega
 | succ j ih =>
  intro q p hj h
  have hm:d8 sd base j≤d8 sd base (j+1):=jT _ (by omega)
  simp only[cu]at h
  split at h
  ·rename_i h1
   have:=hwr j q (by omega) h1.2
   omega
  ·split at h
   ·rename_i h1
    exact h1.2.2
   ·have:=ih q p (by omega) h
    omega
theorem ji {k q:Nat} (h:∀i,i<k→wrG sd base i q=true→S i=S' i):cu sd dy base L0 ξ S k q=cu sd dy base L0 ξ S' k q:=by
 induction k with
 | zero=>rfl
 | succ k ih =>
  have ih:=ih (fun i hi=>h i (by omega))
  by_cases hw:wrG sd base k q=true
  ·have:=h k (by omega) hw
   simp only[cu,this,ih]
  ·rw[cu_no (fun x=>hw x.2),cu_no (fun x=>hw x.2),ih]
theorem cu_up {j q:Nat}:∀k,j≤k→(∀i,j≤i→i<k→wrG sd base i q=true→S i=false)→cu sd dy base L0 ξ S k q=cu sd dy base L0 ξ S j q:=fun k hk h=>by
 induction k with
 | zero =>
  have:j=0:=by omega
  subst this;rfl
 | succ k ih =>
  by_cases e:j=k+1
  ·subst e;rfl
  ·rw[cu_no (fun x=>by have:=h k (by omega) (by omega) x.2;rw[this]at x;cases x.1)]
   exact ih (by omega) (fun i h1 h2=>h i h1 (by omega))
theorem cu_xi {k q:Nat} (h:∀i,i<k→S i=true→(dy.getD i default).wp ξ=(dy.getD i default).wp ξ'∧(dy.getD i default).made ξ=(dy.getD i default).made ξ'):cu sd dy base L0 ξ S k q=cu sd dy base L0 ξ' S k q:=by
 induction k with
 | zero=>rfl
 | succ k ih =>
  have ih:=ih (fun i hi=>h i (by omega))
  simp only[cu]
  by_cases hS:S k=true
  ·obtain⟨h1,h2⟩:=h k (by omega) hS
   rw[h1,h2,ih]
  ·rw[if_neg (fun x=>hS x.1),if_neg (fun x=>hS x.1),if_neg (fun x=>hS x.1),if_neg (fun x=>hS x.1),ih]
theorem cu_put {j k q:Nat} (hj:j<k) (hS:S j=false) (hc:∀i,j<i→i<k→wrG sd base j q=true→wrG sd base i q=true→S i=false) :
  cu sd dy base L0 ξ (fun i=>S i||i==j) k q=if(sd.getD j default).1=some q then some ((dy.getD j default).wp ξ)
   else if d8 sd base j≤q∧q<d8 sd base (j+1)then((dy.getD j default).made ξ)[q-d8 sd base j]? else cu sd dy base L0 ξ S k q:=by
 by_cases hw:wrG sd base j q=true
 ·rw[cu_up (j:=j+1) k (by omega) (fun i h1 h2 h3=>by
   have:=hc i (by omega) h2 hw h3
   have hne:(i==j)=false:=by simp;omega
   simp[this,hne])]
  simp only[cu,beq_self_eq_true,Bool.or_true,true_and]
  rw[iw]at hw
  split
  ·rfl
  ·rename_i h1
   rw[if_pos (hw.resolve_left h1),if_pos (hw.resolve_left h1)]
 ·have h1:cu sd dy base L0 ξ (fun i=>S i||i==j) k q=cu sd dy base L0 ξ S k q:=ji (fun i hi hwi=>by
   have hne:(i==j)=false:=by
    simp
    intro e
    subst e
    exact hw hwi
   simp[hne])
  rw[h1]
  rw[iw]at hw
  rw[if_neg (fun x=>hw (.inl x)),if_neg (fun x=>hw (.inr x))]
theorem chk_spec (h:chkG ops A sd base=true):sd.length=ops.size∧∀j,j<ops.size →
  (∀i,(sd.getD j default).1=some i→i<d8 sd base j)∧(sd.getD j default).2.2.length=d8 sd base j ∧
  (∀i o,ops[j]? = some o→dpG A j i=true→∃e∈o.after,Region.binds .any e=true∧(e.on=i∨dpG A e.on i=true)) ∧
  ∀i q,i<ops.size→i≠j→q<d8 sd base ops.size→wrG sd base i q=true→(wrG sd base j q=true→dpG A j i=true∨dpG A i j=true)∧((sd.getD j default).2.2.getD q false=true→if i<j then dpG A j i=true else dpG A i j=true):=by
 unfold chkG at h
 simp only[Bool.and_eq_true,decide_eq_true_eq]at h
 refine⟨h.1,fun j hj=>?_⟩
 have h1:=List.all_eq_true.1 h.2 j (List.mem_range.2 hj)
 simp only[Bool.and_eq_true,decide_eq_true_eq]at h1
 obtain⟨⟨⟨h2,h3⟩,h4⟩,h5⟩:=h1
 refine⟨fun i hi=>?_,h3,fun i o ho hd=>?_,fun i q hi hne hq hw=>?_⟩
 ·rw[hi]at h2
  simpa using h2
 ·unfold dpG at hd
  have hm:i∈A.getD j []:=by simpa using hd
  have h6:=List.all_eq_true.1 h4 i hm
  simp only[ho]at h6
  rw[Array.any_eq_true]at h6
  obtain⟨t,ht,h7⟩:=h6
  simp only[Bool.and_eq_true,Bool.or_eq_true,beq_iff_eq]at h7
  exact⟨o.after[t],Array.getElem_mem ht,h7.1,h7.2⟩
 ·have h6:=List.all_eq_true.1 h5 i (List.mem_range.2 hi)
  rw[Bool.or_eq_true,decide_eq_true_eq]at h6
  have h7:=List.all_eq_true.1 (h6.resolve_left hne) q (List.mem_range.2 hq)
  rw[hw]at h7
  simp only[Bool.not_true,Bool.false_or,Bool.and_eq_true,Bool.or_eq_true,Bool.not_eq_true']at h7
  obtain⟨h8,h9⟩:=h7
  refine⟨fun h10=>?_,fun h10=>?_⟩
  ·rcases h8 with(h8|h8)|h8
   ·rw[h10]at h8;cases h8
   ·exact .inl h8
   ·exact .inr h8
  ·have h9:=h9.resolve_left (by rw[h10];simp)
   split
   ·rename_i hlt;rw[if_pos hlt]at h9;exact h9
   ·rename_i hlt;rw[if_neg hlt]at h9;exact h9
theorem lz (hO:eE ops=true) (hA:∀j i o,j<ops.size→ops[j]? = some o→dpG A j i=true→∃e∈o.after,Region.binds .any e=true∧(e.on=i∨dpG A e.on i=true))
  (hcl:∀j oj,ops[j]? = some oj→S j=true→∀e∈oj.after,Region.binds .any e=true→S e.on=true):∀(j i:Nat),j<ops.size→S j=true→dpG A j i=true→S i=true:=by
 intro j
 induction j using Nat.strongRecOn with
 | _ j ih =>
  intro i hj hS hd
  obtain⟨o,ho⟩:∃o,ops[j]? = some o:=⟨_,Array.getElem?_eq_some_iff.2 ⟨hj,E⟩⟩
  obtain⟨e,he,hb,h1⟩:=hA j i o hj ho hd
  have h2:=hcl j o ho hS e he hb
  have h3:=(aJ hO ho).2.2.1 e he hb
  rcases h1 with rfl|h1
  ·exact h2
  ·exact ih e.on h3 i (by omega) h2 h1
theorem lG {l:List Oper} (A:List (List Nat)) (sd:List Sd) (dy:List Dyn) (base:Nat) (hm:P.follows .mixedOrders=true) (hO:eE l.toArray=true) (hC:chkG l.toArray A sd base=true) (hI:IndA A 0 sd dy) (hb:L0.length=base) {id:Nat} {a0:Act} {W0:World}
  (h0:Ext w0 { W0 with drawn:=W0.drawn+1 } L0)
  (hG:∀ξ,GW r n P l.toArray w0 ξ (fun L a=>∀W,Ext w0 W L→Q .normal a W) 0 l sd dy L0 a0):(Code.region id l.toArray true).wpIn (Fw r) n P Q a0 W0:=by
 refine wpIn_region_any hm ?_
 obtain⟨ops,hops⟩:∃ops,ops=l.toArray:=⟨_,E⟩
 rw[←hops]at hO hC hG ⊢
 obtain⟨hsl,hck⟩:=chk_spec hC
 obtain⟨hdl,hind⟩:=kh sd dy 0 hI
 have hN:ops.size=l.length:=by rw[hops];simp
 obtain⟨k,hk⟩:∃k,k=ops.size:=⟨_,E⟩
 have hwr:∀j i,j<k→(sd.getD j default).1=some i→i<d8 sd base j:=fun j i hj=>(hck j (by omega)).1 i
 have hlen:∀ξ j,j<k→((dy.getD j default).made ξ).length=(sd.getD j default).2.1:=fun ξ j hj=>(hind j (by omega)).2 ξ
 have hA:∀j i o,j<ops.size→ops[j]? = some o→dpG A j i=true→∃e∈o.after,Region.binds .any e=true∧(e.on=i∨dpG A e.on i=true):=fun j i o hj=>(hck j hj).2.2.1 i o
 have hlxs:=fun ξ=>lx_spec (ξ:=ξ) hb (k:=k) hwr (hlen ξ)
 have hgw:=fun ξ=>gw_spec (r:=r) (n:=n) (P:=P) (w0:=w0) (ξ:=ξ) (K:=fun L a=>∀W,Ext w0 W L→Q .normal a W) (L0:=L0) (a0:=a0) hops (sd:=sd) (dy:=dy) (by omega) (by omega) l.length 0 (by omega) (by
  rw[List.drop_zero,List.drop_zero,List.drop_zero]
  exact hG ξ)
 have main:∀(c:Nat) (listed:Array Bool) (ξ:Nat→Xo) (W:World),ExtF w0 W (cu sd dy base L0 ξ (fun j=>listed.getD j false) k)→listed.size=k→left listed k=c →
   (∀j oj,ops[j]? = some oj→listed.getD j false=true→∀e∈oj.after,Region.binds .any e=true→listed.getD e.on false=true) →
   wpAnyIn (Fw r) n P .any ops Q c listed (stA ops (vaG dy ξ) a0 (fun j=>listed.getD j false) k) W:=by
  intro c
  induction c with
  | zero =>
   intro listed ξ W hE hsz hc hcl
   have hall:=gS hc
   refine⟨?_,?_⟩
   ·apply List.eq_nil_iff_forall_not_mem.2
    intro i hi
    obtain⟨hun,o,ho,_⟩:=mem_ready.1 hi
    have hi':i<ops.size:=(Array.getElem?_eq_some_iff.1 ho).1
    rw[bG (by omega) true false,hall i (by omega)]at hun
    cases hun
   ·have e1:∀m,m≤k→stA ops (vaG dy ξ) a0 (fun j=>listed.getD j false) m=stA ops (vaG dy ξ) a0 (fun _=>true) m:=by
     intro m
     induction m with
     | zero=>intro _;rfl
     | succ m ih =>
      intro hm
      show(if listed.getD m false=true then _ else _)=(if true=true then _ else _)
      rw[if_pos (hall m (by omega)),if_pos E,ih (by omega)]
    rw[e1 k (Nat.le_refl _)]
    have h3:=(hgw ξ).2 W (by
     refine ExtF.to ?_
     have e2:(fun i=>(lx sd dy ξ L0 l.length)[i]?)=cu sd dy base L0 ξ (fun j=>listed.getD j false) k:=funext fun q=>by
      rw[←hN,←hk,(hlxs ξ k (Nat.le_refl _)).2 q]
      exact ji (fun i hi _=>(hall i hi).symm)
     rw[e2]
     exact hE)
    rw[hk,hN]
    exact h3
  | succ c ih =>
   intro listed ξ W hE hsz hc hcl
   have hrdy:∀j,j<ops.size→listed.getD j false=false→∃i,i∈Region.ready .any ops listed:=by
    intro j
    induction j using Nat.strongRecOn with
    | _ j ihj =>
     intro hj hun
     obtain⟨o,ho⟩:∃o,ops[j]? = some o:=⟨_,Array.getElem?_eq_some_iff.2 ⟨hj,E⟩⟩
     by_cases hall:∀e∈o.after,Region.binds .any e=true→listed.getD e.on false=true
     ·exact⟨j,mem_ready.2 ⟨by rw[bG (by omega) true false];exact hun,o,ho,hall⟩⟩
     ·have:∃e∈o.after,Region.binds .any e=true∧listed.getD e.on false=false:=by
       apply Classical.byContradiction
       intro hno
       exact hall fun e he hb=>by
        cases hl:listed.getD e.on false with
        | true=>rfl
        | false=>exact absurd ⟨e,he,hb,hl⟩ hno
      obtain⟨e,he,hb,hf⟩:=this
      have hlt:=(aJ hO ho).2.2.1 e he hb
      exact ihj e.on hlt (by omega) hf
   have hex:∃j,j<k∧listed.getD j false=false:=by
    apply Classical.byContradiction
    intro hno
    have:left listed k=0:=by
     unfold left
     rw[List.length_eq_zero_iff,List.filter_eq_nil_iff]
     intro j hj
     have hj':=List.mem_range.1 hj
     cases hl:listed.getD j false with
     | true=>simp
     | false=>exact absurd ⟨j,hj',hl⟩ hno
    omega
   obtain⟨j1,hj1,hf1⟩:=hex
   obtain⟨i1,hi1⟩:=hrdy j1 (by omega) hf1
   refine⟨fun h=>(by rw[h]at hi1;cases hi1),fun i hi=>?_⟩
   obtain⟨hun,o,ho,hall⟩:=mem_ready.1 hi
   have hiN:i<k:=by rw[hk];exact(Array.getElem?_eq_some_iff.1 ho).1
   have hun':=hun
   rw[bG (by omega) true false]at hun'
   have hl:=gb (by omega) hun' k hiN
   have hfs:(fun j=>(listed.setIfInBounds i true).getD j false)=fun j=>listed.getD j false||j==i:=funext fun j=>a4 (by omega)
   have hcl':∀j oj,ops[j]? = some oj→(listed.setIfInBounds i true).getD j false=true→∀e∈oj.after,Region.binds .any e=true→(listed.setIfInBounds i true).getD e.on false=true:=fun j oj hoj hlj e he hb=>by
    rw[a4 (by omega)]at hlj ⊢
    by_cases e':j=i
    ·subst e'
     rw[ho]at hoj;cases hoj
     rw[hall e he hb];rfl
    ·have:(j==i)=false:=by simpa using e'
     rw[this,Bool.or_false]at hlj
     rw[hcl j oj hoj hlj e he hb];rfl
   obtain⟨hsel,hdef,haft,hord⟩:=aJ hO ho
   have hclos:=lz (S:=fun j=>listed.getD j false) hO hA hcl
   have hready:∀i',dpG A i i'=true→listed.getD i' false=true:=fun i' hd=>by
    obtain⟨e,he,hbd,h1⟩:=hA i i' o (by omega) ho hd
    have h2:=hall e he hbd
    rcases h1 with rfl|h1
    ·exact h2
    ·exact hclos e.on i' (by have:=haft e he hbd;omega) h2 h1
   have hlater:∀j,j<k→dpG A j i=true→listed.getD j false=false:=fun j hj hd=>by
    cases hs:listed.getD j false with
    | false=>rfl
    | true =>
     have h9:listed.getD i false=true:=hclos j i (by omega) hs hd
     rw[hun']at h9;cases h9
   have hxi:∀x j,j<k→listed.getD j false=true→∀i',(i'=0+j∨dpG A (0+j) i'=true)→ξ i'=iZ ξ i x i':=fun x j hj hs i' h=>by
    unfold iZ
    rw[if_neg]
    intro e
    subst e
    rw[Nat.zero_add]at h
    rcases h with rfl|h
    ·rw[hun']at hs;cases hs
    ·have:=hlater j hj h
     rw[hs]at this;cases this
   have hval:∀x j,j<k→listed.getD j false=true→vaG dy ξ j=vaG dy (iZ ξ i x) j:=fun x j hj hs=>((hind j (by omega)).1 _ _ (hxi x j hj hs)).1
   have hcux:∀x q,cu sd dy base L0 ξ (fun j=>listed.getD j false) k q=cu sd dy base L0 (iZ ξ i x) (fun j=>listed.getD j false) k q:=fun x q=>cu_xi (fun j hj hs=>((hind j (by omega)).1 _ _ (hxi x j hj hs)).2)
   have hlook:∀j,j<k→listed.getD j false≠decide (j<i)→∀d,dr ops j=some d→¬d∈o.looksAt ops:=by
    intro j hj hne d hd hmem
    obtain⟨oj,hoj⟩:∃oj,ops[j]? = some oj:=⟨_,Array.getElem?_eq_some_iff.2 ⟨by omega,E⟩⟩
    have hdj:oj.dst=some d:=by simpa [dr,hoj]using hd
    rcases Nat.lt_trichotomy j i with h|h|h
    ·have hl:listed.getD j false=false:=by
      cases hl:listed.getD j false with
      | false=>rfl
      | true=>exact absurd (by rw[hl];simp[h]) hne
     rcases hord j oj h hoj with hap|⟨e,he,hb,hon⟩
     ·exact(Oper.apart_spec hap).1 d hdj hmem
     ·have:=hall e he hb
      rw[hon,hl]at this;cases this
    ·subst h
     exact absurd (by rw[hun'];simp) hne
    ·have hl:listed.getD j false=true:=by
      cases hl:listed.getD j false with
      | true=>rfl
      | false=>exact absurd (by rw[hl];simp;omega) hne
     rcases (aJ hO hoj).2.2.2 i o h ho with hap|⟨e,he,hb,hon⟩
     ·exact(Oper.apart_spec hap).2.2 d hdj hmem
     ·have:=hcl j oj hoj hl e he hb
      rw[hon,hun']at this;cases this
   have hag:=eY (ops:=ops) (vaG dy ξ) a0 (fun x=>x∈o.looksAt ops) (fun j=>listed.getD j false) (fun j=>decide (j<i)) k hlook
   have hlex:stA ops (vaG dy ξ) a0 (fun j=>decide (j<i)) k=stA ops (vaG dy ξ) a0 (fun _=>true) i:=by
    have h1:∀m,m≤i→stA ops (vaG dy ξ) a0 (fun j=>decide (j<i)) m=stA ops (vaG dy ξ) a0 (fun _=>true) m:=by
     intro m
     induction m with
     | zero=>intro _;rfl
     | succ m ih=>intro hm;simp only[stA];rw[ih (by omega)];simp;omega
    have h2:∀m,i≤m→stA ops (vaG dy ξ) a0 (fun j=>decide (j<i)) m=stA ops (vaG dy ξ) a0 (fun j=>decide (j<i)) i:=by
     intro m
     induction m with
     | zero =>
      intro h
      have:i=0:=by omega
      subst this;rfl
     | succ m ih =>
      intro hm
      by_cases e:i=m+1
      ·rw[e]
      ·simp only[stA]
       rw[if_neg (by simp;omega)]
       exact ih (by omega)
    rw[h2 k (by omega),h1 i (Nat.le_refl _)]
   rw[hlex]at hag
   obtain⟨hev,hwa⟩:=dV (ops:=ops) (o:=o) (a:=stA ops (vaG dy ξ) a0 (fun j=>listed.getD j false) k) (b:=stA ops (vaG dy ξ) a0 (fun _=>true) i) hag.1
   have hput:∀ξ',(∀j,j<k→listed.getD j false=true→vaG dy ξ j=vaG dy ξ' j)→(stA ops (vaG dy ξ) a0 (fun j=>listed.getD j false) k).put o.dst ((dy.getD i default).val ξ')=stA ops (vaG dy ξ') a0 (fun j=>listed.getD j false||j==i) k:=fun ξ' h=>by
    rw[eU (ops:=ops) (vaG dy ξ') a0 (fun j=>listed.getD j false) i hun' k hiN (fun j h1 h2 h3 d h4 h5=>by
     obtain⟨oj,hoj⟩:∃oj,ops[j]? = some oj:=⟨_,Array.getElem?_eq_some_iff.2 ⟨by omega,E⟩⟩
     have hdj:oj.dst=some d:=by simpa [dr,hoj]using h4
     have hdi:o.dst=some d:=by simpa [dr,ho]using h5
     rcases (aJ hO hoj).2.2.2 i o h1 ho with hap|⟨e,he,hb,hon⟩
     ·exact(Oper.apart_spec hap).2.1 d hdi hdj
     ·have:=hcl j oj hoj h3 e he hb
      rw[hon,hun']at this;cases this)]
    have e9:∀m,m≤k→stA ops (vaG dy ξ) a0 (fun j=>listed.getD j false) m=stA ops (vaG dy ξ') a0 (fun j=>listed.getD j false) m:=by
     intro m
     induction m with
     | zero=>intro _;rfl
     | succ m ih =>
      intro hm
      simp only[stA]
      rw[ih (by omega)]
      split
      ·rename_i hs
       rw[h m (by omega) hs]
      ·rfl
    have e8:dr ops i=o.dst:=by simp[dr,ho]
    rw[e9 k (Nat.le_refl _),e8]
    rfl
   have hLk:∀j,j≤k→d8 sd base j≤d8 sd base k:=fun j hj=>jT k hj
   rcases (hgw ξ).1 i o (Nat.zero_le _) ho with⟨hw,hob⟩|⟨hw,hv,hn1,hn2⟩
   ·unfold wpOpIn
    simp only[ho]
    rw[hwa,if_pos hw]
    obtain⟨msk,hmsk⟩:∃msk,msk=(sd.getD i default).2.2:=⟨_,E⟩
    obtain⟨LL,hLL⟩:∃LL,LL=lx sd dy ξ L0 i:=⟨_,E⟩
    obtain⟨len,hlenD⟩:∃len,len=d8 sd base i:=⟨_,E⟩
    obtain⟨LEN,hLEN⟩:∃LEN,LEN=d8 sd base k:=⟨_,E⟩
    have hmlen:msk.length=len:=by rw[hmsk,hlenD];exact(hck i (by omega)).2.1
    have hLlen:LL.length=len:=by rw[hLL,hlenD];exact(hlxs ξ i (by omega)).1
    have hle:len≤LEN:=by rw[hlenD,hLEN];exact hLk i (by omega)
    obtain⟨f,hf⟩:∃f,f=cu sd dy base L0 ξ (fun j=>listed.getD j false) k:=⟨_,E⟩
    have hflt:∀q p,f q=some p→q<LEN:=fun q p h=>by rw[hf]at h;rw[hLEN];exact cu_lt hb hwr k q p (Nat.le_refl _) h
    have hmeq:∀q,q<len→msk.getD q false=true→LL[q]? = f q:=by
     intro q hq hmq
     rw[hLL,hf,(hlxs ξ i (by omega)).2 q]
     have hc4:=fun j (hj:j<ops.size) (hne:j≠i)=>(hck i (by omega)).2.2.2 j q hj hne (by rw[←hk,←hLEN];omega)
     rw[ji (S:=fun _=>true) (S':=fun j=>listed.getD j false) (fun j hj hwj=>by
      have:=(hc4 j (by omega) (by omega) hwj).2 (by rw[←hmsk];exact hmq)
      rw[if_pos hj]at this
      exact(hready j this).symm)]
     refine(cu_up k (by omega) (fun j h1 h2 hwj=>?_)).symm
     by_cases e:j=i
     ·subst e;exact hun'
     ·have:=(hc4 j (by omega) e hwj).2 (by rw[←hmsk];exact hmq)
      rw[if_neg (by omega)]at this
      exact hlater j h2 this
    obtain⟨L2,hL2⟩:∃L2,L2=(List.range LEN).map fun q=>if q<len∧msk.getD q false=true then noR else(f q).getD noR:=⟨_,E⟩
    have hL2len:L2.length=LEN:=by rw[hL2];simp
    have hL2get:∀q,q<LEN→L2[q]? = some (if q<len∧msk.getD q false=true then noR else(f q).getD noR):=fun q hq=>by
     rw[hL2];simp[hq]
    have hMlen:(bP LL msk).length=len:=by rw[iK _ _ (by omega)];exact hLlen
    have hMget:∀q,q<len→msk.getD q false=true→(bP LL msk++L2)[q]? = f q:=fun q hq hmq=>by
     rw[List.getElem?_append_left (by omega),gP _ _ _ (by omega),←hmeq q hq hmq]
     cases LL[q]? with
     | none=>rfl
     | some p=>simp only[Option.map_some];rw[if_pos hmq]
    have hRget:∀q,q<LEN→(bP LL msk++L2)[len+q]? = some (if q<len∧msk.getD q false=true then noR else(f q).getD noR):=fun q hq=>by
     rw[List.getElem?_append_right (by omega),hMlen,show len+q-len=q by omega]
     exact hL2get q hq
    have hcls:∀q p,(bP LL msk++L2)[q]? = some p→p=noR∨(q<len∧msk.getD q false=true∧f q=some p)∨(len≤q∧¬(q-len<len∧msk.getD (q-len) false=true)∧f (q-len)=some p):=by
     intro q p hp
     by_cases hq:q<len
     ·by_cases hmq:msk.getD q false=true
      ·rw[hMget q hq hmq]at hp
       exact .inr (.inl ⟨hq,hmq,hp⟩)
      ·rw[List.getElem?_append_left (by omega),gP _ _ _ (by omega)]at hp
       obtain⟨p0,_,h2⟩:=Option.map_eq_some_iff.1 hp
       rw[if_neg hmq]at h2
       exact .inl h2.symm
     ·have hlt:q-len<LEN:=by
       have:=(List.getElem?_eq_some_iff.1 hp).1
       rw[List.length_append,hMlen,hL2len]at this
       omega
      have h3:=hRget (q-len) hlt
      rw[show len+(q-len)=q by omega,hp]at h3
      have h3:=Option.some.inj h3
      split at h3
      ·exact .inl h3
      ·rename_i h4
       cases hfq:f (q-len)with
       | none=>rw[hfq]at h3;exact .inl h3
       | some p1=>rw[hfq]at h3;exact .inr (.inr ⟨by omega,h4,by rw[h3];rfl⟩)
    have hEx:Ext w0 W (bP LL msk++L2):=by
     refine ExtF.to (hE.map (fun q=>if q<len then q else q-len) (fun q p hp=>?_) (fun q q' p p' hp hp' hne=>?_))
     ·rcases hcls q p hp with h|⟨h1,h2,h3⟩|⟨h1,h2,h3⟩
      ·exact .inl h
      ·rw[if_pos h1,←hf];exact .inr h3
      ·rw[if_neg (by omega),←hf];exact .inr h3
     ·rcases hcls q p hp with h|⟨h1,h2,h3⟩|⟨h1,h2,h3⟩
      ·exact .inl h
      ·rcases hcls q' p' hp' with h' | ⟨h1',h2',h3'⟩|⟨h1',h2',h3'⟩
       ·exact .inr (.inl h')
       ·rw[if_pos h1,if_pos h1',←hf];exact .inr (.inr ⟨h3,h3',hne⟩)
       ·rw[if_pos h1,if_neg (by omega),←hf]
        exact .inr (.inr ⟨h3,h3',fun e=>h2' (by rw[←e];exact⟨h1,h2⟩)⟩)
      ·rcases hcls q' p' hp' with h' | ⟨h1',h2',h3'⟩|⟨h1',h2',h3'⟩
       ·exact .inr (.inl h')
       ·rw[if_neg (by omega),if_pos h1',←hf]
        exact .inr (.inr ⟨h3,h3',fun e=>h2 (by rw[e];exact⟨h1',h2'⟩)⟩)
       ·rw[if_neg (by omega),if_neg (by omega),←hf];exact .inr (.inr ⟨h3,h3',by omega⟩)
    refine kC (j:=i) (s:=sd.getD i default) (dd:=dy.getD i default) (ξ:=ξ) (L:=bP LL msk++L2) (a:=stA ops (vaG dy ξ) a0 (fun _=>true) i) hsel hdef (fun x hx=>(hev x hx).symm) (by rw[gK,gK]) (by
     have:=hob L2 W (by rw[←hLL,←hmsk];exact hEx)
     rw[←hLL,←hmsk]at this
     exact this) ?_
    intro x W' hE'
    rw[hput (iZ ξ i x) (hval x)]
    have hnew:ExtF w0 W' (cu sd dy base L0 (iZ ξ i x) (fun j=>listed.getD j false||j==i) k):=by
     have hcp:∀q,cu sd dy base L0 (iZ ξ i x) (fun j=>listed.getD j false||j==i) k q=_:=fun q=>cu_put (S:=fun j=>listed.getD j false) hiN hun' (fun j h1 h2 h3 h4=>by
      have hq:q<d8 sd base ops.size:=by
       rw[←hk]
       rw[iw]at h3
       rcases h3 with h3|h3
       ·have:=hwr i q hiN h3
        have:=hLk i (by omega)
        omega
       ·have:=hLk (i+1) (by omega)
        omega
      rcases ((hck i (by omega)).2.2.2 j q (by omega) (by omega) hq h4).1 h3 with h5|h5
      ·obtain⟨e,he,hbd,h6⟩:=hA i j o (by omega) ho h5
       have h7:=haft e he hbd
       have h8:=hready j h5
       exfalso
       have h9:∀(a b:Nat),a<ops.size→dpG A a b=true→b<a:=by
        intro a
        induction a using Nat.strongRecOn with
        | _ a iha =>
         intro b ha hd
         obtain⟨oa,hoa⟩:∃oa,ops[a]? = some oa:=⟨_,Array.getElem?_eq_some_iff.2 ⟨ha,E⟩⟩
         obtain⟨e,he,hbd,h6⟩:=hA a b oa ha hoa hd
         have h7:=(aJ hO hoa).2.2.1 e he hbd
         rcases h6 with rfl|h6
         ·exact h7
         ·have:=iha e.on h7 b (by omega) h6
          omega
       have:=h9 i j (by omega) h5
       omega
      ·exact hlater j h2 h5)
     obtain⟨wr,hwrD⟩:∃wr,wr=(sd.getD i default).1:=⟨_,E⟩
     obtain⟨Lm,hLm⟩:∃Lm,Lm=(match wr with|some i'=>(bP LL msk++L2).set i' ((dy.getD i default).wp (iZ ξ i x))|none=>(bP LL msk++L2)):=⟨_,E⟩
     have hwl:∀q,wr=some q→q<len:=fun q h=>by rw[hlenD];exact hwr i q hiN (by rw[←hwrD];exact h)
     have hLmlen:Lm.length=len+LEN:=by
      rw[hLm]
      cases wr <;> simp[hMlen,hL2len]
     have hLmget:∀t,t<len+LEN→Lm[t]? = if wr=some t then some ((dy.getD i default).wp (iZ ξ i x))else(bP LL msk++L2)[t]?:=by
      intro t ht
      rw[hLm]
      cases hw9:wr with
      | none=>rw[if_neg (by intro h;cases h)]
      | some i' =>
       simp only[]
       rw[List.getElem?_set]
       by_cases e:i'=t
       ·subst e
        rw[if_pos E,if_pos (by rw[List.length_append,hMlen,hL2len];omega),if_pos E]
       ·rw[if_neg e,if_neg (by intro h;cases h;exact e E)]
     have hE2:Ext w0 W' (Lm++(dy.getD i default).made (iZ ξ i x)):=by
      rw[hLm,hwrD];exact hE'
     have hl1:d8 sd base (i+1)=len+(sd.getD i default).2.1:=by rw[hlenD];rfl
     refine(ExtF.of hE2).map (fun q=>if wr=some q then q else if len≤q∧q<d8 sd base (i+1)then len+LEN+(q-len)else if q<len∧msk.getD q false=true then q else len+q) (fun q p hp=>.inr ?_) (fun q q' p p' hp hp' hne=>.inr (.inr ⟨?_,?_,?_⟩))
     all_goals
      have hget:∀q p,cu sd dy base L0 (iZ ξ i x) (fun j=>listed.getD j false||j==i) k q=some p→(Lm++(dy.getD i default).made (iZ ξ i x))[if wr=some q then q else if len≤q∧q<d8 sd base (i+1)then len+LEN+(q-len)else if q<len∧msk.getD q false=true then q else len+q]? = some p∧q<LEN:=by
       intro q p hp
       rw[hcp q,←hwrD,←hlenD]at hp
       by_cases h1:wr=some q
       ·have:=hwl q h1
        rw[if_pos h1]at hp
        rw[if_pos h1,List.getElem?_append_left (by omega),hLmget q (by omega),if_pos h1]
        exact⟨hp,by omega⟩
       ·rw[if_neg h1]at hp
        rw[if_neg h1]
        by_cases h2:len≤q∧q<d8 sd base (i+1)
        ·rw[if_pos h2]at hp
         rw[if_pos h2,List.getElem?_append_right (by omega),hLmlen,show len+LEN+(q-len)-(len+LEN)=q-len by omega]
         have:=hLk (i+1) (by omega)
         exact⟨hp,by omega⟩
        ·rw[if_neg h2,←hcux x q,←hf]at hp
         have hq:=hflt q p hp
         rw[if_neg h2]
         by_cases h3:q<len∧msk.getD q false=true
         ·rw[if_pos h3,List.getElem?_append_left (by omega),hLmget q (by omega),if_neg h1,hMget q h3.1 h3.2]
          exact⟨hp,hq⟩
         ·rw[if_neg h3,List.getElem?_append_left (by omega),hLmget (len+q) (by omega),if_neg (fun h=>by have:=hwl _ h;omega),hRget q hq,if_neg h3,hp]
          exact⟨E,hq⟩
     ·exact(hget q p hp).1
     ·exact(hget q p hp).1
     ·exact(hget q' p' hp').1
     ·have h1:=(hget q p hp).2
      have h2:=(hget q' p' hp').2
      have ht:∀q,((if wr=some q then q else if len≤q∧q<d8 sd base (i+1)then len+LEN+(q-len)else if q<len∧msk.getD q false=true then q else len+q)=q∧q<len) ∨
        ((if wr=some q then q else if len≤q∧q<d8 sd base (i+1)then len+LEN+(q-len)else if q<len∧msk.getD q false=true then q else len+q)=len+LEN+(q-len)∧len≤q) ∨
        (if wr=some q then q else if len≤q∧q<d8 sd base (i+1)then len+LEN+(q-len)else if q<len∧msk.getD q false=true then q else len+q)=len+q:=by
       intro q
       by_cases a1:wr=some q
       ·rw[if_pos a1];exact .inl ⟨E,hwl q a1⟩
       ·rw[if_neg a1]
        by_cases a2:len≤q∧q<d8 sd base (i+1)
        ·rw[if_pos a2];exact .inr (.inl ⟨E,a2.1⟩)
        ·rw[if_neg a2]
         by_cases a3:q<len∧msk.getD q false=true
         ·rw[if_pos a3];exact .inl ⟨E,a3.1⟩
         ·rw[if_neg a3];exact .inr (.inr E)
      intro he
      rcases ht q with⟨b1,b2⟩|⟨b1,b2⟩|b1 <;> rcases ht q' with⟨c1,c2⟩|⟨c1,c2⟩|c1 <;> rw[b1,c1]at he <;> omega
    have:=ih (listed.setIfInBounds i true) (iZ ξ i x) W' (by rw[hfs];exact hnew) (by simpa using hsz) (by omega) hcl'
    rw[hfs]at this
    exact this
   ·unfold wpOpIn
    simp only[ho]
    rw[hwa,if_neg (by rw[hw];simp)]
    refine⟨fun _ _=>trivial,?_⟩
    have hp:=hput ξ (fun _ _ _=>E)
    rw[hv ξ]at hp
    rw[hp]
    have:=ih (listed.setIfInBounds i true) ξ W (by
     rw[hfs]
     have e7:cu sd dy base L0 ξ (fun j=>listed.getD j false||j==i) k=cu sd dy base L0 ξ (fun j=>listed.getD j false) k:=funext fun q=>ji (fun j hj hwj=>by
      have hne:(j==i)=false:=by
       simp
       intro e
       subst e
       rw[iw,hn1]at hwj
       simp only[d8,hn2]at hwj
       rcases hwj with h|h
       ·cases h
       ·omega
      simp[hne])
     rw[e7]
     exact hE) (by simpa using hsz) (by omega) hcl'
    rw[hfs]at this
    exact this
 have e1:left (Array.replicate ops.size false) k=k:=by
  unfold left
  rw[List.filter_eq_self.2 fun j hj=>?_]
  ·simp
  ·have:=List.mem_range.1 hj
   simp[show j<ops.size by omega]
 have hrep:∀j,(Array.replicate ops.size false).getD j false=false:=fun j=>by
  rw[Array.getD_eq_getD_getElem?,Array.getElem?_replicate]
  split <;> rfl
 have hfin:=main k (Array.replicate ops.size false) (fun _ _=>(none,0,0,[],noR)) _ (by
  have e3:cu sd dy base L0 (fun _ _=>(none,0,0,[],noR)) (fun j=>(Array.replicate ops.size false).getD j false) k=fun i=>L0[i]?:=funext fun q=>cu_up (j:=0) k (Nat.zero_le _) (fun i _ _ _=>hrep i)
  rw[e3]
  exact ExtF.of h0) (by simp[hk]) e1 (fun j oj hoj hl=>by rw[hrep j]at hl;cases hl)
 have e2:∀m,stA ops (vaG dy (fun _ _=>(none,0,0,[],noR))) a0 (fun j=>(Array.replicate ops.size false).getD j false) m=a0:=by
  intro m
  induction m with
  | zero=>rfl
  | succ m ih=>simp only[stA];rw[ih,if_neg (by rw[hrep m];simp)]
 rw[e2 k,hk]at hfin
 exact hfin
end
open Go.RowKit (Below)
section
variable {r : Option Nat} {n : Nat} {P : Program} {ops : Array Oper} {Q : Exit → Act → World → Prop} {w0 : World} {L : List Res} {m : Nat} {tm : Nat → Value} {d : List Deferred} {ξ : Nat → Xo}
variable {t : Tmp} {ty : TypeId} {pos : String} {af : Array Edge} {g : Option (Nat × Bool)} {os : List Oper} {s : Sd} {dd : Dyn} {ss : List Sd} {ds : List Dyn} {j : Nat}
def GX (r:Option Nat) (n:Nat) (P:Program) (ops:Array Oper) (Q:Exit→Act→World→Prop) (w0:World) (ξ:Nat→Xo) (j:Nat) (os:List Oper) (ss:List Sd) (ds:List Dyn) (L:List Res) (m:Nat) (tm:Nat→Value) (d:List Deferred):Prop :=
 GW r n P ops w0 ξ (fun L a=>∀W,Ext w0 W L→Q .normal a W) j os ss ds L (act m tm d)
theorem kX (A:List (List Nat)) (sd:List Sd) (dy:List Dyn) (base:Nat) {id:Nat} {l:List Oper} (hm:P.follows .mixedOrders=true) (hO:eE l.toArray=true) (hC:chkG l.toArray A sd base=true) (hI:IndA A 0 sd dy) (hb:L.length=base)
  (h:∀ξ,GX r n P l.toArray Q w0 ξ 0 l sd dy L m tm d):CX r n P (.region id l.toArray true) Q w0 L m tm d :=
 fun _ hW=>lG A sd dy base hm hO hC hI hb hW.drawn h
theorem gx_nil (h:EX Q .normal w0 L m tm d):GX r n P ops Q w0 ξ j [] [] [] L m tm d:=h
theorem jY {op:Op} (hw:cZ ops m tm ⟨some t,op,ty,pos,af,g⟩=true)
  (hop:∀L2,OX r n P ops (obQ w0 j s dd ξ (some t) (bP L s.2.2++L2) (act m tm d)) w0 (bP L s.2.2++L2) [⟨some t,op,ty,pos,af,g⟩] m tm d)
  (h:GX r n P ops Q w0 ξ (j+1) os ss ds (g8 s dd ξ L) m (upd tm t (dd.val ξ)) d):GX r n P ops Q w0 ξ j (⟨some t,op,ty,pos,af,g⟩::os) (s::ss) (dd::ds) L m tm d:=by
 unfold GX GW
 refine⟨.inl ⟨by rw[a7];exact hw,fun L2 W hW=>?_⟩,?_⟩
 ·have h1:=hop L2 W hW
  unfold OL at h1
  rw[a7,if_pos hw]at h1
  exact Oper.wpIn_mono (fun a w h=>h) h1
 ·rw[cj]
  exact h
theorem gx_n {op:Op} (hw:cZ ops m tm ⟨none,op,ty,pos,af,g⟩=true)
  (hop:∀L2,OX r n P ops (obQ w0 j s dd ξ none (bP L s.2.2++L2) (act m tm d)) w0 (bP L s.2.2++L2) [⟨none,op,ty,pos,af,g⟩] m tm d)
  (h:GX r n P ops Q w0 ξ (j+1) os ss ds (g8 s dd ξ L) m tm d):GX r n P ops Q w0 ξ j (⟨none,op,ty,pos,af,g⟩::os) (s::ss) (dd::ds) L m tm d:=by
 unfold GX GW
 refine⟨.inl ⟨by rw[a7];exact hw,fun L2 W hW=>?_⟩,h⟩
 have h1:=hop L2 W hW
 unfold OL at h1
 rw[a7,if_pos hw]at h1
 exact Oper.wpIn_mono (fun a w h=>h) h1
theorem cW {Lf L':List Res} {v:Value} (x:Xo) (hv:dd.val (iZ ξ j x)=v) (hL:g8 s dd (iZ ξ j x) Lf=L'):EX (obQ w0 j s dd ξ (some t) Lf (act m tm d)) .normal w0 L' m (upd tm t v) d:=fun W hW=>by
 subst hv hL
 exact⟨E,x,(cj m tm d (some t) _).symm,hW⟩
theorem ii {Lf L':List Res} (x:Xo) (hL:g8 s dd (iZ ξ j x) Lf=L'):EX (obQ w0 j s dd ξ none Lf (act m tm d)) .normal w0 L' m tm d:=fun W hW=>by
 subst hL
 exact⟨E,x,E,hW⟩
end
end Go.Proofs.Ytcleeakjghgbdaa
