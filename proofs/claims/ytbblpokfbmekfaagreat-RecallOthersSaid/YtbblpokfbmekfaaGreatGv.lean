import Derived.Test.YtbblpokfbmekfaaGreatG8
import Derived.Test.YtbblpokfbmekfaaGreatGs
set_option linter.unusedVariables false
namespace Go.Proofs.YtbblpokfbmekfaaGreat
open Go.RowKit (Below)
theorem put_sizeU (a:Act) (d:Option Tmp) (v:Value):(a.put d v).tmps.size=a.tmps.size:=by
 cases d with
 | none=>rfl
 | some i=>simp[Act.put]
theorem nF {ops:Array Oper} (vals:Nat→Value) (a0:Act) (S:Nat→Bool):∀m,(stA ops vals a0 S m).tmps.size=a0.tmps.size
 | 0=>rfl
 | m+1=>by
  unfold stA
  split
  ·rw[put_sizeU,nF vals a0 S m]
  ·exact nF vals a0 S m
theorem put_sameU {a b:Act} {d:Option Tmp} {u v:Value} (hs:a.tmps.size=b.tmps.size) (h:a.put d u=a.put d v):b.put d u=b.put d v:=by
 cases d with
 | none=>rfl
 | some i =>
  have h1:a.tmps.setIfInBounds i u=a.tmps.setIfInBounds i v:=congrArg Act.tmps h
  show(⟨b.tmps.setIfInBounds i u,b.defers⟩:Act)=⟨b.tmps.setIfInBounds i v,b.defers⟩
  congr 1
  apply Array.ext_getElem?
  intro j
  have h2:=congrArg (fun t=>t[j]?) h1
  simp only[Array.getElem?_setIfInBounds]at h2 ⊢
  by_cases e:i=j
  ·subst e
   by_cases hl:i<b.tmps.size
   ·simp[hl,hs]at h2 ⊢
    exact h2
   ·simp[hl]
  ·simp[e]
abbrev Xo:=Nat→Option Addr × Nat × Nat × List (Option Addr × Nat × Nat) × Res
abbrev Sd:=Option Nat × Nat × List Bool
structure Dyn where
 val:(Nat→Xo)→Value
 wp:(Nat→Xo)→Res
 made:(Nat→Xo)→List Res
instance:Inhabited Dyn:=⟨⟨fun _=>undef,fun _=>noR,fun _=>[]⟩⟩
def aA:List Res→List Bool→List Res
 | p::L,true::k=>p::aA L k
 | _::L,false::k=>noR::aA L k
 | _,_=>[]
def bG (s:Sd) (d:Dyn) (ξ:Nat→Xo) (L:List Res):List Res:=(match s.1 with|some i=>L.set i (d.wp ξ)|none=>L)++d.made ξ
def rk (ξ:Nat→Xo) (j:Nat) (x:Xo):Nat→Xo:=fun i=>if i=j then x else ξ i
def obQ (w0:World) (j:Nat) (s:Sd) (d:Dyn) (ξ:Nat→Xo) (dst:Option Tmp) (L:List Res) (a:Act):Exit→Act→World→Prop:=fun e a' W =>
 e=.normal∧∃x,a'=a.put dst (d.val (rk ξ j x))∧Ext w0 W (bG s d (rk ξ j x) L)
def obG (r:Option Nat) (n:Nat) (P:Program) (ops:Array Oper) (w0:World) (ξ:Nat→Xo) (j:Nat) (o:Oper) (s:Sd) (d:Dyn) (L:List Res) (a:Act):Prop :=
 (Region.wanted o (yielded ops a.tmps)=true∧∀(L2:List Res) (W:World),Ext w0 W (aA L s.2.2++L2)→o.wpIn (Fw r) n P a W (fun a' W'=>obQ w0 j s d ξ o.dst (aA L s.2.2++L2) a .normal a' W') (obQ w0 j s d ξ o.dst (aA L s.2.2++L2) a)) ∨
 (Region.wanted o (yielded ops a.tmps)=false∧(∀ξ',d.val ξ'=undef)∧s.1=none∧s.2.1=0)
def GW (r:Option Nat) (n:Nat) (P:Program) (ops:Array Oper) (w0:World) (ξ:Nat→Xo) (K:List Res→Act→Prop):Nat→List Oper→List Sd→List Dyn→List Res→Act→Prop
 | _,[],[],[],L,a=>K L a
 | j,o::os,s::ss,d::ds,L,a=>obG r n P ops w0 ξ j o s d L a∧GW r n P ops w0 ξ K (j+1) os ss ds (bG s d ξ L) (a.put o.dst (d.val ξ))
 | _,_,_,_,_,_=>False
def kP (sd:List Sd) (base:Nat):Nat→Nat
 | 0=>base
 | j+1=>kP sd base j+(sd.getD j default).2.1
def wrG (sd:List Sd) (base j i:Nat):Bool:=((sd.getD j default).1==some i)||(decide (kP sd base j≤i)&&decide (i<kP sd base (j+1)))
def dpG (A:List (List Nat)) (j i:Nat):Bool:=(A.getD j []).contains i
def chkG (ops:Array Oper) (A:List (List Nat)) (sd:List Sd) (base:Nat):Bool :=
 decide (sd.length=ops.size)&&(List.range ops.size).all fun j =>
  (match (sd.getD j default).1 with|none=>true|some i=>decide (i<kP sd base j))&&decide ((sd.getD j default).2.2.length=kP sd base j) &&
  ((A.getD j []).all fun i=>match ops[j]? with
   | some o=>o.after.any fun e=>Region.binds .any e&&(e.on==i||dpG A e.on i)
   | none=>false) &&
  ((List.range ops.size).all fun i=>decide (i=j)||(List.range (kP sd base ops.size)).all fun q => !(wrG sd base i q) ||
   ((!(wrG sd base j q)||dpG A j i||dpG A i j)&&(!((sd.getD j default).2.2.getD q false)||(if i<j then dpG A j i else dpG A i j))))
def IndA (A:List (List Nat)):Nat→List Sd→List Dyn→Prop
 | _,[],[]=>True
 | j,s::ss,d::ds=>((∀ξ ξ':Nat→Xo,(∀i,(i=j∨dpG A j i=true)→ξ i=ξ' i)→d.val ξ=d.val ξ'∧d.wp ξ=d.wp ξ'∧d.made ξ=d.made ξ')∧∀ξ,(d.made ξ).length=s.2.1)∧IndA A (j+1) ss ds
 | _,_,_=>False
structure ExtF (w0 W:World) (f:Nat→Option Res):Prop where
 below:Below w0.heap.size w0 W
 all:∀(i:Nat) (p:Res),f i=some p→p.holds W
 new:∀(i:Nat) (p:Res),f i=some p→∀b,p.dom b→w0.heap.size≤b
 sep:∀(i j:Nat) (p q:Res),f i=some p→f j=some q→i≠j→∀b,p.dom b→¬q.dom b
theorem ExtF.of {w0 W:World} {L:List Res} (h:Ext w0 W L):ExtF w0 W (fun i=>L[i]?):=⟨h.below,h.all,h.new,h.sep⟩
theorem ExtF.to {w0 W:World} {L:List Res} (h:ExtF w0 W (fun i=>L[i]?)):Ext w0 W L:=⟨h.below,h.all,h.new,h.sep⟩
theorem ExtF.map {w0 W:World} {f g:Nat→Option Res} (h:ExtF w0 W f) (σ:Nat→Nat) (hg:∀i p,g i=some p→p=noR∨f (σ i)=some p)
  (hj:∀i j p q,g i=some p→g j=some q→i≠j→p=noR∨q=noR∨(f (σ i)=some p∧f (σ j)=some q∧σ i≠σ j)):ExtF w0 W g where
 below:=h.below
 all i p hp:=by
  rcases hg i p hp with rfl|h1
  ·trivial
  ·exact h.all _ _ h1
 new i p hp b hb:=by
  rcases hg i p hp with rfl|h1
  ·exact hb.elim
  ·exact h.new _ _ h1 b hb
 sep i j p q hp hq hne b hb hb':=by
  rcases hj i j p q hp hq hne with rfl|rfl|⟨h1,h2,h3⟩
  ·exact hb.elim
  ·exact hb'.elim
  ·exact h.sep _ _ _ _ h1 h2 h3 b hb hb'
theorem oc:∀(L:List Res) (k:List Bool) (q:Nat),L.length=k.length→(aA L k)[q]? = (L[q]?).map fun p=>if k.getD q false=true then p else noR
 | [],[],q,_=>by simp[aA]
 | p::L,true::k,0,_=>by simp[aA]
 | p::L,false::k,0,_=>by simp[aA]
 | p::L,true::k,q+1,h=>by
  have:=oc L k q (by simpa using h)
  simpa [aA]using this
 | p::L,false::k,q+1,h=>by
  have:=oc L k q (by simpa using h)
  simpa [aA]using this
theorem qC:∀(L:List Res) (k:List Bool),L.length=k.length→(aA L k).length=L.length
 | [],[],_=>rfl
 | p::L,true::k,h=>by simp[aA,qC L k (by simpa using h)]
 | p::L,false::k,h=>by simp[aA,qC L k (by simpa using h)]
section
variable {r : Option Nat} {n : Nat} {P : Program} {ops : Array Oper}
def lx (sd:List Sd) (dy:List Dyn) (ξ:Nat→Xo) (L0:List Res):Nat→List Res
 | 0=>L0
 | j+1=>bG (sd.getD j default) (dy.getD j default) ξ (lx sd dy ξ L0 j)
def vaG (dy:List Dyn) (ξ:Nat→Xo) (j:Nat):Value:=(dy.getD j default).val ξ
theorem gw_spec {l:List Oper} (hops:ops=l.toArray) {sd:List Sd} {dy:List Dyn} {w0:World} {ξ:Nat→Xo} {K:List Res→Act→Prop} {L0:List Res} {a0:Act} (hs:sd.length=l.length) (hd:dy.length=l.length) :
  ∀(c j:Nat),j+c=l.length→GW r n P ops w0 ξ K j (l.drop j) (sd.drop j) (dy.drop j) (lx sd dy ξ L0 j) (stA ops (vaG dy ξ) a0 (fun _=>true) j) →
   (∀i o,j≤i→ops[i]? = some o→obG r n P ops w0 ξ i o (sd.getD i default) (dy.getD i default) (lx sd dy ξ L0 i) (stA ops (vaG dy ξ) a0 (fun _=>true) i))∧K (lx sd dy ξ L0 l.length) (stA ops (vaG dy ξ) a0 (fun _=>true) l.length):=by
 intro c
 induction c with
 | zero =>
  intro j hj h
  have:j=l.length:=by omega
  subst this
  rw[List.drop_length,←hs,List.drop_length,hs,←hd,List.drop_length,hd]at h
  refine⟨fun i o hi ho=>?_,h⟩
  have:i<ops.size:=(Array.getElem?_eq_some_iff.1 ho).1
  rw[hops]at this
  simp at this
  omega
 | succ c ih =>
  intro j hj h
  have h1:j<l.length:=by omega
  rw[List.drop_eq_getElem_cons h1,List.drop_eq_getElem_cons (show j<sd.length by omega),List.drop_eq_getElem_cons (show j<dy.length by omega)]at h
  obtain⟨hob,hrest⟩:=h
  have e1:sd[j]'(by omega)=sd.getD j default:=by simp[show j<sd.length by omega]
  have e2:dy[j]'(by omega)=dy.getD j default:=by simp[show j<dy.length by omega]
  have ho:ops[j]? = some l[j]:=by rw[hops];simp[h1]
  have e3:fv ops j=l[j].dst:=by simp[fv,ho]
  rw[e1,e2]at hob hrest
  have hrest':GW r n P ops w0 ξ K (j+1) (l.drop (j+1)) (sd.drop (j+1)) (dy.drop (j+1)) (lx sd dy ξ L0 (j+1)) (stA ops (vaG dy ξ) a0 (fun _=>true) (j+1)):=by
   have e4:stA ops (vaG dy ξ) a0 (fun _=>true) (j+1)=(stA ops (vaG dy ξ) a0 (fun _=>true) j).put (l[j]).dst ((dy.getD j default).val ξ):=by
    simp[stA,e3,vaG]
   rw[e4]
   exact hrest
  obtain⟨h2,h3⟩:=ih (j+1) (by omega) hrest'
  refine⟨fun i o hi hoi=>?_,h3⟩
  by_cases e:i=j
  ·subst e
   rw[ho]at hoi;cases hoi
   exact hob
  ·exact h2 i o (by omega) hoi
theorem ind_spec {A:List (List Nat)}:∀(sd:List Sd) (dy:List Dyn) (j0:Nat),IndA A j0 sd dy→dy.length=sd.length∧∀j,j<sd.length →
  (∀ξ ξ':Nat→Xo,(∀i,(i=j0+j∨dpG A (j0+j) i=true)→ξ i=ξ' i)→(dy.getD j default).val ξ=(dy.getD j default).val ξ'∧(dy.getD j default).wp ξ=(dy.getD j default).wp ξ'∧(dy.getD j default).made ξ=(dy.getD j default).made ξ')∧∀ξ,((dy.getD j default).made ξ).length=(sd.getD j default).2.1
 | [],[],_,_=>⟨O,fun j hj=>by simp at hj⟩
 | s::ss,d::ds,j0,h=>by
  obtain⟨h1,h2⟩:=ind_spec ss ds (j0+1) h.2
  refine⟨by simp[h1],fun j hj=>?_⟩
  cases j with
  | zero=>exact⟨h.1.1,h.1.2⟩
  | succ j =>
   have:=h2 j (by simpa using hj)
   simpa [Nat.add_assoc,Nat.add_comm 1 j]using this
 | [],_::_,_,h=>h.elim
 | _::_,[],_,h=>h.elim
theorem wpIn_moveG {o:Oper} {a b:Act} {W w0:World} {j:Nat} {s:Sd} {dd:Dyn} {ξ:Nat→Xo} {L:List Res} {K:Act→World→Prop} {Q:Exit→Act→World→Prop} (hs:∀cs x,o.op ≠ .select cs x) (hd:∀c,o.op ≠ .defer c) (hev:∀x∈o.op.operands,a.eval x=b.eval x) (hsz:a.tmps.size=b.tmps.size)
  (h:o.wpIn (Fw r) n P a W (fun a' W'=>obQ w0 j s dd ξ o.dst L a .normal a' W') (obQ w0 j s dd ξ o.dst L a)) (hK:∀x W',Ext w0 W' (bG s dd (rk ξ j x) L)→K (b.put o.dst (dd.val (rk ξ j x))) W'):o.wpIn (Fw r) n P b W K Q:=by
 refine⟨fun _ _=>by cases r <;> trivial,?_⟩
 have h2:=h.2
 have e:o.semAt r b.eval=o.semAt r a.eval:=by
  have e1:execOp b.eval o=execOp a.eval o:=execOp_congr o hs (fun x hx=>(hev x hx).symm)
  cases r with
  | none=>rw[Oper.semAt_none,Oper.semAt_none,e1]
  | some l=>rw[Oper.semAt_some l _ o hd,Oper.semAt_some l _ o hd,e1]
 have e0:(Fw r).round=r:=by cases r <;> rfl
 rw[e0]at h2 ⊢
 rw[e]
 have key:∀u W',obQ w0 j s dd ξ o.dst L a .normal (a.put o.dst u) W'→K (b.put o.dst u) W':=fun u W' hc=>by
  obtain⟨_,x,hv,hE⟩:=hc
  rw[put_sameU hsz hv]
  exact hK x W' hE
 generalize (o.semAt r a.eval).run P W=res at h2 ⊢
 match res,h2 with
 | .ok (.value u) W',h2=>exact key u W' h2
 | .ok .skip W',h2=>exact key undef W' h2
 | .ok (.defer d') W',h2 =>
  obtain⟨_,x,hv,_⟩:=h2
  have h9:=congrArg Act.defers hv
  rw[km,km]at h9
  exact absurd h9 (by simp)
 | .ok (.enter f args) W',h2 =>
  refine⟨h2.1,h2.2.mono ?_⟩
  rintro(_|_|_) w hw
  ·exact key _ _ hw
  ·exact absurd hw.1 (by intro h;cases h)
  ·obtain⟨a9,w9,h9⟩:=hw
   exact absurd h9.1 (by intro h;cases h)
 | .ok (.row row args) W',h2 =>
  refine⟨h2.1,?_⟩
  exact RowsIn.mono h2.2 (fun u w hw=>key u w hw)
 | .ok (.round l f tmps assign body) W',h2 =>
  refine⟨h2.1,h2.2.mono ?_⟩
  rintro(_|_|_) w hw
  ·exact key _ _ hw
  ·exact absurd hw.1 (by intro h;cases h)
  ·obtain⟨a9,w9,h9⟩:=hw
   exact absurd h9.1 (by intro h;cases h)
 | .halt (.panic u) W',h2=>exact absurd h2.1 (by intro h;cases h)
end
section
variable {r : Option Nat} {n : Nat} {P : Program} {ops : Array Oper} {Q : Exit → Act → World → Prop} {w0 : World} {sd : List Sd} {dy : List Dyn} {base : Nat} {L0 : List Res} {A : List (List Nat)} {ξ ξ' : Nat → Xo} {S S' : Nat → Bool}
def cu (sd:List Sd) (dy:List Dyn) (base:Nat) (L0:List Res) (ξ:Nat→Xo) (S:Nat→Bool):Nat→Nat→Option Res
 | 0,q=>L0[q]?
 | j+1,q=>if S j=true∧(sd.getD j default).1=some q then some ((dy.getD j default).wp ξ)
   else if S j=true∧kP sd base j≤q∧q<kP sd base (j+1)then((dy.getD j default).made ξ)[q-kP sd base j]?
   else cu sd dy base L0 ξ S j q
theorem p8 {j q:Nat}:wrG sd base j q=true↔(sd.getD j default).1=some q∨(kP sd base j≤q∧q<kP sd base (j+1)):=by
 unfold wrG
 simp only[Bool.or_eq_true,Bool.and_eq_true,decide_eq_true_eq,beq_iff_eq]
theorem cu_no {j q:Nat} (h:¬(S j=true∧wrG sd base j q=true)):cu sd dy base L0 ξ S (j+1) q=cu sd dy base L0 ξ S j q:=by
 rw[p8]at h
 simp only[cu]
 rw[if_neg (fun x=>h ⟨x.1,.inl x.2⟩),if_neg (fun x=>h ⟨x.1,.inr x.2⟩)]
theorem sf {j:Nat}:∀k,j≤k→kP sd base j≤kP sd base k:=fun k h=>by
 induction k with
 | zero =>
  have:j=0:=by omega
  subst this;exact Nat.le_refl _
 | succ k ih =>
  by_cases e:j=k+1
  ·subst e;exact Nat.le_refl _
  ·have:=ih (by omega)
   simp only[kP]
   omega
theorem lx_spec (hb:L0.length=base) {k:Nat} (hwr:∀j i,j<k→(sd.getD j default).1=some i→i<kP sd base j) (hlen:∀j,j<k→((dy.getD j default).made ξ).length=(sd.getD j default).2.1) :
  ∀j,j≤k→(lx sd dy ξ L0 j).length=kP sd base j∧∀q,(lx sd dy ξ L0 j)[q]? = cu sd dy base L0 ξ (fun _=>true) j q:=by
 intro j
 induction j with
 | zero=>intro _;exact⟨hb,fun q=>rfl⟩
 | succ j ih =>
  intro hj
  obtain⟨h1,h2⟩:=ih (by omega)
  have h3:=hlen j (by omega)
  have h4:=hwr j
  have key:∀L:List Res,L.length=kP sd base j→(∀q,L[q]? = if(sd.getD j default).1=some q then some ((dy.getD j default).wp ξ)else cu sd dy base L0 ξ (fun _=>true) j q) →
    (L++(dy.getD j default).made ξ).length=kP sd base (j+1)∧∀q,(L++(dy.getD j default).made ξ)[q]? = cu sd dy base L0 ξ (fun _=>true) (j+1) q:=by
   intro L hL hq
   refine⟨by rw[List.length_append,hL,h3];rfl,fun q=>?_⟩
   simp only[cu,true_and]
   by_cases e:(sd.getD j default).1=some q
   ·have:=h4 q (by omega) e
    rw[if_pos e,List.getElem?_append_left (by omega),hq q,if_pos e]
   ·rw[if_neg e]
    by_cases hlt:q<kP sd base j
    ·rw[if_neg (by omega),List.getElem?_append_left (by omega),hq q,if_neg e]
    ·rw[List.getElem?_append_right (by omega),hL]
     by_cases hlt2:q<kP sd base (j+1)
     ·rw[if_pos ⟨by omega,hlt2⟩]
     ·rw[if_neg (by omega),List.getElem?_eq_none (by rw[h3];simp only[kP]at hlt2;omega),←h2 q,List.getElem?_eq_none (by omega)]
  simp only[lx,bG]
  cases hw:(sd.getD j default).1 with
  | none=>exact key _ h1 (fun q=>by rw[hw,if_neg (by intro h;cases h),h2 q])
  | some i =>
   have hi:=h4 i (by omega) hw
   refine key _ (by rw[List.length_set];exact h1) (fun q=>?_)
   rw[List.getElem?_set,hw,h2 q]
   by_cases e:i=q
   ·subst e
    rw[if_pos O,if_pos (by omega),if_pos O]
   ·rw[if_neg e,if_neg (by intro h;cases h;exact e O)]
theorem cu_lt (hb:L0.length=base) {k:Nat} (hwr:∀j i,j<k→(sd.getD j default).1=some i→i<kP sd base j) :
  ∀j q p,j≤k→cu sd dy base L0 ξ S j q=some p→q<kP sd base j:=by
 intro j
 induction j with
 | zero =>
  intro q p _ h
  have:q<L0.length:=(List.getElem?_eq_some_iff.1 h).1
  simp only[kP];omega
 | succ j ih =>
  intro q p hj h
  have hm:kP sd base j≤kP sd base (j+1):=sf _ (by omega)
  simp only[cu]at h
  split at h
  ·rename_i h1
   have:=hwr j q (by omega) h1.2
   omega
  ·split at h
   ·rename_i h1
    exact h1.2.2
   ·have:=ih q p (by omega) h
    omega
theorem rU {k q:Nat} (h:∀i,i<k→wrG sd base i q=true→S i=S' i):cu sd dy base L0 ξ S k q=cu sd dy base L0 ξ S' k q:=by
 induction k with
 | zero=>rfl
 | succ k ih =>
  have ih:=ih (fun i hi=>h i (by omega))
  by_cases hw:wrG sd base k q=true
  ·have:=h k (by omega) hw
   simp only[cu,this,ih]
  ·rw[cu_no (fun x=>hw x.2),cu_no (fun x=>hw x.2),ih]
theorem cu_up {j q:Nat}:∀k,j≤k→(∀i,j≤i→i<k→wrG sd base i q=true→S i=false)→cu sd dy base L0 ξ S k q=cu sd dy base L0 ξ S j q:=fun k hk h=>by
 induction k with
 | zero =>
  have:j=0:=by omega
  subst this;rfl
 | succ k ih =>
  by_cases e:j=k+1
  ·subst e;rfl
  ·rw[cu_no (fun x=>by have:=h k (by omega) (by omega) x.2;rw[this]at x;cases x.1)]
   exact ih (by omega) (fun i h1 h2=>h i h1 (by omega))
theorem cu_xi {k q:Nat} (h:∀i,i<k→S i=true→(dy.getD i default).wp ξ=(dy.getD i default).wp ξ'∧(dy.getD i default).made ξ=(dy.getD i default).made ξ'):cu sd dy base L0 ξ S k q=cu sd dy base L0 ξ' S k q:=by
 induction k with
 | zero=>rfl
 | succ k ih =>
  have ih:=ih (fun i hi=>h i (by omega))
  simp only[cu]
  by_cases hS:S k=true
  ·obtain⟨h1,h2⟩:=h k (by omega) hS
   rw[h1,h2,ih]
  ·rw[if_neg (fun x=>hS x.1),if_neg (fun x=>hS x.1),if_neg (fun x=>hS x.1),if_neg (fun x=>hS x.1),ih]
theorem cu_put {j k q:Nat} (hj:j<k) (hS:S j=false) (hc:∀i,j<i→i<k→wrG sd base j q=true→wrG sd base i q=true→S i=false) :
  cu sd dy base L0 ξ (fun i=>S i||i==j) k q=if(sd.getD j default).1=some q then some ((dy.getD j default).wp ξ)
   else if kP sd base j≤q∧q<kP sd base (j+1)then((dy.getD j default).made ξ)[q-kP sd base j]? else cu sd dy base L0 ξ S k q:=by
 by_cases hw:wrG sd base j q=true
 ·rw[cu_up (j:=j+1) k (by omega) (fun i h1 h2 h3=>by
   have:=hc i (by omega) h2 hw h3
   have hne:(i==j)=false:=by simp;omega
   simp[this,hne])]
  simp only[cu,beq_self_eq_true,Bool.or_true,true_and]
  rw[p8]at hw
  split
  ·rfl
  ·rename_i h1
   rw[if_pos (hw.resolve_left h1),if_pos (hw.resolve_left h1)]
 ·have h1:cu sd dy base L0 ξ (fun i=>S i||i==j) k q=cu sd dy base L0 ξ S k q:=rU (fun i hi hwi=>by
   have hne:(i==j)=false:=by
    simp
    intro e
    subst e
    exact hw hwi
   simp[hne])
  rw[h1]
  rw[p8]at hw
  rw[if_neg (fun x=>hw (.inl x)),if_neg (fun x=>hw (.inr x))]
theorem chk_spec (h:chkG ops A sd base=true):sd.length=ops.size∧∀j,j<ops.size →
  (∀i,(sd.getD j default).1=some i→i<kP sd base j)∧(sd.getD j default).2.2.length=kP sd base j ∧
  (∀i o,ops[j]? = some o→dpG A j i=true→∃e∈o.after,Region.binds .any e=true∧(e.on=i∨dpG A e.on i=true)) ∧
  ∀i q,i<ops.size→i≠j→q<kP sd base ops.size→wrG sd base i q=true→(wrG sd base j q=true→dpG A j i=true∨dpG A i j=true)∧((sd.getD j default).2.2.getD q false=true→if i<j then dpG A j i=true else dpG A i j=true):=by
 unfold chkG at h
 simp only[Bool.and_eq_true,decide_eq_true_eq]at h
 refine⟨h.1,fun j hj=>?_⟩
 have h1:=List.all_eq_true.1 h.2 j (List.mem_range.2 hj)
 simp only[Bool.and_eq_true,decide_eq_true_eq]at h1
 obtain⟨⟨⟨h2,h3⟩,h4⟩,h5⟩:=h1
 refine⟨fun i hi=>?_,h3,fun i o ho hd=>?_,fun i q hi hne hq hw=>?_⟩
 ·rw[hi]at h2
  simpa using h2
 ·unfold dpG at hd
  have hm:i∈A.getD j []:=by simpa using hd
  have h6:=List.all_eq_true.1 h4 i hm
  simp only[ho]at h6
  rw[Array.any_eq_true]at h6
  obtain⟨t,ht,h7⟩:=h6
  simp only[Bool.and_eq_true,Bool.or_eq_true,beq_iff_eq]at h7
  exact⟨o.after[t],Array.getElem_mem ht,h7.1,h7.2⟩
 ·have h6:=List.all_eq_true.1 h5 i (List.mem_range.2 hi)
  rw[Bool.or_eq_true,decide_eq_true_eq]at h6
  have h7:=List.all_eq_true.1 (h6.resolve_left hne) q (List.mem_range.2 hq)
  rw[hw]at h7
  simp only[Bool.not_true,Bool.false_or,Bool.and_eq_true,Bool.or_eq_true,Bool.not_eq_true']at h7
  obtain⟨h8,h9⟩:=h7
  refine⟨fun h10=>?_,fun h10=>?_⟩
  ·rcases h8 with(h8|h8)|h8
   ·rw[h10]at h8;cases h8
   ·exact .inl h8
   ·exact .inr h8
  ·have h9:=h9.resolve_left (by rw[h10];simp)
   split
   ·rename_i hlt;rw[if_pos hlt]at h9;exact h9
   ·rename_i hlt;rw[if_neg hlt]at h9;exact h9
theorem dp_closed (hO:ll ops=true) (hA:∀j i o,j<ops.size→ops[j]? = some o→dpG A j i=true→∃e∈o.after,Region.binds .any e=true∧(e.on=i∨dpG A e.on i=true))
  (hcl:∀j oj,ops[j]? = some oj→S j=true→∀e∈oj.after,Region.binds .any e=true→S e.on=true):∀(j i:Nat),j<ops.size→S j=true→dpG A j i=true→S i=true:=by
 intro j
 induction j using Nat.strongRecOn with
 | _ j ih =>
  intro i hj hS hd
  obtain⟨o,ho⟩:∃o,ops[j]? = some o:=⟨_,Array.getElem?_eq_some_iff.2 ⟨hj,O⟩⟩
  obtain⟨e,he,hb,h1⟩:=hA j i o hj ho hd
  have h2:=hcl j o ho hS e he hb
  have h3:=(aW hO ho).2.2.1 e he hb
  rcases h1 with rfl|h1
  ·exact h2
  ·exact ih e.on h3 i (by omega) h2 h1
theorem wp_drawsG {l:List Oper} (A:List (List Nat)) (sd:List Sd) (dy:List Dyn) (base:Nat) (hm:P.follows .mixedOrders=true) (hO:ll l.toArray=true) (hC:chkG l.toArray A sd base=true) (hI:IndA A 0 sd dy) (hb:L0.length=base) {id:Nat} {a0:Act} {W0:World}
  (h0:Ext w0 { W0 with drawn:=W0.drawn+1 } L0)
  (hG:∀ξ,GW r n P l.toArray w0 ξ (fun L a=>∀W,Ext w0 W L→Q .normal a W) 0 l sd dy L0 a0):(Code.region id l.toArray true).wpIn (Fw r) n P Q a0 W0:=by
 refine wpIn_region_any hm ?_
 obtain⟨ops,hops⟩:∃ops,ops=l.toArray:=⟨_,O⟩
 rw[←hops]at hO hC hG ⊢
 obtain⟨hsl,hck⟩:=chk_spec hC
 obtain⟨hdl,hind⟩:=ind_spec sd dy 0 hI
 have hN:ops.size=l.length:=by rw[hops];simp
 obtain⟨k,hk⟩:∃k,k=ops.size:=⟨_,O⟩
 have hwr:∀j i,j<k→(sd.getD j default).1=some i→i<kP sd base j:=fun j i hj=>(hck j (by omega)).1 i
 have hlen:∀ξ j,j<k→((dy.getD j default).made ξ).length=(sd.getD j default).2.1:=fun ξ j hj=>(hind j (by omega)).2 ξ
 have hA:∀j i o,j<ops.size→ops[j]? = some o→dpG A j i=true→∃e∈o.after,Region.binds .any e=true∧(e.on=i∨dpG A e.on i=true):=fun j i o hj=>(hck j hj).2.2.1 i o
 have hlxs:=fun ξ=>lx_spec (ξ:=ξ) hb (k:=k) hwr (hlen ξ)
 have hgw:=fun ξ=>gw_spec (r:=r) (n:=n) (P:=P) (w0:=w0) (ξ:=ξ) (K:=fun L a=>∀W,Ext w0 W L→Q .normal a W) (L0:=L0) (a0:=a0) hops (sd:=sd) (dy:=dy) (by omega) (by omega) l.length 0 (by omega) (by
  rw[List.drop_zero,List.drop_zero,List.drop_zero]
  exact hG ξ)
 have main:∀(c:Nat) (listed:Array Bool) (ξ:Nat→Xo) (W:World),ExtF w0 W (cu sd dy base L0 ξ (fun j=>listed.getD j false) k)→listed.size=k→left listed k=c →
   (∀j oj,ops[j]? = some oj→listed.getD j false=true→∀e∈oj.after,Region.binds .any e=true→listed.getD e.on false=true) →
   wpAnyIn (Fw r) n P .any ops Q c listed (stA ops (vaG dy ξ) a0 (fun j=>listed.getD j false) k) W:=by
  intro c
  induction c with
  | zero =>
   intro listed ξ W hE hsz hc hcl
   have hall:=my hc
   refine⟨?_,?_⟩
   ·apply List.eq_nil_iff_forall_not_mem.2
    intro i hi
    obtain⟨hun,o,ho,_⟩:=mem_ready.1 hi
    have hi':i<ops.size:=(Array.getElem?_eq_some_iff.1 ho).1
    rw[dN (by omega) true false,hall i (by omega)]at hun
    cases hun
   ·have e1:∀m,m≤k→stA ops (vaG dy ξ) a0 (fun j=>listed.getD j false) m=stA ops (vaG dy ξ) a0 (fun _=>true) m:=by
     intro m
     induction m with
     | zero=>intro _;rfl
     | succ m ih =>
      intro hm
      show(if listed.getD m false=true then _ else _)=(if true=true then _ else _)
      rw[if_pos (hall m (by omega)),if_pos O,ih (by omega)]
    rw[e1 k (Nat.le_refl _)]
    have h3:=(hgw ξ).2 W (by
     refine ExtF.to ?_
     have e2:(fun i=>(lx sd dy ξ L0 l.length)[i]?)=cu sd dy base L0 ξ (fun j=>listed.getD j false) k:=funext fun q=>by
      rw[←hN,←hk,(hlxs ξ k (Nat.le_refl _)).2 q]
      exact rU (fun i hi _=>(hall i hi).symm)
     rw[e2]
     exact hE)
    rw[hk,hN]
    exact h3
  | succ c ih =>
   intro listed ξ W hE hsz hc hcl
   have hrdy:∀j,j<ops.size→listed.getD j false=false→∃i,i∈Region.ready .any ops listed:=by
    intro j
    induction j using Nat.strongRecOn with
    | _ j ihj =>
     intro hj hun
     obtain⟨o,ho⟩:∃o,ops[j]? = some o:=⟨_,Array.getElem?_eq_some_iff.2 ⟨hj,O⟩⟩
     by_cases hall:∀e∈o.after,Region.binds .any e=true→listed.getD e.on false=true
     ·exact⟨j,mem_ready.2 ⟨by rw[dN (by omega) true false];exact hun,o,ho,hall⟩⟩
     ·have:∃e∈o.after,Region.binds .any e=true∧listed.getD e.on false=false:=by
       apply Classical.byContradiction
       intro hno
       exact hall fun e he hb=>by
        cases hl:listed.getD e.on false with
        | true=>rfl
        | false=>exact absurd ⟨e,he,hb,hl⟩ hno
      obtain⟨e,he,hb,hf⟩:=this
      have hlt:=(aW hO ho).2.2.1 e he hb
      exact ihj e.on hlt (by omega) hf
   have hex:∃j,j<k∧listed.getD j false=false:=by
    apply Classical.byContradiction
    intro hno
    have:left listed k=0:=by
     unfold left
     rw[List.length_eq_zero_iff,List.filter_eq_nil_iff]
     intro j hj
     have hj':=List.mem_range.1 hj
     cases hl:listed.getD j false with
     | true=>simp
     | false=>exact absurd ⟨j,hj',hl⟩ hno
    omega
   obtain⟨j1,hj1,hf1⟩:=hex
   obtain⟨i1,hi1⟩:=hrdy j1 (by omega) hf1
   refine⟨fun h=>(by rw[h]at hi1;cases hi1),fun i hi=>?_⟩
   obtain⟨hun,o,ho,hall⟩:=mem_ready.1 hi
   have hiN:i<k:=by rw[hk];exact(Array.getElem?_eq_some_iff.1 ho).1
   have hun':=hun
   rw[dN (by omega) true false]at hun'
   have hl:=mW (by omega) hun' k hiN
   have hfs:(fun j=>(listed.setIfInBounds i true).getD j false)=fun j=>listed.getD j false||j==i:=funext fun j=>cA (by omega)
   have hcl':∀j oj,ops[j]? = some oj→(listed.setIfInBounds i true).getD j false=true→∀e∈oj.after,Region.binds .any e=true→(listed.setIfInBounds i true).getD e.on false=true:=fun j oj hoj hlj e he hb=>by
    rw[cA (by omega)]at hlj ⊢
    by_cases e':j=i
    ·subst e'
     rw[ho]at hoj;cases hoj
     rw[hall e he hb];rfl
    ·have:(j==i)=false:=by simpa using e'
     rw[this,Bool.or_false]at hlj
     rw[hcl j oj hoj hlj e he hb];rfl
   obtain⟨hsel,hdef,haft,hord⟩:=aW hO ho
   have hclos:=dp_closed (S:=fun j=>listed.getD j false) hO hA hcl
   have hready:∀i',dpG A i i'=true→listed.getD i' false=true:=fun i' hd=>by
    obtain⟨e,he,hbd,h1⟩:=hA i i' o (by omega) ho hd
    have h2:=hall e he hbd
    rcases h1 with rfl|h1
    ·exact h2
    ·exact hclos e.on i' (by have:=haft e he hbd;omega) h2 h1
   have hlater:∀j,j<k→dpG A j i=true→listed.getD j false=false:=fun j hj hd=>by
    cases hs:listed.getD j false with
    | false=>rfl
    | true =>
     have h9:listed.getD i false=true:=hclos j i (by omega) hs hd
     rw[hun']at h9;cases h9
   have hxi:∀x j,j<k→listed.getD j false=true→∀i',(i'=0+j∨dpG A (0+j) i'=true)→ξ i'=rk ξ i x i':=fun x j hj hs i' h=>by
    unfold rk
    rw[if_neg]
    intro e
    subst e
    rw[Nat.zero_add]at h
    rcases h with rfl|h
    ·rw[hun']at hs;cases hs
    ·have:=hlater j hj h
     rw[hs]at this;cases this
   have hval:∀x j,j<k→listed.getD j false=true→vaG dy ξ j=vaG dy (rk ξ i x) j:=fun x j hj hs=>((hind j (by omega)).1 _ _ (hxi x j hj hs)).1
   have hcux:∀x q,cu sd dy base L0 ξ (fun j=>listed.getD j false) k q=cu sd dy base L0 (rk ξ i x) (fun j=>listed.getD j false) k q:=fun x q=>cu_xi (fun j hj hs=>((hind j (by omega)).1 _ _ (hxi x j hj hs)).2)
   have hlook:∀j,j<k→listed.getD j false≠decide (j<i)→∀d,fv ops j=some d→¬d∈o.looksAt ops:=by
    intro j hj hne d hd hmem
    obtain⟨oj,hoj⟩:∃oj,ops[j]? = some oj:=⟨_,Array.getElem?_eq_some_iff.2 ⟨by omega,O⟩⟩
    have hdj:oj.dst=some d:=by simpa [fv,hoj]using hd
    rcases Nat.lt_trichotomy j i with h|h|h
    ·have hl:listed.getD j false=false:=by
      cases hl:listed.getD j false with
      | false=>rfl
      | true=>exact absurd (by rw[hl];simp[h]) hne
     rcases hord j oj h hoj with hap|⟨e,he,hb,hon⟩
     ·exact(Oper.apart_spec hap).1 d hdj hmem
     ·have:=hall e he hb
      rw[hon,hl]at this;cases this
    ·subst h
     exact absurd (by rw[hun'];simp) hne
    ·have hl:listed.getD j false=true:=by
      cases hl:listed.getD j false with
      | true=>rfl
      | false=>exact absurd (by rw[hl];simp;omega) hne
     rcases (aW hO hoj).2.2.2 i o h ho with hap|⟨e,he,hb,hon⟩
     ·exact(Oper.apart_spec hap).2.2 d hdj hmem
     ·have:=hcl j oj hoj hl e he hb
      rw[hon,hun']at this;cases this
   have hag:=k7 (ops:=ops) (vaG dy ξ) a0 (fun x=>x∈o.looksAt ops) (fun j=>listed.getD j false) (fun j=>decide (j<i)) k hlook
   have hlex:stA ops (vaG dy ξ) a0 (fun j=>decide (j<i)) k=stA ops (vaG dy ξ) a0 (fun _=>true) i:=by
    have h1:∀m,m≤i→stA ops (vaG dy ξ) a0 (fun j=>decide (j<i)) m=stA ops (vaG dy ξ) a0 (fun _=>true) m:=by
     intro m
     induction m with
     | zero=>intro _;rfl
     | succ m ih=>intro hm;simp only[stA];rw[ih (by omega)];simp;omega
    have h2:∀m,i≤m→stA ops (vaG dy ξ) a0 (fun j=>decide (j<i)) m=stA ops (vaG dy ξ) a0 (fun j=>decide (j<i)) i:=by
     intro m
     induction m with
     | zero =>
      intro h
      have:i=0:=by omega
      subst this;rfl
     | succ m ih =>
      intro hm
      by_cases e:i=m+1
      ·rw[e]
      ·simp only[stA]
       rw[if_neg (by simp;omega)]
       exact ih (by omega)
    rw[h2 k (by omega),h1 i (Nat.le_refl _)]
   rw[hlex]at hag
   obtain⟨hev,hwa⟩:=g8 (ops:=ops) (o:=o) (a:=stA ops (vaG dy ξ) a0 (fun j=>listed.getD j false) k) (b:=stA ops (vaG dy ξ) a0 (fun _=>true) i) hag.1
   have hput:∀ξ',(∀j,j<k→listed.getD j false=true→vaG dy ξ j=vaG dy ξ' j)→(stA ops (vaG dy ξ) a0 (fun j=>listed.getD j false) k).put o.dst ((dy.getD i default).val ξ')=stA ops (vaG dy ξ') a0 (fun j=>listed.getD j false||j==i) k:=fun ξ' h=>by
    rw[lO (ops:=ops) (vaG dy ξ') a0 (fun j=>listed.getD j false) i hun' k hiN (fun j h1 h2 h3 d h4 h5=>by
     obtain⟨oj,hoj⟩:∃oj,ops[j]? = some oj:=⟨_,Array.getElem?_eq_some_iff.2 ⟨by omega,O⟩⟩
     have hdj:oj.dst=some d:=by simpa [fv,hoj]using h4
     have hdi:o.dst=some d:=by simpa [fv,ho]using h5
     rcases (aW hO hoj).2.2.2 i o h1 ho with hap|⟨e,he,hb,hon⟩
     ·exact(Oper.apart_spec hap).2.1 d hdi hdj
     ·have:=hcl j oj hoj h3 e he hb
      rw[hon,hun']at this;cases this)]
    have e9:∀m,m≤k→stA ops (vaG dy ξ) a0 (fun j=>listed.getD j false) m=stA ops (vaG dy ξ') a0 (fun j=>listed.getD j false) m:=by
     intro m
     induction m with
     | zero=>intro _;rfl
     | succ m ih =>
      intro hm
      simp only[stA]
      rw[ih (by omega)]
      split
      ·rename_i hs
       rw[h m (by omega) hs]
      ·rfl
    have e8:fv ops i=o.dst:=by simp[fv,ho]
    rw[e9 k (Nat.le_refl _),e8]
    rfl
   have hLk:∀j,j≤k→kP sd base j≤kP sd base k:=fun j hj=>sf k hj
   rcases (hgw ξ).1 i o (Nat.zero_le _) ho with⟨hw,hob⟩|⟨hw,hv,hn1,hn2⟩
   ·unfold wpOpIn
    simp only[ho]
    rw[hwa,if_pos hw]
    obtain⟨msk,hmsk⟩:∃msk,msk=(sd.getD i default).2.2:=⟨_,O⟩
    obtain⟨LL,hLL⟩:∃LL,LL=lx sd dy ξ L0 i:=⟨_,O⟩
    obtain⟨len,hlenD⟩:∃len,len=kP sd base i:=⟨_,O⟩
    obtain⟨LEN,hLEN⟩:∃LEN,LEN=kP sd base k:=⟨_,O⟩
    have hmlen:msk.length=len:=by rw[hmsk,hlenD];exact(hck i (by omega)).2.1
    have hLlen:LL.length=len:=by rw[hLL,hlenD];exact(hlxs ξ i (by omega)).1
    have hle:len≤LEN:=by rw[hlenD,hLEN];exact hLk i (by omega)
    obtain⟨f,hf⟩:∃f,f=cu sd dy base L0 ξ (fun j=>listed.getD j false) k:=⟨_,O⟩
    have hflt:∀q p,f q=some p→q<LEN:=fun q p h=>by rw[hf]at h;rw[hLEN];exact cu_lt hb hwr k q p (Nat.le_refl _) h
    have hmeq:∀q,q<len→msk.getD q false=true→LL[q]? = f q:=by
     intro q hq hmq
     rw[hLL,hf,(hlxs ξ i (by omega)).2 q]
     have hc4:=fun j (hj:j<ops.size) (hne:j≠i)=>(hck i (by omega)).2.2.2 j q hj hne (by rw[←hk,←hLEN];omega)
     rw[rU (S:=fun _=>true) (S':=fun j=>listed.getD j false) (fun j hj hwj=>by
      have:=(hc4 j (by omega) (by omega) hwj).2 (by rw[←hmsk];exact hmq)
      rw[if_pos hj]at this
      exact(hready j this).symm)]
     refine(cu_up k (by omega) (fun j h1 h2 hwj=>?_)).symm
     by_cases e:j=i
     ·subst e;exact hun'
     ·have:=(hc4 j (by omega) e hwj).2 (by rw[←hmsk];exact hmq)
      rw[if_neg (by omega)]at this
      exact hlater j h2 this
    obtain⟨L2,hL2⟩:∃L2,L2=(List.range LEN).map fun q=>if q<len∧msk.getD q false=true then noR else(f q).getD noR:=⟨_,O⟩
    have hL2len:L2.length=LEN:=by rw[hL2];simp
    have hL2get:∀q,q<LEN→L2[q]? = some (if q<len∧msk.getD q false=true then noR else(f q).getD noR):=fun q hq=>by
     rw[hL2];simp[hq]
    have hMlen:(aA LL msk).length=len:=by rw[qC _ _ (by omega)];exact hLlen
    have hMget:∀q,q<len→msk.getD q false=true→(aA LL msk++L2)[q]? = f q:=fun q hq hmq=>by
     rw[List.getElem?_append_left (by omega),oc _ _ _ (by omega),←hmeq q hq hmq]
     cases LL[q]? with
     | none=>rfl
     | some p=>simp only[Option.map_some];rw[if_pos hmq]
    have hRget:∀q,q<LEN→(aA LL msk++L2)[len+q]? = some (if q<len∧msk.getD q false=true then noR else(f q).getD noR):=fun q hq=>by
     rw[List.getElem?_append_right (by omega),hMlen,show len+q-len=q by omega]
     exact hL2get q hq
    have hcls:∀q p,(aA LL msk++L2)[q]? = some p→p=noR∨(q<len∧msk.getD q false=true∧f q=some p)∨(len≤q∧¬(q-len<len∧msk.getD (q-len) false=true)∧f (q-len)=some p):=by
     intro q p hp
     by_cases hq:q<len
     ·by_cases hmq:msk.getD q false=true
      ·rw[hMget q hq hmq]at hp
       exact .inr (.inl ⟨hq,hmq,hp⟩)
      ·rw[List.getElem?_append_left (by omega),oc _ _ _ (by omega)]at hp
       obtain⟨p0,_,h2⟩:=Option.map_eq_some_iff.1 hp
       rw[if_neg hmq]at h2
       exact .inl h2.symm
     ·have hlt:q-len<LEN:=by
       have:=(List.getElem?_eq_some_iff.1 hp).1
       rw[List.length_append,hMlen,hL2len]at this
       omega
      have h3:=hRget (q-len) hlt
      rw[show len+(q-len)=q by omega,hp]at h3
      have h3:=Option.some.inj h3
      split at h3
      ·exact .inl h3
      ·rename_i h4
       cases hfq:f (q-len)with
       | none=>rw[hfq]at h3;exact .inl h3
       | some p1=>rw[hfq]at h3;exact .inr (.inr ⟨by omega,h4,by rw[h3];rfl⟩)
    have hEx:Ext w0 W (aA LL msk++L2):=by
     refine ExtF.to (hE.map (fun q=>if q<len then q else q-len) (fun q p hp=>?_) (fun q q' p p' hp hp' hne=>?_))
     ·rcases hcls q p hp with h|⟨h1,h2,h3⟩|⟨h1,h2,h3⟩
      ·exact .inl h
      ·rw[if_pos h1,←hf];exact .inr h3
      ·rw[if_neg (by omega),←hf];exact .inr h3
     ·rcases hcls q p hp with h|⟨h1,h2,h3⟩|⟨h1,h2,h3⟩
      ·exact .inl h
      ·rcases hcls q' p' hp' with h' | ⟨h1',h2',h3'⟩|⟨h1',h2',h3'⟩
       ·exact .inr (.inl h')
       ·rw[if_pos h1,if_pos h1',←hf];exact .inr (.inr ⟨h3,h3',hne⟩)
       ·rw[if_pos h1,if_neg (by omega),←hf]
        exact .inr (.inr ⟨h3,h3',fun e=>h2' (by rw[←e];exact⟨h1,h2⟩)⟩)
      ·rcases hcls q' p' hp' with h' | ⟨h1',h2',h3'⟩|⟨h1',h2',h3'⟩
       ·exact .inr (.inl h')
       ·rw[if_neg (by omega),if_pos h1',←hf]
        exact .inr (.inr ⟨h3,h3',fun e=>h2 (by rw[e];exact⟨h1',h2'⟩)⟩)
       ·rw[if_neg (by omega),if_neg (by omega),←hf];exact .inr (.inr ⟨h3,h3',by omega⟩)
    refine wpIn_moveG (j:=i) (s:=sd.getD i default) (dd:=dy.getD i default) (ξ:=ξ) (L:=aA LL msk++L2) (a:=stA ops (vaG dy ξ) a0 (fun _=>true) i) hsel hdef (fun x hx=>(hev x hx).symm) (by rw[nF,nF]) (by
     have:=hob L2 W (by rw[←hLL,←hmsk];exact hEx)
     rw[←hLL,←hmsk]at this
     exact this) ?_
    intro x W' hE'
    rw[hput (rk ξ i x) (hval x)]
    have hnew:ExtF w0 W' (cu sd dy base L0 (rk ξ i x) (fun j=>listed.getD j false||j==i) k):=by
     have hcp:∀q,cu sd dy base L0 (rk ξ i x) (fun j=>listed.getD j false||j==i) k q=_:=fun q=>cu_put (S:=fun j=>listed.getD j false) hiN hun' (fun j h1 h2 h3 h4=>by
      have hq:q<kP sd base ops.size:=by
       rw[←hk]
       rw[p8]at h3
       rcases h3 with h3|h3
       ·have:=hwr i q hiN h3
        have:=hLk i (by omega)
        omega
       ·have:=hLk (i+1) (by omega)
        omega
      rcases ((hck i (by omega)).2.2.2 j q (by omega) (by omega) hq h4).1 h3 with h5|h5
      ·obtain⟨e,he,hbd,h6⟩:=hA i j o (by omega) ho h5
       have h7:=haft e he hbd
       have h8:=hready j h5
       exfalso
       have h9:∀(a b:Nat),a<ops.size→dpG A a b=true→b<a:=by
        intro a
        induction a using Nat.strongRecOn with
        | _ a iha =>
         intro b ha hd
         obtain⟨oa,hoa⟩:∃oa,ops[a]? = some oa:=⟨_,Array.getElem?_eq_some_iff.2 ⟨ha,O⟩⟩
         obtain⟨e,he,hbd,h6⟩:=hA a b oa ha hoa hd
         have h7:=(aW hO hoa).2.2.1 e he hbd
         rcases h6 with rfl|h6
         ·exact h7
         ·have:=iha e.on h7 b (by omega) h6
          omega
       have:=h9 i j (by omega) h5
       omega
      ·exact hlater j h2 h5)
     obtain⟨wr,hwrD⟩:∃wr,wr=(sd.getD i default).1:=⟨_,O⟩
     obtain⟨Lm,hLm⟩:∃Lm,Lm=(match wr with|some i'=>(aA LL msk++L2).set i' ((dy.getD i default).wp (rk ξ i x))|none=>(aA LL msk++L2)):=⟨_,O⟩
     have hwl:∀q,wr=some q→q<len:=fun q h=>by rw[hlenD];exact hwr i q hiN (by rw[←hwrD];exact h)
     have hLmlen:Lm.length=len+LEN:=by
      rw[hLm]
      cases wr <;> simp[hMlen,hL2len]
     have hLmget:∀t,t<len+LEN→Lm[t]? = if wr=some t then some ((dy.getD i default).wp (rk ξ i x))else(aA LL msk++L2)[t]?:=by
      intro t ht
      rw[hLm]
      cases hw9:wr with
      | none=>rw[if_neg (by intro h;cases h)]
      | some i' =>
       simp only[]
       rw[List.getElem?_set]
       by_cases e:i'=t
       ·subst e
        rw[if_pos O,if_pos (by rw[List.length_append,hMlen,hL2len];omega),if_pos O]
       ·rw[if_neg e,if_neg (by intro h;cases h;exact e O)]
     have hE2:Ext w0 W' (Lm++(dy.getD i default).made (rk ξ i x)):=by
      rw[hLm,hwrD];exact hE'
     have hl1:kP sd base (i+1)=len+(sd.getD i default).2.1:=by rw[hlenD];rfl
     refine(ExtF.of hE2).map (fun q=>if wr=some q then q else if len≤q∧q<kP sd base (i+1)then len+LEN+(q-len)else if q<len∧msk.getD q false=true then q else len+q) (fun q p hp=>.inr ?_) (fun q q' p p' hp hp' hne=>.inr (.inr ⟨?_,?_,?_⟩))
     all_goals
      have hget:∀q p,cu sd dy base L0 (rk ξ i x) (fun j=>listed.getD j false||j==i) k q=some p→(Lm++(dy.getD i default).made (rk ξ i x))[if wr=some q then q else if len≤q∧q<kP sd base (i+1)then len+LEN+(q-len)else if q<len∧msk.getD q false=true then q else len+q]? = some p∧q<LEN:=by
       intro q p hp
       rw[hcp q,←hwrD,←hlenD]at hp
       by_cases h1:wr=some q
       ·have:=hwl q h1
        rw[if_pos h1]at hp
        rw[if_pos h1,List.getElem?_append_left (by omega),hLmget q (by omega),if_pos h1]
        exact⟨hp,by omega⟩
       ·rw[if_neg h1]at hp
        rw[if_neg h1]
        by_cases h2:len≤q∧q<kP sd base (i+1)
        ·rw[if_pos h2]at hp
         rw[if_pos h2,List.getElem?_append_right (by omega),hLmlen,show len+LEN+(q-len)-(len+LEN)=q-len by omega]
         have:=hLk (i+1) (by omega)
         exact⟨hp,by omega⟩
        ·rw[if_neg h2,←hcux x q,←hf]at hp
         have hq:=hflt q p hp
         rw[if_neg h2]
         by_cases h3:q<len∧msk.getD q false=true
         ·rw[if_pos h3,List.getElem?_append_left (by omega),hLmget q (by omega),if_neg h1,hMget q h3.1 h3.2]
          exact⟨hp,hq⟩
         ·rw[if_neg h3,List.getElem?_append_left (by omega),hLmget (len+q) (by omega),if_neg (fun h=>by have:=hwl _ h;omega),hRget q hq,if_neg h3,hp]
          exact⟨O,hq⟩
     ·exact(hget q p hp).1
     ·exact(hget q p hp).1
     ·exact(hget q' p' hp').1
     ·have h1:=(hget q p hp).2
      have h2:=(hget q' p' hp').2
      have ht:∀q,((if wr=some q then q else if len≤q∧q<kP sd base (i+1)then len+LEN+(q-len)else if q<len∧msk.getD q false=true then q else len+q)=q∧q<len) ∨
        ((if wr=some q then q else if len≤q∧q<kP sd base (i+1)then len+LEN+(q-len)else if q<len∧msk.getD q false=true then q else len+q)=len+LEN+(q-len)∧len≤q) ∨
        (if wr=some q then q else if len≤q∧q<kP sd base (i+1)then len+LEN+(q-len)else if q<len∧msk.getD q false=true then q else len+q)=len+q:=by
       intro q
       by_cases a1:wr=some q
       ·rw[if_pos a1];exact .inl ⟨O,hwl q a1⟩
       ·rw[if_neg a1]
        by_cases a2:len≤q∧q<kP sd base (i+1)
        ·rw[if_pos a2];exact .inr (.inl ⟨O,a2.1⟩)
        ·rw[if_neg a2]
         by_cases a3:q<len∧msk.getD q false=true
         ·rw[if_pos a3];exact .inl ⟨O,a3.1⟩
         ·rw[if_neg a3];exact .inr (.inr O)
      intro he
      rcases ht q with⟨b1,b2⟩|⟨b1,b2⟩|b1 <;> rcases ht q' with⟨c1,c2⟩|⟨c1,c2⟩|c1 <;> rw[b1,c1]at he <;> omega
    have:=ih (listed.setIfInBounds i true) (rk ξ i x) W' (by rw[hfs];exact hnew) (by simpa using hsz) (by omega) hcl'
    rw[hfs]at this
    exact this
   ·unfold wpOpIn
    simp only[ho]
    rw[hwa,if_neg (by rw[hw];simp)]
    refine⟨fun _ _=>trivial,?_⟩
    have hp:=hput ξ (fun _ _ _=>O)
    rw[hv ξ]at hp
    rw[hp]
    have:=ih (listed.setIfInBounds i true) ξ W (by
     rw[hfs]
     have e7:cu sd dy base L0 ξ (fun j=>listed.getD j false||j==i) k=cu sd dy base L0 ξ (fun j=>listed.getD j false) k:=funext fun q=>rU (fun j hj hwj=>by
      have hne:(j==i)=false:=by
       simp
       intro e
       subst e
       rw[p8,hn1]at hwj
       simp only[kP,hn2]at hwj
       rcases hwj with h|h
       ·cases h
       ·omega
      simp[hne])
     rw[e7]
     exact hE) (by simpa using hsz) (by omega) hcl'
    rw[hfs]at this
    exact this
 have e1:left (Array.replicate ops.size false) k=k:=by
  unfold left
  rw[List.filter_eq_self.2 fun j hj=>?_]
  ·simp
  ·have:=List.mem_range.1 hj
   simp[show j<ops.size by omega]
 have hrep:∀j,(Array.replicate ops.size false).getD j false=false:=fun j=>by
  rw[Array.getD_eq_getD_getElem?,Array.getElem?_replicate]
  split <;> rfl
 have hfin:=main k (Array.replicate ops.size false) (fun _ _=>(none,0,0,[],noR)) _ (by
  have e3:cu sd dy base L0 (fun _ _=>(none,0,0,[],noR)) (fun j=>(Array.replicate ops.size false).getD j false) k=fun i=>L0[i]?:=funext fun q=>cu_up (j:=0) k (Nat.zero_le _) (fun i _ _ _=>hrep i)
  rw[e3]
  exact ExtF.of h0) (by simp[hk]) e1 (fun j oj hoj hl=>by rw[hrep j]at hl;cases hl)
 have e2:∀m,stA ops (vaG dy (fun _ _=>(none,0,0,[],noR))) a0 (fun j=>(Array.replicate ops.size false).getD j false) m=a0:=by
  intro m
  induction m with
  | zero=>rfl
  | succ m ih=>simp only[stA];rw[ih,if_neg (by rw[hrep m];simp)]
 rw[e2 k,hk]at hfin
 exact hfin
end
open Go.RowKit (Below)
section
variable {r : Option Nat} {n : Nat} {P : Program} {ops : Array Oper} {Q : Exit → Act → World → Prop} {w0 : World} {L : List Res} {m : Nat} {tm : Nat → Value} {d : List Deferred} {ξ : Nat → Xo}
variable {t : Tmp} {ty : TypeId} {pos : String} {af : Array Edge} {g : Option (Nat × Bool)} {os : List Oper} {s : Sd} {dd : Dyn} {ss : List Sd} {ds : List Dyn} {j : Nat}
def GX (r:Option Nat) (n:Nat) (P:Program) (ops:Array Oper) (Q:Exit→Act→World→Prop) (w0:World) (ξ:Nat→Xo) (j:Nat) (os:List Oper) (ss:List Sd) (ds:List Dyn) (L:List Res) (m:Nat) (tm:Nat→Value) (d:List Deferred):Prop :=
 GW r n P ops w0 ξ (fun L a=>∀W,Ext w0 W L→Q .normal a W) j os ss ds L (act m tm d)
theorem eV (A:List (List Nat)) (sd:List Sd) (dy:List Dyn) (base:Nat) {id:Nat} {l:List Oper} (hm:P.follows .mixedOrders=true) (hO:ll l.toArray=true) (hC:chkG l.toArray A sd base=true) (hI:IndA A 0 sd dy) (hb:L.length=base)
  (h:∀ξ,GX r n P l.toArray Q w0 ξ 0 l sd dy L m tm d):CX r n P (.region id l.toArray true) Q w0 L m tm d :=
 fun _ hW=>wp_drawsG A sd dy base hm hO hC hI hb hW.drawn h
theorem lK (h:EX Q .normal w0 L m tm d):GX r n P ops Q w0 ξ j [] [] [] L m tm d:=h
theorem cf {op:Op} (hw:eE ops m tm ⟨some t,op,ty,pos,af,g⟩=true)
  (hop:∀L2,OX r n P ops (obQ w0 j s dd ξ (some t) (aA L s.2.2++L2) (act m tm d)) w0 (aA L s.2.2++L2) [⟨some t,op,ty,pos,af,g⟩] m tm d)
  (h:GX r n P ops Q w0 ξ (j+1) os ss ds (bG s dd ξ L) m (upd tm t (dd.val ξ)) d):GX r n P ops Q w0 ξ j (⟨some t,op,ty,pos,af,g⟩::os) (s::ss) (dd::ds) L m tm d:=by
 unfold GX GW
 refine⟨.inl ⟨by rw[bu];exact hw,fun L2 W hW=>?_⟩,?_⟩
 ·have h1:=hop L2 W hW
  unfold OL at h1
  rw[bu,if_pos hw]at h1
  exact Oper.wpIn_mono (fun a w h=>h) h1
 ·rw[dP]
  exact h
theorem gx_n {op:Op} (hw:eE ops m tm ⟨none,op,ty,pos,af,g⟩=true)
  (hop:∀L2,OX r n P ops (obQ w0 j s dd ξ none (aA L s.2.2++L2) (act m tm d)) w0 (aA L s.2.2++L2) [⟨none,op,ty,pos,af,g⟩] m tm d)
  (h:GX r n P ops Q w0 ξ (j+1) os ss ds (bG s dd ξ L) m tm d):GX r n P ops Q w0 ξ j (⟨none,op,ty,pos,af,g⟩::os) (s::ss) (dd::ds) L m tm d:=by
 unfold GX GW
 refine⟨.inl ⟨by rw[bu];exact hw,fun L2 W hW=>?_⟩,h⟩
 have h1:=hop L2 W hW
 unfold OL at h1
 rw[bu,if_pos hw]at h1
 exact Oper.wpIn_mono (fun a w h=>h) h1
theorem al {Lf L':List Res} {v:Value} (x:Xo) (hv:dd.val (rk ξ j x)=v) (hL:bG s dd (rk ξ j x) Lf=L'):EX (obQ w0 j s dd ξ (some t) Lf (act m tm d)) .normal w0 L' m (upd tm t v) d:=fun W hW=>by
 subst hv hL
 exact⟨O,x,(dP m tm d (some t) _).symm,hW⟩
theorem bK {Lf L':List Res} (x:Xo) (hL:bG s dd (rk ξ j x) Lf=L'):EX (obQ w0 j s dd ξ none Lf (act m tm d)) .normal w0 L' m tm d:=fun W hW=>by
 subst hL
 exact⟨O,x,O,hW⟩
end
open Go.RowKit (Below)
section
variable {r : Option Nat} {n : Nat} {P : Program} {ops : Array Oper} {Q : Exit → Act → World → Prop}
def ms (Q:Exit→Act→World→Prop):Exit→Act→World→Prop:=fun e a w=>e=.normal∧Q .normal a w
theorem sink {fr:List Nat} {k:Nat} (hkN:k≤ops.size)
  (hT:k=ops.size∨(List.range k).all (fun i=>fr.contains i||(List.range (k+1)).any fun j=>decide (i<j)&&tailB.Region.waitsB ops j i)=true∧((List.range ops.size).all fun t=>decide (t≤k)||tailB.Region.waitsB ops t (t-1))=true) :
  ∀(listed:Array Bool),listed.size=ops.size→(∀j oj,ops[j]? = some oj→listed.getD j false=true→∀e∈oj.after,Region.binds .any e=true→listed.getD e.on false=true) →
   (∀t,k≤t→t<ops.size→listed.getD t false=false)→(∀i,i∈fr→listed.getD i false=true)→∀(d i:Nat),k-i=d→i<k→listed.getD i false=false→∀t,k≤t→t∉Region.ready .any ops listed:=by
 have hchain:∀t,k<t→t<ops.size→tailB.Region.waitsB ops t (t-1)=true:=fun t h1 h2=>by
  rcases hT with hT|hT
  ·omega
  ·have:=List.all_eq_true.1 hT.2 t (List.mem_range.2 h2)
   simp only[Bool.or_eq_true,decide_eq_true_eq]at this
   rcases this with h|h
   ·omega
   ·exact h
 intro listed hsz hcl htl hfr d
 induction d using Nat.strongRecOn with
 | _ d ih =>
  intro i hd hi hun t ht hr
  obtain⟨htu,ot,hot,hall⟩:=mem_ready.1 hr
  have htlt:t<ops.size:=(Array.getElem?_eq_some_iff.1 hot).1
  have hT':(List.range k).all (fun i=>fr.contains i||(List.range (k+1)).any fun j=>decide (i<j)&&tailB.Region.waitsB ops j i)=true:=by
   rcases hT with hT|hT
   ·omega
   ·exact hT.1
  by_cases htk:t=k
  ·subst htk
   have h1:=List.all_eq_true.1 hT' i (List.mem_range.2 hi)
   rw[Bool.or_eq_true]at h1
   have h1:=h1.resolve_left (fun hc=>by
    have:=hfr i (by simpa using hc)
    rw[hun]at this;cases this)
   obtain⟨j,hj,hj2⟩:=List.any_eq_true.1 h1
   simp only[Bool.and_eq_true,decide_eq_true_eq]at hj2
   obtain⟨oj,hoj,e,he,hb,hon⟩:=gW hj2.2
   have hjle:j≤t:=by have:=List.mem_range.1 hj;omega
   by_cases hjt:j=t
   ·subst hjt
    rw[hot]at hoj;cases hoj
    have h2:=hall e he hb
    rw[hon,hun]at h2;cases h2
   ·cases hlj:listed.getD j false with
    | true =>
     have h2:=hcl j oj hoj hlj e he hb
     rw[hon,hun]at h2;cases h2
    | false=>exact ih (t-j) (by omega) j O (by omega) hlj t (Nat.le_refl _) hr
  ·obtain⟨oj,hoj,e,he,hb,hon⟩:=gW (hchain t (by omega) htlt)
   rw[hot]at hoj;cases hoj
   have h2:=hall e he hb
   rw[hon,htl (t-1) (by omega) (by omega)]at h2;cases h2
theorem sj {l:List Oper} (hops:ops=l.toArray) (fr:List Nat) {k:Nat} (hO:ll ops=true) (hkN:k≤ops.size)
  (hT:k=ops.size∨(List.range k).all (fun i=>fr.contains i||(List.range (k+1)).any fun j=>decide (i<j)&&tailB.Region.waitsB ops j i)=true∧((List.range ops.size).all fun t=>decide (t≤k)||tailB.Region.waitsB ops t (t-1))=true)
  {a0:Act} {vals:Nat→Value} {acts:Nat→Act} {C:World→Prop} (hst:∀m,acts m=stA ops vals a0 (fun _=>true) m)
  (hvals:∀(j:Nat) (o:Oper),j<k→j∉fr→ops[j]? = some o→(Region.wanted o (yielded ops (acts j).tmps)=true∧OpY r n P o (acts j).eval C C (vals j))∨(Region.wanted o (yielded ops (acts j).tmps)=false∧vals j=undef))
  (hK:∀W,C W→OL r n P ops (ms Q) (l.drop k) (acts k) W) :
  ∀(c:Nat) (listed:Array Bool) (W:World),C W→listed.size=ops.size→left listed k=c →
   (∀j oj,ops[j]? = some oj→listed.getD j false=true→∀e∈oj.after,Region.binds .any e=true→listed.getD e.on false=true) →
   (∀t,k≤t→t<ops.size→listed.getD t false=false)→(∀i,i∈fr→listed.getD i false=true) →
   wpAnyIn (Fw r) n P .any ops (ms Q) (c+(ops.size-k)) listed (stA ops vals a0 (fun j=>listed.getD j false) k) W:=by
 have hchain:∀t,k<t→t<ops.size→tailB.Region.waitsB ops t (t-1)=true:=fun t h1 h2=>by
  rcases hT with hT|hT
  ·omega
  ·have:=List.all_eq_true.1 hT.2 t (List.mem_range.2 h2)
   simp only[Bool.or_eq_true,decide_eq_true_eq]at this
   rcases this with h|h
   ·omega
   ·exact h
 -- while an operation of the first k is still to come,no later one comes up
 have hsink:∀(listed:Array Bool),listed.size=ops.size→(∀j oj,ops[j]? = some oj→listed.getD j false=true→∀e∈oj.after,Region.binds .any e=true→listed.getD e.on false=true) →
   (∀t,k≤t→t<ops.size→listed.getD t false=false)→(∀i,i∈fr→listed.getD i false=true)→∀(d i:Nat),k-i=d→i<k→listed.getD i false=false→∀t,k≤t→t∉Region.ready .any ops listed:=by
  intro listed hsz hcl htl hfr d
  induction d using Nat.strongRecOn with
  | _ d ih =>
   intro i hd hi hun t ht hr
   obtain⟨htu,ot,hot,hall⟩:=mem_ready.1 hr
   have htlt:t<ops.size:=(Array.getElem?_eq_some_iff.1 hot).1
   have hT':(List.range k).all (fun i=>fr.contains i||(List.range (k+1)).any fun j=>decide (i<j)&&tailB.Region.waitsB ops j i)=true:=by
    rcases hT with hT|hT
    ·omega
    ·exact hT.1
   by_cases htk:t=k
   ·subst htk
    have h1:=List.all_eq_true.1 hT' i (List.mem_range.2 hi)
    rw[Bool.or_eq_true]at h1
    have h1:=h1.resolve_left (fun hc=>by
     have:=hfr i (by simpa using hc)
     rw[hun]at this;cases this)
    obtain⟨j,hj,hj2⟩:=List.any_eq_true.1 h1
    simp only[Bool.and_eq_true,decide_eq_true_eq]at hj2
    obtain⟨oj,hoj,e,he,hb,hon⟩:=gW hj2.2
    have hjle:j≤t:=by have:=List.mem_range.1 hj;omega
    by_cases hjt:j=t
    ·subst hjt
     rw[hot]at hoj;cases hoj
     have h2:=hall e he hb
     rw[hon,hun]at h2;cases h2
    ·cases hlj:listed.getD j false with
     | true =>
      have h2:=hcl j oj hoj hlj e he hb
      rw[hon,hun]at h2;cases h2
     | false=>exact ih (t-j) (by omega) j O (by omega) hlj t (Nat.le_refl _) hr
   ·obtain⟨oj,hoj,e,he,hb,hon⟩:=gW (hchain t (by omega) htlt)
    rw[hot]at hoj;cases hoj
    have h2:=hall e he hb
    rw[hon,htl (t-1) (by omega) (by omega)]at h2;cases h2
 intro c
 induction c with
 | zero =>
  intro listed W hC hsz hc hcl htl hfr
  have hall:=my hc
  have hs:stA ops vals a0 (fun j=>listed.getD j false) k=acts k:=by
   rw[hst k]
   have:∀m,m≤k→stA ops vals a0 (fun j=>listed.getD j false) m=stA ops vals a0 (fun _=>true) m:=by
    intro m
    induction m with
    | zero=>intro _;rfl
    | succ m ih=>intro hm;simp only[stA,ih (show m≤k by omega),hall m (by omega)]
   exact this k (Nat.le_refl _)
  rw[hs,Nat.zero_add]
  exact tail_any hops hO hchain _ k listed _ W O (Nat.le_refl _) hkN hsz (fun j hj=>by
   by_cases h:j<k
   ·rw[hall j h];simp[h]
   ·rw[htl j (by omega) hj];simp[h]) (hK W hC)
 | succ c ih =>
  intro listed W hC hsz hc hcl htl hfr
  -- one of the first k is still to come
  have hex:∃i,i<k∧listed.getD i false=false:=by
   apply Classical.byContradiction
   intro hno
   have:left listed k=0:=by
    unfold left
    rw[List.filter_eq_nil_iff.2 fun j hj=>?_]
    ·rfl
    ·have hj':=List.mem_range.1 hj
     cases hl:listed.getD j false with
     | true=>simp
     | false=>exact absurd ⟨j,hj',hl⟩ hno
   omega
  obtain⟨i0,hi0,hun0⟩:=hex
  have hrdy:∀j,j<ops.size→listed.getD j false=false→∃i,i∈Region.ready .any ops listed:=by
   intro j
   induction j using Nat.strongRecOn with
   | _ j ihj =>
    intro hj hun
    obtain⟨o,ho⟩:∃o,ops[j]? = some o:=⟨_,Array.getElem?_eq_some_iff.2 ⟨hj,O⟩⟩
    by_cases hall:∀e∈o.after,Region.binds .any e=true→listed.getD e.on false=true
    ·exact⟨j,mem_ready.2 ⟨by rw[dN (by omega) true false];exact hun,o,ho,hall⟩⟩
    ·have:∃e∈o.after,Region.binds .any e=true∧listed.getD e.on false=false:=by
      apply Classical.byContradiction
      intro hno
      exact hall fun e he hb=>by
       cases hl:listed.getD e.on false with
       | true=>rfl
       | false=>exact absurd ⟨e,he,hb,hl⟩ hno
     obtain⟨e,he,hb,hf⟩:=this
     have hlt:=(aW hO ho).2.2.1 e he hb
     exact ihj e.on hlt (by omega) hf
  obtain⟨i1,hi1⟩:=hrdy i0 (by omega) hun0
  rw[show c+1+(ops.size-k)=(c+(ops.size-k))+1 by omega]
  refine⟨fun h=>(by rw[h]at hi1;cases hi1),fun i hi=>?_⟩
  obtain⟨hun,o,ho,hall⟩:=mem_ready.1 hi
  have hlt:i<ops.size:=(Array.getElem?_eq_some_iff.1 ho).1
  have hik:i<k:=by
   rcases Nat.lt_or_ge i k with h|h
   ·exact h
   ·exact absurd hi (hsink listed hsz hcl htl hfr _ i0 O hi0 hun0 i h)
  rw[dN (by omega) true false]at hun
  obtain⟨hsel,hdef,_,hord⟩:=aW hO ho
  -- what it looks at is as in the text's order
  have hlook:∀j,j<k→(listed.getD j false)≠decide (j<i)→∀d,fv ops j=some d→¬d∈o.looksAt ops:=by
   intro j hj hne d hd hmem
   obtain⟨oj,hoj⟩:∃oj,ops[j]? = some oj:=⟨_,Array.getElem?_eq_some_iff.2 ⟨by omega,O⟩⟩
   have hdj:oj.dst=some d:=by simpa [fv,hoj]using hd
   rcases Nat.lt_trichotomy j i with h|h|h
   ·-- not listed,yet the operation is ready: it does not wait for it
    have hl:listed.getD j false=false:=by
     cases hl:listed.getD j false with
     | false=>rfl
     | true=>exact absurd (by rw[hl];simp[h]) hne
    rcases hord j oj h hoj with hap|⟨e,he,hb,hon⟩
    ·exact(Oper.apart_spec hap).1 d hdj hmem
    ·have:=hall e he hb
     rw[hon,hl]at this;cases this
   ·subst h
    exact absurd (by rw[hun];simp) hne
   ·have hl:listed.getD j false=true:=by
     cases hl:listed.getD j false with
     | true=>rfl
     | false=>exact absurd (by rw[hl];simp;omega) hne
    rcases (aW hO hoj).2.2.2 i o h ho with hap|⟨e,he,hb,hon⟩
    ·exact(Oper.apart_spec hap).2.2 d hdj hmem
    ·have:=hcl j oj hoj hl e he hb
     rw[hon,hun]at this;cases this
  have hag:=k7 (ops:=ops) vals a0 (fun x=>x∈o.looksAt ops) (fun j=>listed.getD j false) (fun j=>decide (j<i)) k hlook
  have hlex:stA ops vals a0 (fun j=>decide (j<i)) k=acts i:=by
   rw[hst i]
   have h1:∀m,m≤i→stA ops vals a0 (fun j=>decide (j<i)) m=stA ops vals a0 (fun _=>true) m:=by
    intro m
    induction m with
    | zero=>intro _;rfl
    | succ m ih=>intro hm;simp only[stA];rw[ih (by omega)];simp;omega
   have h2:∀m,i≤m→stA ops vals a0 (fun j=>decide (j<i)) m=stA ops vals a0 (fun j=>decide (j<i)) i:=by
    intro m
    induction m with
    | zero =>
     intro h
     have:i=0:=by omega
     subst this;rfl
    | succ m ih =>
     intro hm
     by_cases e:i=m+1
     ·rw[e]
     ·simp only[stA]
      rw[if_neg (by simp;omega)]
      exact ih (by omega)
   rw[h2 k (by omega),h1 i (Nat.le_refl _)]
  rw[hlex]at hag
  obtain⟨hev,hwa⟩:=g8 (ops:=ops) (o:=o) (a:=stA ops vals a0 (fun j=>listed.getD j false) k) (b:=acts i) hag.1
  have hins:stA ops vals a0 (fun j=>(listed.setIfInBounds i true).getD j false) k=(stA ops vals a0 (fun j=>listed.getD j false) k).put o.dst (vals i):=by
   have e1:(fun j=>(listed.setIfInBounds i true).getD j false)=fun j=>listed.getD j false||j==i:=funext fun j=>cA (by omega)
   rw[e1,lO (ops:=ops) vals a0 (fun j=>listed.getD j false) i hun k hik (fun j h1 h2 hS d hd he=>?_)]
   ·congr 1
    simp[fv,ho]
   ·obtain⟨oj,hoj⟩:∃oj,ops[j]? = some oj:=⟨_,Array.getElem?_eq_some_iff.2 ⟨by omega,O⟩⟩
    have hdj:oj.dst=some d:=by simpa [fv,hoj]using hd
    have hdi:o.dst=some d:=by simpa [fv,ho]using he
    rcases (aW hO hoj).2.2.2 i o h1 ho with hap|⟨e,he,hb,hon⟩
    ·exact(Oper.apart_spec hap).2.1 d hdi hdj
    ·have:=hcl j oj hoj hS e he hb
     rw[hon,hun]at this;cases this
  have hgo:∀W',C W'→wpAnyIn (Fw r) n P .any ops (ms Q) (c+(ops.size-k)) (listed.setIfInBounds i true) ((stA ops vals a0 (fun j=>listed.getD j false) k).put o.dst (vals i)) W':=fun W' hC'=>by
   rw[←hins]
   have hl:=mW (by omega) hun k hik
   refine ih _ W' hC' (by simpa using hsz) (by omega) (fun j oj hoj hlj e he hb=>?_) (fun t h1 h2=>?_) (fun i' hi'=>by rw[cA (by omega),hfr i' hi'];rfl)
   ·rw[cA (by omega)]at hlj ⊢
    by_cases e':j=i
    ·subst e'
     rw[ho]at hoj;cases hoj
     rw[hall e he hb];rfl
    ·have:(j==i)=false:=by simpa using e'
     rw[this,Bool.or_false]at hlj
     rw[hcl j oj hoj hlj e he hb];rfl
   ·rw[cA (by omega),htl t h1 h2]
    simp;omega
  unfold wpOpIn
  simp only[ho]
  rcases hvals i o hik (fun hfi=>by rw[hfr i hfi]at hun;cases hun) ho with⟨hw,hy⟩|⟨hw,hv⟩
  ·rw[hwa,if_pos hw]
   refine kU (mP hsel hdef (fun x hx=>(hev x hx).symm) hy) hC ?_
   exact hgo
  ·rw[hwa,if_neg (by rw[hw];simp)]
   refine⟨fun _ _=>trivial,?_⟩
   have:=hgo W hC
   rwa [hv]at this
end
section
variable {r : Option Nat} {n : Nat} {P : Program} {Q : Exit → Act → World → Prop} {w0 : World} {L : List Res} {m : Nat} {tm : Nat → Value} {d : List Deferred}
theorem qT (h:EX Q .normal w0 L m tm d):EX (ms Q) .normal w0 L m tm d:=fun W hW=>⟨O,h W hW⟩
end
open Go.RowKit (Below)
section
variable {r : Option Nat} {n : Nat} {P : Program} {ops : Array Oper} {Q : Exit → Act → World → Prop}
theorem rn {k:Nat} (hO:ll ops=true) (hkN:k≤ops.size) {a0:Act} {vals:Nat→Value} {acts:Nat→Act} {C:World→Prop} (hst:∀m,acts m=stA ops vals a0 (fun _=>true) m)
  {listed:Array Bool} {W:World} (hC:C W) (hsz:listed.size=ops.size)
  (hcl:∀j oj,ops[j]? = some oj→listed.getD j false=true→∀e∈oj.after,Region.binds .any e=true→listed.getD e.on false=true)
  {i:Nat} {o:Oper} (hik:i<k) (hun:listed.getD i true=false) (ho:ops[i]? = some o) (hall:∀e∈o.after,Region.binds .any e=true→listed.getD e.on false=true)
  (hvals:(Region.wanted o (yielded ops (acts i).tmps)=true∧OpY r n P o (acts i).eval C C (vals i))∨(Region.wanted o (yielded ops (acts i).tmps)=false∧vals i=undef)) {K:Act→World→Prop}
  (hK:∀W',C W'→K (stA ops vals a0 (fun j=>(listed.setIfInBounds i true).getD j false) k) W') :
  wpOpIn (Fw r) n P ops (ms Q) i K (stA ops vals a0 (fun j=>listed.getD j false) k) W:=by
 rw[dN (by omega) true false]at hun
 obtain⟨hsel,hdef,_,hord⟩:=aW hO ho
 -- what it looks at is as in the text's order
 have hlook:∀j,j<k→(listed.getD j false)≠decide (j<i)→∀d,fv ops j=some d→¬d∈o.looksAt ops:=by
  intro j hj hne d hd hmem
  obtain⟨oj,hoj⟩:∃oj,ops[j]? = some oj:=⟨_,Array.getElem?_eq_some_iff.2 ⟨by omega,O⟩⟩
  have hdj:oj.dst=some d:=by simpa [fv,hoj]using hd
  rcases Nat.lt_trichotomy j i with h|h|h
  ·-- not listed,yet the operation is ready: it does not wait for it
   have hl:listed.getD j false=false:=by
    cases hl:listed.getD j false with
    | false=>rfl
    | true=>exact absurd (by rw[hl];simp[h]) hne
   rcases hord j oj h hoj with hap|⟨e,he,hb,hon⟩
   ·exact(Oper.apart_spec hap).1 d hdj hmem
   ·have:=hall e he hb
    rw[hon,hl]at this;cases this
  ·subst h
   exact absurd (by rw[hun];simp) hne
  ·have hl:listed.getD j false=true:=by
    cases hl:listed.getD j false with
    | true=>rfl
    | false=>exact absurd (by rw[hl];simp;omega) hne
   rcases (aW hO hoj).2.2.2 i o h ho with hap|⟨e,he,hb,hon⟩
   ·exact(Oper.apart_spec hap).2.2 d hdj hmem
   ·have:=hcl j oj hoj hl e he hb
    rw[hon,hun]at this;cases this
 have hag:=k7 (ops:=ops) vals a0 (fun x=>x∈o.looksAt ops) (fun j=>listed.getD j false) (fun j=>decide (j<i)) k hlook
 have hlex:stA ops vals a0 (fun j=>decide (j<i)) k=acts i:=by
  rw[hst i]
  have h1:∀m,m≤i→stA ops vals a0 (fun j=>decide (j<i)) m=stA ops vals a0 (fun _=>true) m:=by
   intro m
   induction m with
   | zero=>intro _;rfl
   | succ m ih=>intro hm;simp only[stA];rw[ih (by omega)];simp;omega
  have h2:∀m,i≤m→stA ops vals a0 (fun j=>decide (j<i)) m=stA ops vals a0 (fun j=>decide (j<i)) i:=by
   intro m
   induction m with
   | zero =>
    intro h
    have:i=0:=by omega
    subst this;rfl
   | succ m ih =>
    intro hm
    by_cases e:i=m+1
    ·rw[e]
    ·simp only[stA]
     rw[if_neg (by simp;omega)]
     exact ih (by omega)
  rw[h2 k (by omega),h1 i (Nat.le_refl _)]
 rw[hlex]at hag
 obtain⟨hev,hwa⟩:=g8 (ops:=ops) (o:=o) (a:=stA ops vals a0 (fun j=>listed.getD j false) k) (b:=acts i) hag.1
 have hins:stA ops vals a0 (fun j=>(listed.setIfInBounds i true).getD j false) k=(stA ops vals a0 (fun j=>listed.getD j false) k).put o.dst (vals i):=by
  have e1:(fun j=>(listed.setIfInBounds i true).getD j false)=fun j=>listed.getD j false||j==i:=funext fun j=>cA (by omega)
  rw[e1,lO (ops:=ops) vals a0 (fun j=>listed.getD j false) i hun k hik (fun j h1 h2 hS d hd he=>?_)]
  ·congr 1
   simp[fv,ho]
  ·obtain⟨oj,hoj⟩:∃oj,ops[j]? = some oj:=⟨_,Array.getElem?_eq_some_iff.2 ⟨by omega,O⟩⟩
   have hdj:oj.dst=some d:=by simpa [fv,hoj]using hd
   have hdi:o.dst=some d:=by simpa [fv,ho]using he
   rcases (aW hO hoj).2.2.2 i o h1 ho with hap|⟨e,he,hb,hon⟩
   ·exact(Oper.apart_spec hap).2.1 d hdi hdj
   ·have:=hcl j oj hoj hS e he hb
    rw[hon,hun]at this;cases this
 have hgo:∀W',C W'→K ((stA ops vals a0 (fun j=>listed.getD j false) k).put o.dst (vals i)) W':=fun W' hC'=>by
  rw[←hins]
  exact hK W' hC'
 unfold wpOpIn
 simp only[ho]
 rcases hvals with⟨hw,hy⟩|⟨hw,hv⟩
 ·rw[hwa,if_pos hw]
  refine kU (mP hsel hdef (fun x hx=>(hev x hx).symm) hy) hC ?_
  exact hgo
 ·rw[hwa,if_neg (by rw[hw];simp)]
  refine⟨fun _ _=>trivial,?_⟩
  have:=hgo W hC
  rwa [hv]at this
def QWg (ops:Array Oper) (Y:Oper→(Operand→Value)→Value→Prop) (K:Act→Prop):List Oper→Act→Prop
 | [],a=>K a
 | o::rest,a=>if Region.wanted o (yielded ops a.tmps)then ∃v,Y o a.eval v∧QWg ops Y K rest (a.put o.dst v)else QWg ops Y K rest (a.put o.dst undef)
theorem qwg_vals {Y:Oper→(Operand→Value)→Value→Prop} {K:Act→Prop}:∀(l:List Oper) (i0:Nat) (a:Act),(∀j,j<l.length→l[j]? = ops[i0+j]?)→QWg ops Y K l a →
  ∃(vals:Nat→Value) (acts:Nat→Act),acts 0=a∧(∀j,acts (j+1)=(acts j).put (fv ops (i0+j)) (vals j)) ∧
   (∀j o,j<l.length→ops[i0+j]? = some o→(Region.wanted o (yielded ops (acts j).tmps)=true∧Y o (acts j).eval (vals j))∨(Region.wanted o (yielded ops (acts j).tmps)=false∧vals j=undef)) ∧
   K (acts l.length)
 | [],i0,a,_,h=>by
  have hK:K a:=h
  exact⟨fun _=>undef,fun j=>Nat.rec a (fun j b=>b.put (fv ops (i0+j)) undef) j,O,fun _=>O,(fun j o hj=>by simp at hj),hK⟩
 | o::rest,i0,a,hl,h=>by
  have ho:ops[i0]? = some o:=by simpa using(hl 0 (by simp)).symm
  have hl':∀j,j<rest.length→rest[j]? = ops[i0+1+j]?:=fun j hj=>by
   have:=hl (j+1) (by simp;omega)
   simpa [Nat.add_assoc,Nat.add_comm 1 j]using this
  have hdst:fv ops i0=o.dst:=by simp[fv,ho]
  have key:∃v,((Region.wanted o (yielded ops a.tmps)=true∧Y o a.eval v)∨(Region.wanted o (yielded ops a.tmps)=false∧v=undef))∧QWg ops Y K rest (a.put o.dst v):=by
   unfold QWg at h
   by_cases hw:Region.wanted o (yielded ops a.tmps)=true
   ·rw[if_pos hw]at h
    obtain⟨v,h1,h2⟩:=h
    exact⟨v,.inl ⟨hw,h1⟩,h2⟩
   ·rw[if_neg hw]at h
    exact⟨undef,.inr ⟨by simpa using hw,O⟩,h⟩
  obtain⟨v,hv,hq⟩:=key
  obtain⟨vals,acts,h0,h1,h2,h3⟩:=qwg_vals rest (i0+1) _ hl' hq
  refine⟨fun|0=>v|j+1=>vals j,fun|0=>a|j+1=>acts j,O,?_,?_,h3⟩
  ·intro j
   cases j with
   | zero=>show acts 0=a.put (fv ops (i0+0)) v;rw[h0,Nat.add_zero,hdst]
   | succ j=>show acts (j+1)=(acts j).put (fv ops (i0+(j+1))) (vals j);rw[h1 j];simp[Nat.add_assoc,Nat.add_comm 1 j]
  ·intro j o' hj ho'
   cases j with
   | zero =>
    have:o'=o:=by rw[Nat.add_zero,ho]at ho';cases ho';rfl
    subst this
    exact hv
   | succ j=>exact h2 j o' (by simpa using hj) (by simpa [Nat.add_assoc,Nat.add_comm 1 j]using ho')
end
section
variable {r : Option Nat} {n : Nat} {P : Program} {ops : Array Oper} {Q : Exit → Act → World → Prop} {w0 : World} {L : List Res} {m : Nat} {tm : Nat → Value} {d : List Deferred}
variable {t : Tmp} {ty : TypeId} {pos : String} {af : Array Edge} {g : Option (Nat × Bool)} {l rest : List Oper}
end
open Go.RowKit (Below)
section
variable {r : Option Nat} {n : Nat} {P : Program} {ops : Array Oper} {Q : Exit → Act → World → Prop}
def capQ (w0:World) (L:List Res) (a:Act) (dst:Option Tmp) (G:Value→List Res→Prop):Exit→Act→World→Prop:=fun e a' W =>
 e=.normal∧∃v L1,a'=a.put dst v∧G v L1∧Ext w0 W (L++L1)
def QWq (r:Option Nat) (n:Nat) (P:Program) (ops:Array Oper) (w0:World) (L:List Res) (G:Value→List Res→Prop) (K:Act→Prop):Nat→List Oper→Act→Prop
 | _,[],a=>K a
 | 0,o::rest,a=>Region.wanted o (yielded ops a.tmps)=true∧(∀W,Ext w0 W L→o.wpIn (Fw r) n P a W (fun a' W'=>capQ w0 L a o.dst G .normal a' W') (capQ w0 L a o.dst G))∧QWg ops (fun o ρ v=>∀L2,OpY r n P o ρ (fun W=>Ext w0 W (L++L2)) (fun W=>Ext w0 W (L++L2)) v) K rest (a.put o.dst undef)
 | q+1,o::rest,a=>if Region.wanted o (yielded ops a.tmps)then ∃v,(∀L2,OpY r n P o a.eval (fun W=>Ext w0 W (L++L2)) (fun W=>Ext w0 W (L++L2)) v)∧QWq r n P ops w0 L G K q rest (a.put o.dst v)else QWq r n P ops w0 L G K q rest (a.put o.dst undef)
theorem qwq_vals {w0:World} {L:List Res} {G:Value→List Res→Prop} {K:Act→Prop}:∀(q:Nat) (l:List Oper) (i0:Nat) (a:Act),q<l.length→(∀j,j<l.length→l[j]? = ops[i0+j]?)→QWq r n P ops w0 L G K q l a →
  ∃(vals:Nat→Value) (acts:Nat→Act),acts 0=a∧(∀j,acts (j+1)=(acts j).put (fv ops (i0+j)) (vals j))∧vals q=undef ∧
   (∀o,ops[i0+q]? = some o→Region.wanted o (yielded ops (acts q).tmps)=true∧∀W,Ext w0 W L→o.wpIn (Fw r) n P (acts q) W (fun a' W'=>capQ w0 L (acts q) o.dst G .normal a' W') (capQ w0 L (acts q) o.dst G)) ∧
   (∀j o,j<l.length→j≠q→ops[i0+j]? = some o→(Region.wanted o (yielded ops (acts j).tmps)=true∧∀L2,OpY r n P o (acts j).eval (fun W=>Ext w0 W (L++L2)) (fun W=>Ext w0 W (L++L2)) (vals j))∨(Region.wanted o (yielded ops (acts j).tmps)=false∧vals j=undef)) ∧
   K (acts l.length):=by
 intro q
 induction q with
 | zero =>
  intro l i0 a hq hl h
  cases l with
  | nil=>simp at hq
  | cons o rest =>
   obtain⟨hw,hop,hrest⟩:=h
   have ho:ops[i0]? = some o:=by simpa using(hl 0 (by simp)).symm
   have hdst:fv ops i0=o.dst:=by simp[fv,ho]
   obtain⟨vals,acts,h0,h1,h2,h3⟩:=qwg_vals rest (i0+1) _ (fun j hj=>by
    have:=hl (j+1) (by simp;omega)
    simpa [Nat.add_assoc,Nat.add_comm 1 j]using this) hrest
   refine⟨fun|0=>undef|j+1=>vals j,fun|0=>a|j+1=>acts j,O,?_,O,?_,?_,h3⟩
   ·intro j
    cases j with
    | zero=>show acts 0=a.put (fv ops (i0+0)) undef;rw[h0,Nat.add_zero,hdst]
    | succ j=>show acts (j+1)=(acts j).put (fv ops (i0+(j+1))) (vals j);rw[h1 j];simp[Nat.add_assoc,Nat.add_comm 1 j]
   ·intro o' ho'
    rw[Nat.add_zero,ho]at ho';cases ho'
    exact⟨hw,hop⟩
   ·intro j o' hj hne ho'
    cases j with
    | zero=>exact absurd O hne
    | succ j=>exact h2 j o' (by simpa using hj) (by simpa [Nat.add_assoc,Nat.add_comm 1 j]using ho')
 | succ q ih =>
  intro l i0 a hq hl h
  cases l with
  | nil=>simp at hq
  | cons o rest =>
   have ho:ops[i0]? = some o:=by simpa using(hl 0 (by simp)).symm
   have hdst:fv ops i0=o.dst:=by simp[fv,ho]
   have hl':∀j,j<rest.length→rest[j]? = ops[i0+1+j]?:=fun j hj=>by
    have:=hl (j+1) (by simp;omega)
    simpa [Nat.add_assoc,Nat.add_comm 1 j]using this
   have key:∃v,((Region.wanted o (yielded ops a.tmps)=true∧∀L2,OpY r n P o a.eval (fun W=>Ext w0 W (L++L2)) (fun W=>Ext w0 W (L++L2)) v)∨(Region.wanted o (yielded ops a.tmps)=false∧v=undef))∧QWq r n P ops w0 L G K q rest (a.put o.dst v):=by
    unfold QWq at h
    by_cases hw:Region.wanted o (yielded ops a.tmps)=true
    ·rw[if_pos hw]at h
     obtain⟨v,h1,h2⟩:=h
     exact⟨v,.inl ⟨hw,h1⟩,h2⟩
    ·rw[if_neg hw]at h
     exact⟨undef,.inr ⟨by simpa using hw,O⟩,h⟩
   obtain⟨v,hv,hqq⟩:=key
   obtain⟨vals,acts,h0,h1,hu,hop,h2,h3⟩:=ih rest (i0+1) _ (by simpa using hq) hl' hqq
   refine⟨fun|0=>v|j+1=>vals j,fun|0=>a|j+1=>acts j,O,?_,hu,?_,?_,h3⟩
   ·intro j
    cases j with
    | zero=>show acts 0=a.put (fv ops (i0+0)) v;rw[h0,Nat.add_zero,hdst]
    | succ j=>show acts (j+1)=(acts j).put (fv ops (i0+(j+1))) (vals j);rw[h1 j];simp[Nat.add_assoc,Nat.add_comm 1 j]
   ·intro o' ho'
    exact hop o' (by simpa [Nat.add_assoc,Nat.add_comm 1 q]using ho')
   ·intro j o' hj hne ho'
    cases j with
    | zero =>
     have:o'=o:=by rw[Nat.add_zero,ho]at ho';cases ho';rfl
     subst this
     exact hv
    | succ j=>exact h2 j o' (by simpa using hj) (fun e=>hne (by omega)) (by simpa [Nat.add_assoc,Nat.add_comm 1 j]using ho')
theorem put_put (a:Act) (d:Option Tmp) (u v:Value):(a.put d u).put d v=a.put d v:=by
 cases d with
 | none=>rfl
 | some i =>
  show(⟨(a.tmps.setIfInBounds i u).setIfInBounds i v,a.defers⟩:Act)=⟨a.tmps.setIfInBounds i v,a.defers⟩
  congr 1
  apply Array.ext_getElem?
  intro j
  simp only[Array.getElem?_setIfInBounds]
  by_cases e:i=j <;> simp[e]
theorem put_size (a:Act) (d:Option Tmp) (v:Value):(a.put d v).tmps.size=a.tmps.size:=by
 cases d with
 | none=>rfl
 | some i=>simp[Act.put]
theorem m5 (vals:Nat→Value) (a0:Act) (S:Nat→Bool):∀m,(stA ops vals a0 S m).tmps.size=a0.tmps.size
 | 0=>rfl
 | m+1=>by
  unfold stA
  split
  ·rw[put_size,m5 vals a0 S m]
  ·exact m5 vals a0 S m
theorem mT (vals:Nat→Value) (a0:Act) (S:Nat→Bool):∀m,(stA ops vals a0 S m).defers=a0.defers
 | 0=>rfl
 | m+1=>by
  unfold stA
  split
  ·rw[km,mT vals a0 S m]
  ·exact mT vals a0 S m
theorem put_same {a b:Act} {d:Option Tmp} {u v:Value} (hs:a.tmps.size=b.tmps.size) (h:a.put d u=a.put d v):b.put d u=b.put d v:=by
 cases d with
 | none=>rfl
 | some i =>
  have h1:a.tmps.setIfInBounds i u=a.tmps.setIfInBounds i v:=congrArg Act.tmps h
  show(⟨b.tmps.setIfInBounds i u,b.defers⟩:Act)=⟨b.tmps.setIfInBounds i v,b.defers⟩
  congr 1
  apply Array.ext_getElem?
  intro j
  have h2:=congrArg (fun t=>t[j]?) h1
  simp only[Array.getElem?_setIfInBounds]at h2 ⊢
  by_cases e:i=j
  ·subst e
   by_cases hl:i<b.tmps.size
   ·simp[hl,hs]at h2 ⊢
    exact h2
   ·simp[hl]
  ·simp[e]
theorem se {o:Oper} {a b:Act} {W w0:World} {L:List Res} {G:Value→List Res→Prop} {K:Act→World→Prop} (hs:∀cs x,o.op ≠ .select cs x) (hd:∀c,o.op ≠ .defer c) (hev:∀x∈o.op.operands,a.eval x=b.eval x) (hsz:a.tmps.size=b.tmps.size) (_hdf:a.defers=b.defers)
  (h:o.wpIn (Fw r) n P a W (fun a' W'=>capQ w0 L a o.dst G .normal a' W') (capQ w0 L a o.dst G)) (hK:∀v L1 W',G v L1→Ext w0 W' (L++L1)→K (b.put o.dst v) W'):o.wpIn (Fw r) n P b W K (ms Q):=by
 refine⟨fun _ _=>by cases r <;> trivial,?_⟩
 have h2:=h.2
 have e:o.semAt r b.eval=o.semAt r a.eval:=by
  have e1:execOp b.eval o=execOp a.eval o:=execOp_congr o hs (fun x hx=>(hev x hx).symm)
  cases r with
  | none=>rw[Oper.semAt_none,Oper.semAt_none,e1]
  | some l=>rw[Oper.semAt_some l _ o hd,Oper.semAt_some l _ o hd,e1]
 have e0:(Fw r).round=r:=by cases r <;> rfl
 rw[e0]at h2 ⊢
 rw[e]
 have key:∀u W',capQ w0 L a o.dst G .normal (a.put o.dst u) W'→K (b.put o.dst u) W':=fun u W' hc=>by
  obtain⟨_,v,L1,hv,hG,hE⟩:=hc
  rw[put_same hsz hv]
  exact hK v L1 W' hG hE
 generalize (o.semAt r a.eval).run P W=res at h2 ⊢
 match res,h2 with
 | .ok (.value u) W',h2=>exact key u W' h2
 | .ok .skip W',h2=>exact key undef W' h2
 | .ok (.defer d') W',h2 =>
  obtain⟨_,v,L1,hv,_,_⟩:=h2
  have h9:=congrArg Act.defers hv
  rw[km,km]at h9
  exact absurd h9 (by simp)
 | .ok (.enter f args) W',h2 =>
  refine⟨h2.1,h2.2.mono ?_⟩
  rintro(_|_|_) w hw
  ·exact key _ _ hw
  ·exact absurd hw.1 (by intro h;cases h)
  ·obtain⟨a9,w9,h9⟩:=hw
   exact absurd h9.1 (by intro h;cases h)
 | .ok (.row row args) W',h2 =>
  refine⟨h2.1,?_⟩
  exact RowsIn.mono h2.2 (fun u w hw=>key u w hw)
 | .ok (.round l f tmps assign body) W',h2 =>
  refine⟨h2.1,h2.2.mono ?_⟩
  rintro(_|_|_) w hw
  ·exact key _ _ hw
  ·exact absurd hw.1 (by intro h;cases h)
  ·obtain⟨a9,w9,h9⟩:=hw
   exact absurd h9.1 (by intro h;cases h)
 | .halt (.panic u) W',h2=>exact absurd h2.1 (by intro h;cases h)
def floatB (ops:Array Oper) (q k:Nat):Bool:=decide (q<k)&&(List.range k).all fun j=>decide (j≤q)||(match ops[q]?,ops[j]? with
 | some oq,some oj=>oq.apart ops oj
 | _,_=>false)
theorem wp_drawsQ {l:List Oper} (q k:Nat) (G:Value→List Res→Prop) (hm:P.follows .mixedOrders=true) (hO:ll l.toArray=true) (hT:tailB l.toArray k=true) (hF:floatB l.toArray q k=true) {id:Nat} {a0:Act} {W0 w0:World} {L:List Res}
  (h0:Ext w0 { W0 with drawn:=W0.drawn+1 } L)
  (hq:QWq r n P l.toArray w0 L G (fun a'=>∀v L1 W,G v L1→Ext w0 W (L++L1)→OL r n P l.toArray (ms Q) (l.drop k) (a'.put ((l[q]?).bind (·.dst)) v) W) q (l.take k) a0):(Code.region id l.toArray true).wpIn (Fw r) n P Q a0 W0:=by
 refine wpIn_mono (Q:=ms Q) ?_ (fun e a w h=>by obtain⟨rfl,h⟩:=h;exact h)
 refine wpIn_region_any hm ?_
 obtain⟨ops,hops⟩:∃ops,ops=l.toArray:=⟨_,O⟩
 rw[←hops]at hO hT hF hq ⊢
 unfold tailB at hT
 simp only[Bool.and_eq_true,Bool.or_eq_true,decide_eq_true_eq]at hT
 obtain⟨hkN,hT⟩:=hT
 unfold floatB at hF
 simp only[Bool.and_eq_true,decide_eq_true_eq]at hF
 obtain⟨hqk,hF⟩:=hF
 have hqN:q<ops.size:=by omega
 obtain⟨oq,hoq⟩:∃o,ops[q]? = some o:=⟨_,Array.getElem?_eq_some_iff.2 ⟨hqN,O⟩⟩
 have hfar:∀j oj,q<j→j<k→ops[j]? = some oj→oq.apart ops oj=true:=fun j oj h1 h2 hoj=>by
  have:=List.all_eq_true.1 hF j (List.mem_range.2 h2)
  simp only[Bool.or_eq_true,decide_eq_true_eq,hoq,hoj]at this
  rcases this with h|h
  ·omega
  ·exact h
 have hlen:(l.take k).length=k:=by rw[hops]at hkN;simp at hkN;simp;omega
 obtain⟨vals,acts,ha0,hacts,hvq,hopq,hvals,hK⟩:=qwq_vals q (l.take k) 0 a0 (by rw[hlen];exact hqk) (fun j hj=>by
  rw[hlen]at hj
  rw[hops];simp[hj]) hq
 rw[hlen]at hvals hK
 simp only[Nat.zero_add]at hacts hvals hopq
 have hlq:(l[q]?).bind (·.dst)=oq.dst:=by
  rw[hops]at hoq
  have:l[q]? = some oq:=by simpa using hoq
  rw[this];rfl
 rw[hlq]at hK
 have hst:∀m,acts m=stA ops vals a0 (fun _=>true) m:=by
  intro m
  induction m with
  | zero=>exact ha0
  | succ m ih=>rw[hacts m,ih];simp[stA]
 have hdq:fv ops q=oq.dst:=by simp[fv,hoq]
 have hfr0:k=ops.size∨(List.range k).all (fun i=>[q].contains i||(List.range (k+1)).any fun j=>decide (i<j)&&tailB.Region.waitsB ops j i)=true∧((List.range ops.size).all fun t=>decide (t≤k)||tailB.Region.waitsB ops t (t-1))=true:=by
  rcases hT with h|h
  ·exact .inl h
  ·refine .inr ⟨?_,h.2⟩
   rw[List.all_eq_true]at *
   intro i hi
   rw[h.1 i hi,Bool.or_true]
 have hfr1:k=ops.size∨(List.range k).all (fun i=>([]:List Nat).contains i||(List.range (k+1)).any fun j=>decide (i<j)&&tailB.Region.waitsB ops j i)=true∧((List.range ops.size).all fun t=>decide (t≤k)||tailB.Region.waitsB ops t (t-1))=true:=by
  rcases hT with h|h
  ·exact .inl h
  ·refine .inr ⟨?_,h.2⟩
   rw[List.all_eq_true]at *
   intro i hi
   rw[h.1 i hi,Bool.or_true]
 have hsink:=sink (fr:=[]) hkN hfr1
 have main:∀(c:Nat) (listed:Array Bool) (W:World),Ext w0 W L→listed.size=ops.size→left listed k=c+1→listed.getD q false=false →
   (∀j oj,ops[j]? = some oj→listed.getD j false=true→∀e∈oj.after,Region.binds .any e=true→listed.getD e.on false=true) →
   (∀t,k≤t→t<ops.size→listed.getD t false=false) →
   wpAnyIn (Fw r) n P .any ops (ms Q) (c+1+(ops.size-k)) listed (stA ops vals a0 (fun j=>listed.getD j false) k) W:=by
  intro c
  induction c using Nat.strongRecOn with
  | _ c ih =>
  intro listed W hC hsz hc hunq hcl htl
  rw[show c+1+(ops.size-k)=(c+(ops.size-k))+1 by omega]
  have hrdy:∀j,j<ops.size→listed.getD j false=false→∃i,i∈Region.ready .any ops listed:=by
   intro j
   induction j using Nat.strongRecOn with
   | _ j ihj =>
    intro hj hun
    obtain⟨o,ho⟩:∃o,ops[j]? = some o:=⟨_,Array.getElem?_eq_some_iff.2 ⟨hj,O⟩⟩
    by_cases hall:∀e∈o.after,Region.binds .any e=true→listed.getD e.on false=true
    ·exact⟨j,mem_ready.2 ⟨by rw[dN (by omega) true false];exact hun,o,ho,hall⟩⟩
    ·have:∃e∈o.after,Region.binds .any e=true∧listed.getD e.on false=false:=by
      apply Classical.byContradiction
      intro hno
      exact hall fun e he hb=>by
       cases hl:listed.getD e.on false with
       | true=>rfl
       | false=>exact absurd ⟨e,he,hb,hl⟩ hno
     obtain⟨e,he,hb,hf⟩:=this
     have hlt:=(aW hO ho).2.2.1 e he hb
     exact ihj e.on hlt (by omega) hf
  obtain⟨i1,hi1⟩:=hrdy q hqN hunq
  refine⟨fun h=>(by rw[h]at hi1;cases hi1),fun i hi=>?_⟩
  obtain⟨hun,o,ho,hall⟩:=mem_ready.1 hi
  have hiN:i<ops.size:=(Array.getElem?_eq_some_iff.1 ho).1
  have hun':=hun
  rw[dN (by omega) true false]at hun'
  have hik:i<k:=by
   rcases Nat.lt_or_ge i k with h|h
   ·exact h
   ·exact absurd hi (hsink listed hsz hcl htl (fun i hi=>absurd hi List.not_mem_nil) _ q O hqk hunq i h)
  have hl:=mW (by omega) hun' k hik
  have hcl':∀j oj,ops[j]? = some oj→(listed.setIfInBounds i true).getD j false=true→∀e∈oj.after,Region.binds .any e=true→(listed.setIfInBounds i true).getD e.on false=true:=fun j oj hoj hlj e he hb=>by
   rw[cA (by omega)]at hlj ⊢
   by_cases e':j=i
   ·subst e'
    rw[ho]at hoj;cases hoj
    rw[hall e he hb];rfl
   ·have:(j==i)=false:=by simpa using e'
    rw[this,Bool.or_false]at hlj
    rw[hcl j oj hoj hlj e he hb];rfl
  have htl':∀t,k≤t→t<ops.size→(listed.setIfInBounds i true).getD t false=false:=fun t h1 h2=>by
   rw[cA (by omega),htl t h1 h2]
   simp;omega
  by_cases hiq:i=q
  ·subst hiq
   rw[hoq]at ho;cases ho
   obtain⟨hwq,hwp⟩:=hopq oq hoq
   -- the frame as in the text's order
   have hlook:∀j,j<k→(listed.getD j false)≠decide (j<i)→∀d,fv ops j=some d→¬d∈oq.looksAt ops:=by
    intro j hj hne d hd hmem
    obtain⟨oj,hoj⟩:∃oj,ops[j]? = some oj:=⟨_,Array.getElem?_eq_some_iff.2 ⟨by omega,O⟩⟩
    have hdj:oj.dst=some d:=by simpa [fv,hoj]using hd
    rcases Nat.lt_trichotomy j i with h|h|h
    ·have hl:listed.getD j false=false:=by
      cases hl:listed.getD j false with
      | false=>rfl
      | true=>exact absurd (by rw[hl];simp[h]) hne
     rcases (aW hO hoq).2.2.2 j oj h hoj with hap|⟨e,he,hb,hon⟩
     ·exact(Oper.apart_spec hap).1 d hdj hmem
     ·have:=hall e he hb
      rw[hon,hl]at this;cases this
    ·subst h
     exact absurd (by rw[hun'];simp) hne
    ·exact(Oper.apart_spec (hfar j oj h hj hoj)).2.2 d hdj hmem
   have hag:=k7 (ops:=ops) vals a0 (fun x=>x∈oq.looksAt ops) (fun j=>listed.getD j false) (fun j=>decide (j<i)) k hlook
   have hlex:stA ops vals a0 (fun j=>decide (j<i)) k=acts i:=by
    rw[hst i]
    have h1:∀m,m≤i→stA ops vals a0 (fun j=>decide (j<i)) m=stA ops vals a0 (fun _=>true) m:=by
     intro m
     induction m with
     | zero=>intro _;rfl
     | succ m ih=>intro hm;simp only[stA];rw[ih (by omega)];simp;omega
    have h2:∀m,i≤m→stA ops vals a0 (fun j=>decide (j<i)) m=stA ops vals a0 (fun j=>decide (j<i)) i:=by
     intro m
     induction m with
     | zero =>
      intro h
      have:i=0:=by omega
      subst this;rfl
     | succ m ih =>
      intro hm
      by_cases e:i=m+1
      ·rw[e]
      ·simp only[stA]
       rw[if_neg (by simp;omega)]
       exact ih (by omega)
    rw[h2 k (by omega),h1 i (Nat.le_refl _)]
   rw[hlex]at hag
   obtain⟨hev,hwa⟩:=g8 (ops:=ops) (o:=oq) (a:=stA ops vals a0 (fun j=>listed.getD j false) k) (b:=acts i) hag.1
   obtain⟨hsel,hdef,_,_⟩:=aW hO hoq
   unfold wpOpIn
   simp only[hoq]
   rw[hwa,if_pos hwq]
   refine se (a:=acts i) hsel hdef (fun x hx=>(hev x hx).symm) (by rw[hst i,m5,m5]) (by rw[hst i,mT,mT]) (hwp W hC) ?_
   intro v L1 W' hG hE
   -- behind it
   have hvb:∀m,stA ops (fun j=>if j=i then v else vals j) a0 (fun _=>true) m=if m≤i then acts m else stA ops (fun j=>if j=i then v else vals j) a0 (fun _=>true) m:=by
    intro m
    split
    ·rename_i hm
     induction m with
     | zero=>exact ha0.symm
     | succ m ihm=>rw[hacts m,←ihm (by omega)];simp[stA];rw[if_neg (by omega)]
    ·rfl
   have hfin2:∀m,i<m→m≤k→stA ops (fun j=>if j=i then v else vals j) a0 (fun _=>true) m=(acts m).put oq.dst v:=by
    intro m
    induction m with
    | zero=>intro h;omega
    | succ m ihm =>
     intro h1 h2
     by_cases e:m=i
     ·subst e
      have:=hvb m
      rw[if_pos (Nat.le_refl _)]at this
      simp only[stA,if_true]
      rw[this,hdq,hacts m,hdq,hvq]
      exact(put_put _ _ _ _).symm
     ·have:=ihm (by omega) (by omega)
      simp only[stA,if_true]
      rw[this,if_neg e,hacts m]
      refine Act.put_comm _ _ _ (fun d hd hd'=>?_)
      obtain⟨om,hom⟩:∃om,ops[m]? = some om:=⟨_,Array.getElem?_eq_some_iff.2 ⟨by omega,O⟩⟩
      have hdm:om.dst=some d:=by simpa [fv,hom]using hd'
      exact(Oper.apart_spec (hfar m om (by omega) (by omega) hom)).2.1 d hd hdm
   have hvl:∀m,m≤k→stA ops (fun j=>if j=i then v else vals j) a0 (fun j=>(listed.setIfInBounds i true).getD j false) m=if m≤i then stA ops vals a0 (fun j=>listed.getD j false) m else(stA ops vals a0 (fun j=>listed.getD j false) m).put oq.dst v:=by
    intro m
    induction m with
    | zero=>intro _;simp;rfl
    | succ m ihm =>
     intro hm
     simp only[stA]
     rw[ihm (by omega),cA (by omega)]
     rcases Nat.lt_trichotomy m i with h|h|h
     ·rw[if_pos (show m≤i by omega),if_pos (show m+1≤i by omega),if_neg (show ¬m=i by omega)]
      have:(m==i)=false:=by simp;omega
      rw[this,Bool.or_false]
     ·subst h
      rw[if_pos (Nat.le_refl m),if_neg (show ¬(m+1≤m) by omega)]
      simp[hun',hdq]
     ·rw[if_neg (show ¬m≤i by omega),if_neg (show ¬m+1≤i by omega),if_neg (show ¬m=i by omega)]
      have:(m==i)=false:=by simp;omega
      rw[this,Bool.or_false]
      split
      ·refine Act.put_comm _ _ _ (fun d hd hd'=>?_)
       obtain⟨om,hom⟩:∃om,ops[m]? = some om:=⟨_,Array.getElem?_eq_some_iff.2 ⟨by omega,O⟩⟩
       have hdm:om.dst=some d:=by simpa [fv,hom]using hd'
       exact(Oper.apart_spec (hfar m om (by omega) (by omega) hom)).2.1 d hd hdm
      ·rfl
   have hli:(listed.setIfInBounds i true).getD i false=true:=by rw[cA (by omega)];simp
   have:=sj (r:=r) (n:=n) (P:=P) (Q:=Q) hops [i] (k:=k) hO hkN hfr0 (a0:=a0) (vals:=fun j=>if j=i then v else vals j)
    (acts:=stA ops (fun j=>if j=i then v else vals j) a0 (fun _=>true)) (C:=fun W=>Ext w0 W (L++L1)) (fun _=>O)
    (fun j o hj hne ho=>by
     have hji:j≠i:=fun h=>hne (by simp[h])
     simp only[if_neg hji]
     rcases Nat.lt_or_ge i j with h|h
     ·rw[hfin2 j h (by omega)]
      have hsame:=g8 (ops:=ops) (o:=o) (a:=acts j) (b:=(acts j).put oq.dst v) (fun y hy=>(rE (acts j) oq.dst _ y (fun hc=>(Oper.apart_spec (hfar j o h hj ho)).1 y hc hy)).symm)
      obtain⟨hsel,hdef,_,_⟩:=aW hO ho
      rw[←hsame.2]
      rcases hvals j o hj hji ho with⟨h1,h2⟩|h1
      ·exact .inl ⟨h1,mP hsel hdef (fun x hx=>hsame.1 x hx) (h2 L1)⟩
      ·exact .inr h1
     ·have:=hvb j
      rw[if_pos h]at this
      rw[this]
      rcases hvals j o hj hji ho with⟨h1,h2⟩|h1
      ·exact .inl ⟨h1,h2 L1⟩
      ·exact .inr h1)
    (fun W' hW'=>by
     rw[hfin2 k hqk (Nat.le_refl _)]
     exact hK v L1 W' hG hW')
    c (listed.setIfInBounds i true) W' hE (by simpa using hsz) (by omega) hcl' htl' (fun j hj=>by rw[List.mem_singleton.1 hj];exact hli)
   rw[hvl k (Nat.le_refl _),if_neg (by omega)]at this
   exact this
  ·have hlq:(listed.setIfInBounds i true).getD q false=false:=by
    rw[cA (by omega),hunq]
    simp;omega
   obtain⟨c',rfl⟩:∃c',c=c'+1:=by
    have:left (listed.setIfInBounds i true) k≠0:=fun h0=>by
     have:=my h0 q hqk
     rw[hlq]at this;cases this
    exact⟨c-1,by omega⟩
   refine rn (r:=r) (C:=fun W=>Ext w0 W L) hO hkN hst hC hsz hcl hik hun ho hall ?_ (fun W' hC'=>?_)
   ·rcases hvals i o hik hiq ho with⟨h1,h2⟩|h1
    ·refine .inl ⟨h1,?_⟩
     have:=h2 []
     rw[List.append_nil]at this
     exact this
    ·exact .inr h1
   ·exact ih c' (by omega) (listed.setIfInBounds i true) W' hC' (by simpa using hsz) (by omega) hlq hcl' htl'
 have e1:left (Array.replicate ops.size false) k=k:=by
  unfold left
  rw[List.filter_eq_self.2 fun j hj=>?_]
  ·simp
  ·have:=List.mem_range.1 hj
   simp[show j<ops.size by omega]
 have hfin:=main (k-1) (Array.replicate ops.size false) _ h0 (by simp) (by rw[e1];omega) (by simp[hqN]) (fun j oj hoj hl=>by
  have:j<ops.size:=(Array.getElem?_eq_some_iff.1 hoj).1
  simp[this]at hl) (fun t _ h=>by simp[h])
 have e2:stA ops vals a0 (fun j=>(Array.replicate ops.size false).getD j false) k=a0:=by
  have:∀m,m≤k→stA ops vals a0 (fun j=>(Array.replicate ops.size false).getD j false) m=a0:=by
   intro m
   induction m with
   | zero=>intro _;rfl
   | succ m ih=>intro hm;simp only[stA];rw[ih (by omega)];simp[show m<ops.size by omega]
  exact this k (Nat.le_refl _)
 rw[show k-1+1+(ops.size-k)=ops.size by omega,e2]at hfin
 exact hfin
end
section
variable {r : Option Nat} {n : Nat} {P : Program} {ops : Array Oper} {Q : Exit → Act → World → Prop} {w0 : World} {L : List Res} {m : Nat} {tm : Nat → Value} {d : List Deferred}
variable {t : Tmp} {ty : TypeId} {pos : String} {af : Array Edge} {g : Option (Nat × Bool)} {l rest : List Oper} {G : Value → List Res → Prop} {q k : Nat} {all : List Oper}
def BX (r:Option Nat) (n:Nat) (P:Program) (ops:Array Oper) (Q:Exit→Act→World→Prop) (w0:World) (L:List Res) (G:Value→List Res→Prop) (q k:Nat) (all:List Oper) (i:Nat) (l:List Oper) (m:Nat) (tm:Nat→Value) (d:List Deferred):Prop :=
 QWq r n P ops w0 L G (fun a'=>∀v L1 W,G v L1→Ext w0 W (L++L1)→OL r n P ops (ms Q) (all.drop k) (a'.put ((all[q]?).bind (·.dst)) v) W) i l (act m tm d)
def KX (r:Option Nat) (n:Nat) (P:Program) (ops:Array Oper) (Q:Exit→Act→World→Prop) (w0:World) (L:List Res) (G:Value→List Res→Prop) (q k:Nat) (all:List Oper) (l:List Oper) (m:Nat) (tm:Nat→Value) (d:List Deferred):Prop :=
 QWg ops (fun o ρ v=>∀L2,OpY r n P o ρ (fun W=>Ext w0 W (L++L2)) (fun W=>Ext w0 W (L++L2)) v) (fun a'=>∀v L1 W,G v L1→Ext w0 W (L++L1)→OL r n P ops (ms Q) (all.drop k) (a'.put ((all[q]?).bind (·.dst)) v) W) l (act m tm d)
theorem ov (q k:Nat) (G:Value→List Res→Prop) {id:Nat} {l:List Oper} (hm:P.follows .mixedOrders=true) (hO:ll l.toArray=true) (hT:tailB l.toArray k=true) (hF:floatB l.toArray q k=true)
  (h:BX r n P l.toArray Q w0 L G q k l q (l.take k) m tm d):CX r n P (.region id l.toArray true) Q w0 L m tm d :=
 fun _ hW=>wp_drawsQ q k G hm hO hT hF hW.drawn h
theorem rB {i:Nat} {op:Op} {v:Value} (hw:eE ops m tm ⟨some t,op,ty,pos,af,g⟩=true) (hy:∀L2,OpY r n P ⟨some t,op,ty,pos,af,g⟩ (opv m tm) (fun W=>Ext w0 W (L++L2)) (fun W=>Ext w0 W (L++L2)) v)
  (h:BX r n P ops Q w0 L G q k all i rest m (upd tm t v) d):BX r n P ops Q w0 L G q k all (i+1) (⟨some t,op,ty,pos,af,g⟩::rest) m tm d:=by
 unfold BX QWq
 rw[bu,if_pos hw,dG]
 refine⟨v,hy,?_⟩
 rw[dP]
 exact h
theorem sD {L1:List Res} {v:Value} (h:G v L1):EX (capQ w0 L (act m tm d) (some t) G) .normal w0 (L++L1) m (upd tm t v) d:=fun _W hW=>⟨O,v,L1,(dP m tm d (some t) v).symm,h,hW⟩
theorem bx_q {op:Op} (hw:eE ops m tm ⟨some t,op,ty,pos,af,g⟩=true) (hop:OX r n P ops (capQ w0 L (act m tm d) (some t) G) w0 L [⟨some t,op,ty,pos,af,g⟩] m tm d)
  (h:KX r n P ops Q w0 L G q k all rest m (upd tm t undef) d):BX r n P ops Q w0 L G q k all 0 (⟨some t,op,ty,pos,af,g⟩::rest) m tm d:=by
 unfold BX QWq
 refine⟨by rw[bu];exact hw,fun W hW=>?_,?_⟩
 ·have h1:=hop W hW
  unfold OL at h1
  rw[bu,if_pos hw]at h1
  exact Oper.wpIn_mono (fun a w h=>h) h1
 ·rw[dP]
  exact h
theorem kx_y {op:Op} {v:Value} (hw:eE ops m tm ⟨some t,op,ty,pos,af,g⟩=true) (hy:∀L2,OpY r n P ⟨some t,op,ty,pos,af,g⟩ (opv m tm) (fun W=>Ext w0 W (L++L2)) (fun W=>Ext w0 W (L++L2)) v)
  (h:KX r n P ops Q w0 L G q k all rest m (upd tm t v) d):KX r n P ops Q w0 L G q k all (⟨some t,op,ty,pos,af,g⟩::rest) m tm d:=by
 unfold KX QWg
 rw[bu,if_pos hw,dG]
 refine⟨v,hy,?_⟩
 rw[dP]
 exact h
theorem kx_nil (hd:(all[q]?).bind (·.dst)=some t) (h:∀v L1,G v L1→OX r n P ops (ms Q) w0 (L++L1) (all.drop k) m (upd tm t v) d):KX r n P ops Q w0 L G q k all [] m tm d:=by
 unfold KX QWg
 intro v L1 W hG hW
 rw[hd,dP]
 exact h v L1 hG W hW
end
section
variable {r : Option Nat} {n : Nat} {P : Program} {ops : Array Oper} {Q : Exit → Act → World → Prop}
def QWa (ops:Array Oper) (Y:Oper→Act→Value→Prop) (K:Act→Prop):List Oper→Act→Prop
 | [],a=>K a
 | o::rest,a=>if Region.wanted o (yielded ops a.tmps)then ∃v,Y o a v∧QWa ops Y K rest (a.put o.dst v)else QWa ops Y K rest (a.put o.dst undef)
theorem qwa_vals {Y:Oper→Act→Value→Prop} {K:Act→Prop}:∀(l:List Oper) (i0:Nat) (a:Act),(∀j,j<l.length→l[j]? = ops[i0+j]?)→QWa ops Y K l a →
  ∃(vals:Nat→Value) (acts:Nat→Act),acts 0=a∧(∀j,acts (j+1)=(acts j).put (fv ops (i0+j)) (vals j)) ∧
   (∀j o,j<l.length→ops[i0+j]? = some o→(Region.wanted o (yielded ops (acts j).tmps)=true∧Y o (acts j) (vals j))∨(Region.wanted o (yielded ops (acts j).tmps)=false∧vals j=undef)) ∧
   K (acts l.length)
 | [],i0,a,_,h=>by
  have hK:K a:=h
  exact⟨fun _=>undef,fun j=>Nat.rec a (fun j b=>b.put (fv ops (i0+j)) undef) j,O,fun _=>O,(fun j o hj=>by simp at hj),hK⟩
 | o::rest,i0,a,hl,h=>by
  have ho:ops[i0]? = some o:=by simpa using(hl 0 (by simp)).symm
  have hl':∀j,j<rest.length→rest[j]? = ops[i0+1+j]?:=fun j hj=>by
   have:=hl (j+1) (by simp;omega)
   simpa [Nat.add_assoc,Nat.add_comm 1 j]using this
  have hdst:fv ops i0=o.dst:=by simp[fv,ho]
  have key:∃v,((Region.wanted o (yielded ops a.tmps)=true∧Y o a v)∨(Region.wanted o (yielded ops a.tmps)=false∧v=undef))∧QWa ops Y K rest (a.put o.dst v):=by
   unfold QWa at h
   by_cases hw:Region.wanted o (yielded ops a.tmps)=true
   ·rw[if_pos hw]at h
    obtain⟨v,h1,h2⟩:=h
    exact⟨v,.inl ⟨hw,h1⟩,h2⟩
   ·rw[if_neg hw]at h
    exact⟨undef,.inr ⟨by simpa using hw,O⟩,h⟩
  obtain⟨v,hv,hq⟩:=key
  obtain⟨vals,acts,h0,h1,h2,h3⟩:=qwa_vals rest (i0+1) _ hl' hq
  refine⟨fun|0=>v|j+1=>vals j,fun|0=>a|j+1=>acts j,O,?_,?_,h3⟩
  ·intro j
   cases j with
   | zero=>show acts 0=a.put (fv ops (i0+0)) v;rw[h0,Nat.add_zero,hdst]
   | succ j=>show acts (j+1)=(acts j).put (fv ops (i0+(j+1))) (vals j);rw[h1 j];simp[Nat.add_assoc,Nat.add_comm 1 j]
  ·intro j o' hj ho'
   cases j with
   | zero =>
    have:o'=o:=by rw[Nat.add_zero,ho]at ho';cases ho';rfl
    subst this
    exact hv
   | succ j=>exact h2 j o' (by simpa using hj) (by simpa [Nat.add_assoc,Nat.add_comm 1 j]using ho')
def QWd (r:Option Nat) (n:Nat) (P:Program) (ops:Array Oper) (w0:World) (L:List Res) (G:Value→List Res→Prop) (Y:Oper→Act→Value→Prop) (K:Act→Prop):Nat→List Oper→Act→Prop
 | _,[],a=>K a
 | 0,o::rest,a=>Region.wanted o (yielded ops a.tmps)=true∧(∀W,Ext w0 W L→o.wpIn (Fw r) n P a W (fun a' W'=>capQ w0 L a o.dst G .normal a' W') (capQ w0 L a o.dst G))∧QWa ops Y K rest (a.put o.dst undef)
 | q+1,o::rest,a=>if Region.wanted o (yielded ops a.tmps)then ∃v,(∀L2,OpY r n P o a.eval (fun W=>Ext w0 W (L++L2)) (fun W=>Ext w0 W (L++L2)) v)∧QWd r n P ops w0 L G Y K q rest (a.put o.dst v)else QWd r n P ops w0 L G Y K q rest (a.put o.dst undef)
theorem qwd_vals {w0:World} {L:List Res} {G:Value→List Res→Prop} {Y:Oper→Act→Value→Prop} {K:Act→Prop}:∀(q:Nat) (l:List Oper) (i0:Nat) (a:Act),q<l.length→(∀j,j<l.length→l[j]? = ops[i0+j]?)→QWd r n P ops w0 L G Y K q l a →
  ∃(vals:Nat→Value) (acts:Nat→Act),acts 0=a∧(∀j,acts (j+1)=(acts j).put (fv ops (i0+j)) (vals j))∧vals q=undef ∧
   (∀o,ops[i0+q]? = some o→Region.wanted o (yielded ops (acts q).tmps)=true∧∀W,Ext w0 W L→o.wpIn (Fw r) n P (acts q) W (fun a' W'=>capQ w0 L (acts q) o.dst G .normal a' W') (capQ w0 L (acts q) o.dst G)) ∧
   (∀j o,j<q→ops[i0+j]? = some o→(Region.wanted o (yielded ops (acts j).tmps)=true∧∀L2,OpY r n P o (acts j).eval (fun W=>Ext w0 W (L++L2)) (fun W=>Ext w0 W (L++L2)) (vals j))∨(Region.wanted o (yielded ops (acts j).tmps)=false∧vals j=undef)) ∧
   (∀j o,j<l.length→q<j→ops[i0+j]? = some o→(Region.wanted o (yielded ops (acts j).tmps)=true∧Y o (acts j) (vals j))∨(Region.wanted o (yielded ops (acts j).tmps)=false∧vals j=undef)) ∧
   K (acts l.length):=by
 intro q
 induction q with
 | zero =>
  intro l i0 a hq hl h
  cases l with
  | nil=>simp at hq
  | cons o rest =>
   obtain⟨hw,hop,hrest⟩:=h
   have ho:ops[i0]? = some o:=by simpa using(hl 0 (by simp)).symm
   have hdst:fv ops i0=o.dst:=by simp[fv,ho]
   obtain⟨vals,acts,h0,h1,h2,h3⟩:=qwa_vals rest (i0+1) _ (fun j hj=>by
    have:=hl (j+1) (by simp;omega)
    simpa [Nat.add_assoc,Nat.add_comm 1 j]using this) hrest
   refine⟨fun|0=>undef|j+1=>vals j,fun|0=>a|j+1=>acts j,O,?_,O,?_,(fun j _ hj=>absurd hj (Nat.not_lt_zero j)),?_,h3⟩
   ·intro j
    cases j with
    | zero=>show acts 0=a.put (fv ops (i0+0)) undef;rw[h0,Nat.add_zero,hdst]
    | succ j=>show acts (j+1)=(acts j).put (fv ops (i0+(j+1))) (vals j);rw[h1 j];simp[Nat.add_assoc,Nat.add_comm 1 j]
   ·intro o' ho'
    rw[Nat.add_zero,ho]at ho';cases ho'
    exact⟨hw,hop⟩
   ·intro j o' hj hne ho'
    cases j with
    | zero=>exact absurd hne (Nat.lt_irrefl 0)
    | succ j=>exact h2 j o' (by simpa using hj) (by simpa [Nat.add_assoc,Nat.add_comm 1 j]using ho')
 | succ q ih =>
  intro l i0 a hq hl h
  cases l with
  | nil=>simp at hq
  | cons o rest =>
   have ho:ops[i0]? = some o:=by simpa using(hl 0 (by simp)).symm
   have hdst:fv ops i0=o.dst:=by simp[fv,ho]
   have hl':∀j,j<rest.length→rest[j]? = ops[i0+1+j]?:=fun j hj=>by
    have:=hl (j+1) (by simp;omega)
    simpa [Nat.add_assoc,Nat.add_comm 1 j]using this
   have key:∃v,((Region.wanted o (yielded ops a.tmps)=true∧∀L2,OpY r n P o a.eval (fun W=>Ext w0 W (L++L2)) (fun W=>Ext w0 W (L++L2)) v)∨(Region.wanted o (yielded ops a.tmps)=false∧v=undef))∧QWd r n P ops w0 L G Y K q rest (a.put o.dst v):=by
    unfold QWd at h
    by_cases hw:Region.wanted o (yielded ops a.tmps)=true
    ·rw[if_pos hw]at h
     obtain⟨v,h1,h2⟩:=h
     exact⟨v,.inl ⟨hw,h1⟩,h2⟩
    ·rw[if_neg hw]at h
     exact⟨undef,.inr ⟨by simpa using hw,O⟩,h⟩
   obtain⟨v,hv,hqq⟩:=key
   obtain⟨vals,acts,h0,h1,hu,hop,h2,h2',h3⟩:=ih rest (i0+1) _ (by simpa using hq) hl' hqq
   refine⟨fun|0=>v|j+1=>vals j,fun|0=>a|j+1=>acts j,O,?_,hu,?_,?_,?_,h3⟩
   ·intro j
    cases j with
    | zero=>show acts 0=a.put (fv ops (i0+0)) v;rw[h0,Nat.add_zero,hdst]
    | succ j=>show acts (j+1)=(acts j).put (fv ops (i0+(j+1))) (vals j);rw[h1 j];simp[Nat.add_assoc,Nat.add_comm 1 j]
   ·intro o' ho'
    exact hop o' (by simpa [Nat.add_assoc,Nat.add_comm 1 q]using ho')
   ·intro j o' hj ho'
    cases j with
    | zero =>
     have:o'=o:=by rw[Nat.add_zero,ho]at ho';cases ho';rfl
     subst this
     exact hv
    | succ j=>exact h2 j o' (by omega) (by simpa [Nat.add_assoc,Nat.add_comm 1 j]using ho')
   ·intro j o' hj hne ho'
    cases j with
    | zero=>exact absurd hne (Nat.not_lt_zero _)
    | succ j=>exact h2' j o' (by simpa using hj) (by omega) (by simpa [Nat.add_assoc,Nat.add_comm 1 j]using ho')
def depB (_ops:Array Oper) (q:Nat) (o:Oper):Bool:=o.after.any fun e=>Region.binds .any e&&e.on==q
theorem sv {q:Nat} {o:Oper} (h:depB ops q o=true):∃e∈o.after,Region.binds .any e=true∧e.on=q:=by
 unfold depB at h
 rw[Array.any_eq_true]at h
 obtain⟨i,hi,he⟩:=h
 simp only[Bool.and_eq_true,beq_iff_eq]at he
 exact⟨o.after[i],Array.getElem_mem hi,he.1,he.2⟩
def obD (r:Option Nat) (n:Nat) (P:Program) (ops:Array Oper) (w0:World) (L:List Res) (G:Value→List Res→Prop) (q:Nat) (o:Oper) (a:Act) (v:Value):Prop :=
 (depB ops q o=false→∀L2,OpY r n P o a.eval (fun W=>Ext w0 W (L++L2)) (fun W=>Ext w0 W (L++L2)) v) ∧
 (depB ops q o=true→∀v1 L1,G v1 L1→OpY r n P o (a.put (fv ops q) v1).eval (fun W=>Ext w0 W (L++L1)) (fun W=>Ext w0 W (L++L1)) v)
def floatD (ops:Array Oper) (q k:Nat):Bool:=decide (q<k)&&(List.range k).all fun j=>decide (j≤q)||(match ops[q]?,ops[j]? with
 | some oq,some oj=>if depB ops q oj then oj.guard.isNone&&(match oq.dst,oj.dst with
  | some a,some b=>a !=b
  | _,_=>false)else oq.apart ops oj
 | _,_=>false)
theorem wp_drawsD {l:List Oper} (q k:Nat) (G:Value→List Res→Prop) (hm:P.follows .mixedOrders=true) (hO:ll l.toArray=true) (hT:tailB l.toArray k=true) (hF:floatD l.toArray q k=true) {id:Nat} {a0:Act} {W0 w0:World} {L:List Res}
  (h0:Ext w0 { W0 with drawn:=W0.drawn+1 } L)
  (hq:QWd r n P l.toArray w0 L G (obD r n P l.toArray w0 L G q) (fun a'=>∀v L1 W,G v L1→Ext w0 W (L++L1)→OL r n P l.toArray (ms Q) (l.drop k) (a'.put ((l[q]?).bind (·.dst)) v) W) q (l.take k) a0):(Code.region id l.toArray true).wpIn (Fw r) n P Q a0 W0:=by
 refine wpIn_mono (Q:=ms Q) ?_ (fun e a w h=>by obtain⟨rfl,h⟩:=h;exact h)
 refine wpIn_region_any hm ?_
 obtain⟨ops,hops⟩:∃ops,ops=l.toArray:=⟨_,O⟩
 rw[←hops]at hO hT hF hq ⊢
 unfold tailB at hT
 simp only[Bool.and_eq_true,Bool.or_eq_true,decide_eq_true_eq]at hT
 obtain⟨hkN,hT⟩:=hT
 unfold floatD at hF
 simp only[Bool.and_eq_true,decide_eq_true_eq]at hF
 obtain⟨hqk,hF⟩:=hF
 have hqN:q<ops.size:=by omega
 obtain⟨oq,hoq⟩:∃o,ops[q]? = some o:=⟨_,Array.getElem?_eq_some_iff.2 ⟨hqN,O⟩⟩
 have hfar0:∀j oj,q<j→j<k→ops[j]? = some oj→(depB ops q oj=true∧oj.guard=none∧∀d,oq.dst=some d→oj.dst=some d→False)∨(depB ops q oj=false∧oq.apart ops oj=true):=fun j oj h1 h2 hoj=>by
  have:=List.all_eq_true.1 hF j (List.mem_range.2 h2)
  simp only[Bool.or_eq_true,decide_eq_true_eq,hoq,hoj]at this
  rcases this with h|h
  ·omega
  ·by_cases hd:depB ops q oj=true
   ·rw[if_pos hd]at h
    simp only[Bool.and_eq_true,Option.isNone_iff_eq_none]at h
    refine .inl ⟨hd,h.1,fun d e1 e2=>?_⟩
    have:=h.2
    rw[e1,e2]at this
    simp at this
   ·rw[if_neg hd]at h
    exact .inr ⟨by simpa using hd,h⟩
 have hdd:∀j oj,q<j→j<k→ops[j]? = some oj→∀d,oq.dst=some d→oj.dst=some d→False:=fun j oj h1 h2 hoj d e1 e2=>by
  rcases hfar0 j oj h1 h2 hoj with h|h
  ·exact h.2.2 d e1 e2
  ·exact(Oper.apart_spec h.2).2.1 d e1 e2
 have hlen:(l.take k).length=k:=by rw[hops]at hkN;simp at hkN;simp;omega
 obtain⟨vals,acts,ha0,hacts,hvq,hopq,hvalsB,hvalsA,hK⟩:=qwd_vals q (l.take k) 0 a0 (by rw[hlen];exact hqk) (fun j hj=>by
  rw[hlen]at hj
  rw[hops];simp[hj]) hq
 rw[hlen]at hvalsA hK
 simp only[Nat.zero_add]at hacts hvalsB hvalsA hopq
 have hlq:(l[q]?).bind (·.dst)=oq.dst:=by
  rw[hops]at hoq
  have:l[q]? = some oq:=by simpa using hoq
  rw[this];rfl
 rw[hlq]at hK
 have hst:∀m,acts m=stA ops vals a0 (fun _=>true) m:=by
  intro m
  induction m with
  | zero=>exact ha0
  | succ m ih=>rw[hacts m,ih];simp[stA]
 have hdq:fv ops q=oq.dst:=by simp[fv,hoq]
 have hfr0:k=ops.size∨(List.range k).all (fun i=>[q].contains i||(List.range (k+1)).any fun j=>decide (i<j)&&tailB.Region.waitsB ops j i)=true∧((List.range ops.size).all fun t=>decide (t≤k)||tailB.Region.waitsB ops t (t-1))=true:=by
  rcases hT with h|h
  ·exact .inl h
  ·refine .inr ⟨?_,h.2⟩
   rw[List.all_eq_true]at *
   intro i hi
   rw[h.1 i hi,Bool.or_true]
 have hfr1:k=ops.size∨(List.range k).all (fun i=>([]:List Nat).contains i||(List.range (k+1)).any fun j=>decide (i<j)&&tailB.Region.waitsB ops j i)=true∧((List.range ops.size).all fun t=>decide (t≤k)||tailB.Region.waitsB ops t (t-1))=true:=by
  rcases hT with h|h
  ·exact .inl h
  ·refine .inr ⟨?_,h.2⟩
   rw[List.all_eq_true]at *
   intro i hi
   rw[h.1 i hi,Bool.or_true]
 have hsink:=sink (fr:=[]) hkN hfr1
 have main:∀(c:Nat) (listed:Array Bool) (W:World),Ext w0 W L→listed.size=ops.size→left listed k=c+1→listed.getD q false=false →
   (∀j oj,ops[j]? = some oj→listed.getD j false=true→∀e∈oj.after,Region.binds .any e=true→listed.getD e.on false=true) →
   (∀t,k≤t→t<ops.size→listed.getD t false=false) →
   wpAnyIn (Fw r) n P .any ops (ms Q) (c+1+(ops.size-k)) listed (stA ops vals a0 (fun j=>listed.getD j false) k) W:=by
  intro c
  induction c using Nat.strongRecOn with
  | _ c ih =>
  intro listed W hC hsz hc hunq hcl htl
  rw[show c+1+(ops.size-k)=(c+(ops.size-k))+1 by omega]
  have hrdy:∀j,j<ops.size→listed.getD j false=false→∃i,i∈Region.ready .any ops listed:=by
   intro j
   induction j using Nat.strongRecOn with
   | _ j ihj =>
    intro hj hun
    obtain⟨o,ho⟩:∃o,ops[j]? = some o:=⟨_,Array.getElem?_eq_some_iff.2 ⟨hj,O⟩⟩
    by_cases hall:∀e∈o.after,Region.binds .any e=true→listed.getD e.on false=true
    ·exact⟨j,mem_ready.2 ⟨by rw[dN (by omega) true false];exact hun,o,ho,hall⟩⟩
    ·have:∃e∈o.after,Region.binds .any e=true∧listed.getD e.on false=false:=by
      apply Classical.byContradiction
      intro hno
      exact hall fun e he hb=>by
       cases hl:listed.getD e.on false with
       | true=>rfl
       | false=>exact absurd ⟨e,he,hb,hl⟩ hno
     obtain⟨e,he,hb,hf⟩:=this
     have hlt:=(aW hO ho).2.2.1 e he hb
     exact ihj e.on hlt (by omega) hf
  obtain⟨i1,hi1⟩:=hrdy q hqN hunq
  refine⟨fun h=>(by rw[h]at hi1;cases hi1),fun i hi=>?_⟩
  obtain⟨hun,o,ho,hall⟩:=mem_ready.1 hi
  have hiN:i<ops.size:=(Array.getElem?_eq_some_iff.1 ho).1
  have hun':=hun
  rw[dN (by omega) true false]at hun'
  have hik:i<k:=by
   rcases Nat.lt_or_ge i k with h|h
   ·exact h
   ·exact absurd hi (hsink listed hsz hcl htl (fun i hi=>absurd hi List.not_mem_nil) _ q O hqk hunq i h)
  have hl:=mW (by omega) hun' k hik
  have hcl':∀j oj,ops[j]? = some oj→(listed.setIfInBounds i true).getD j false=true→∀e∈oj.after,Region.binds .any e=true→(listed.setIfInBounds i true).getD e.on false=true:=fun j oj hoj hlj e he hb=>by
   rw[cA (by omega)]at hlj ⊢
   by_cases e':j=i
   ·subst e'
    rw[ho]at hoj;cases hoj
    rw[hall e he hb];rfl
   ·have:(j==i)=false:=by simpa using e'
    rw[this,Bool.or_false]at hlj
    rw[hcl j oj hoj hlj e he hb];rfl
  have htl':∀t,k≤t→t<ops.size→(listed.setIfInBounds i true).getD t false=false:=fun t h1 h2=>by
   rw[cA (by omega),htl t h1 h2]
   simp;omega
  by_cases hiq:i=q
  ·subst hiq
   rw[hoq]at ho;cases ho
   obtain⟨hwq,hwp⟩:=hopq oq hoq
   -- the frame as in the text's order
   have hlook:∀j,j<k→(listed.getD j false)≠decide (j<i)→∀d,fv ops j=some d→¬d∈oq.looksAt ops:=by
    intro j hj hne d hd hmem
    obtain⟨oj,hoj⟩:∃oj,ops[j]? = some oj:=⟨_,Array.getElem?_eq_some_iff.2 ⟨by omega,O⟩⟩
    have hdj:oj.dst=some d:=by simpa [fv,hoj]using hd
    rcases Nat.lt_trichotomy j i with h|h|h
    ·have hl:listed.getD j false=false:=by
      cases hl:listed.getD j false with
      | false=>rfl
      | true=>exact absurd (by rw[hl];simp[h]) hne
     rcases (aW hO hoq).2.2.2 j oj h hoj with hap|⟨e,he,hb,hon⟩
     ·exact(Oper.apart_spec hap).1 d hdj hmem
     ·have:=hall e he hb
      rw[hon,hl]at this;cases this
    ·subst h
     exact absurd (by rw[hun'];simp) hne
    ·rcases hfar0 j oj h hj hoj with h9|h9
     ·have hl:listed.getD j false=true:=by
       cases hl:listed.getD j false with
       | true=>rfl
       | false=>exact absurd (by rw[hl];simp;omega) hne
      obtain⟨e,he,hb,hon⟩:=sv h9.1
      have:=hcl j oj hoj hl e he hb
      rw[hon,hun']at this;cases this
     ·exact(Oper.apart_spec h9.2).2.2 d hdj hmem
   have hag:=k7 (ops:=ops) vals a0 (fun x=>x∈oq.looksAt ops) (fun j=>listed.getD j false) (fun j=>decide (j<i)) k hlook
   have hlex:stA ops vals a0 (fun j=>decide (j<i)) k=acts i:=by
    rw[hst i]
    have h1:∀m,m≤i→stA ops vals a0 (fun j=>decide (j<i)) m=stA ops vals a0 (fun _=>true) m:=by
     intro m
     induction m with
     | zero=>intro _;rfl
     | succ m ih=>intro hm;simp only[stA];rw[ih (by omega)];simp;omega
    have h2:∀m,i≤m→stA ops vals a0 (fun j=>decide (j<i)) m=stA ops vals a0 (fun j=>decide (j<i)) i:=by
     intro m
     induction m with
     | zero =>
      intro h
      have:i=0:=by omega
      subst this;rfl
     | succ m ih =>
      intro hm
      by_cases e:i=m+1
      ·rw[e]
      ·simp only[stA]
       rw[if_neg (by simp;omega)]
       exact ih (by omega)
    rw[h2 k (by omega),h1 i (Nat.le_refl _)]
   rw[hlex]at hag
   obtain⟨hev,hwa⟩:=g8 (ops:=ops) (o:=oq) (a:=stA ops vals a0 (fun j=>listed.getD j false) k) (b:=acts i) hag.1
   obtain⟨hsel,hdef,_,_⟩:=aW hO hoq
   unfold wpOpIn
   simp only[hoq]
   rw[hwa,if_pos hwq]
   refine se (a:=acts i) hsel hdef (fun x hx=>(hev x hx).symm) (by rw[hst i,m5,m5]) (by rw[hst i,mT,mT]) (hwp W hC) ?_
   intro v L1 W' hG hE
   -- behind it
   have hvb:∀m,stA ops (fun j=>if j=i then v else vals j) a0 (fun _=>true) m=if m≤i then acts m else stA ops (fun j=>if j=i then v else vals j) a0 (fun _=>true) m:=by
    intro m
    split
    ·rename_i hm
     induction m with
     | zero=>exact ha0.symm
     | succ m ihm=>rw[hacts m,←ihm (by omega)];simp[stA];rw[if_neg (by omega)]
    ·rfl
   have hfin2:∀m,i<m→m≤k→stA ops (fun j=>if j=i then v else vals j) a0 (fun _=>true) m=(acts m).put oq.dst v:=by
    intro m
    induction m with
    | zero=>intro h;omega
    | succ m ihm =>
     intro h1 h2
     by_cases e:m=i
     ·subst e
      have:=hvb m
      rw[if_pos (Nat.le_refl _)]at this
      simp only[stA,if_true]
      rw[this,hdq,hacts m,hdq,hvq]
      exact(put_put _ _ _ _).symm
     ·have:=ihm (by omega) (by omega)
      simp only[stA,if_true]
      rw[this,if_neg e,hacts m]
      refine Act.put_comm _ _ _ (fun d hd hd'=>?_)
      obtain⟨om,hom⟩:∃om,ops[m]? = some om:=⟨_,Array.getElem?_eq_some_iff.2 ⟨by omega,O⟩⟩
      have hdm:om.dst=some d:=by simpa [fv,hom]using hd'
      exact hdd m om (by omega) (by omega) hom d hd hdm
   have hvl:∀m,m≤k→stA ops (fun j=>if j=i then v else vals j) a0 (fun j=>(listed.setIfInBounds i true).getD j false) m=if m≤i then stA ops vals a0 (fun j=>listed.getD j false) m else(stA ops vals a0 (fun j=>listed.getD j false) m).put oq.dst v:=by
    intro m
    induction m with
    | zero=>intro _;simp;rfl
    | succ m ihm =>
     intro hm
     simp only[stA]
     rw[ihm (by omega),cA (by omega)]
     rcases Nat.lt_trichotomy m i with h|h|h
     ·rw[if_pos (show m≤i by omega),if_pos (show m+1≤i by omega),if_neg (show ¬m=i by omega)]
      have:(m==i)=false:=by simp;omega
      rw[this,Bool.or_false]
     ·subst h
      rw[if_pos (Nat.le_refl m),if_neg (show ¬(m+1≤m) by omega)]
      simp[hun',hdq]
     ·rw[if_neg (show ¬m≤i by omega),if_neg (show ¬m+1≤i by omega),if_neg (show ¬m=i by omega)]
      have:(m==i)=false:=by simp;omega
      rw[this,Bool.or_false]
      split
      ·refine Act.put_comm _ _ _ (fun d hd hd'=>?_)
       obtain⟨om,hom⟩:∃om,ops[m]? = some om:=⟨_,Array.getElem?_eq_some_iff.2 ⟨by omega,O⟩⟩
       have hdm:om.dst=some d:=by simpa [fv,hom]using hd'
       exact hdd m om (by omega) (by omega) hom d hd hdm
      ·rfl
   have hli:(listed.setIfInBounds i true).getD i false=true:=by rw[cA (by omega)];simp
   have:=sj (r:=r) (n:=n) (P:=P) (Q:=Q) hops [i] (k:=k) hO hkN hfr0 (a0:=a0) (vals:=fun j=>if j=i then v else vals j)
    (acts:=stA ops (fun j=>if j=i then v else vals j) a0 (fun _=>true)) (C:=fun W=>Ext w0 W (L++L1)) (fun _=>O)
    (fun j o hj hne ho=>by
     have hji:j≠i:=fun h=>hne (by simp[h])
     simp only[if_neg hji]
     rcases Nat.lt_or_ge i j with h|h
     ·rw[hfin2 j h (by omega)]
      rcases hfar0 j o h hj ho with h9|h9
      ·have hw9:∀y,Region.wanted o y=true:=fun y=>by unfold Region.wanted;rw[h9.2.1]
       rcases hvalsA j o hj h ho with⟨h1,h2⟩|h1
       ·refine .inl ⟨hw9 _,?_⟩
        have:=h2.2 h9.1 v L1 hG
        rw[hdq]at this
        exact this
       ·rw[hw9]at h1
        cases h1.1
      ·have hsame:=g8 (ops:=ops) (o:=o) (a:=acts j) (b:=(acts j).put oq.dst v) (fun y hy=>(rE (acts j) oq.dst _ y (fun hc=>(Oper.apart_spec h9.2).1 y hc hy)).symm)
       obtain⟨hsel,hdef,_,_⟩:=aW hO ho
       rw[←hsame.2]
       rcases hvalsA j o hj h ho with⟨h1,h2⟩|h1
       ·exact .inl ⟨h1,mP hsel hdef (fun x hx=>hsame.1 x hx) (h2.1 h9.1 L1)⟩
       ·exact .inr h1
     ·have:=hvb j
      rw[if_pos h]at this
      rw[this]
      rcases hvalsB j o (by omega) ho with⟨h1,h2⟩|h1
      ·exact .inl ⟨h1,h2 L1⟩
      ·exact .inr h1)
    (fun W' hW'=>by
     rw[hfin2 k hqk (Nat.le_refl _)]
     exact hK v L1 W' hG hW')
    c (listed.setIfInBounds i true) W' hE (by simpa using hsz) (by omega) hcl' htl' (fun j hj=>by rw[List.mem_singleton.1 hj];exact hli)
   rw[hvl k (Nat.le_refl _),if_neg (by omega)]at this
   exact this
  ·have hlq:(listed.setIfInBounds i true).getD q false=false:=by
    rw[cA (by omega),hunq]
    simp;omega
   obtain⟨c',rfl⟩:∃c',c=c'+1:=by
    have:left (listed.setIfInBounds i true) k≠0:=fun h0=>by
     have:=my h0 q hqk
     rw[hlq]at this;cases this
    exact⟨c-1,by omega⟩
   refine rn (r:=r) (C:=fun W=>Ext w0 W L) hO hkN hst hC hsz hcl hik hun ho hall ?_ (fun W' hC'=>?_)
   ·rcases Nat.lt_or_ge i q with hlt|hge
    ·rcases hvalsB i o hlt ho with⟨h1,h2⟩|h1
     ·refine .inl ⟨h1,?_⟩
      have:=h2 []
      rw[List.append_nil]at this
      exact this
     ·exact .inr h1
    ·have hnd:depB ops q o=false:=by
      cases hd:depB ops q o with
      | false=>rfl
      | true =>
       obtain⟨e,he,hb,hon⟩:=sv hd
       have:=hall e he hb
       rw[hon,hunq]at this;cases this
     rcases hvalsA i o hik (by omega) ho with⟨h1,h2⟩|h1
     ·refine .inl ⟨h1,?_⟩
      have:=h2.1 hnd []
      rw[List.append_nil]at this
      exact this
     ·exact .inr h1
   ·exact ih c' (by omega) (listed.setIfInBounds i true) W' hC' (by simpa using hsz) (by omega) hlq hcl' htl'
 have e1:left (Array.replicate ops.size false) k=k:=by
  unfold left
  rw[List.filter_eq_self.2 fun j hj=>?_]
  ·simp
  ·have:=List.mem_range.1 hj
   simp[show j<ops.size by omega]
 have hfin:=main (k-1) (Array.replicate ops.size false) _ h0 (by simp) (by rw[e1];omega) (by simp[hqN]) (fun j oj hoj hl=>by
  have:j<ops.size:=(Array.getElem?_eq_some_iff.1 hoj).1
  simp[this]at hl) (fun t _ h=>by simp[h])
 have e2:stA ops vals a0 (fun j=>(Array.replicate ops.size false).getD j false) k=a0:=by
  have:∀m,m≤k→stA ops vals a0 (fun j=>(Array.replicate ops.size false).getD j false) m=a0:=by
   intro m
   induction m with
   | zero=>intro _;rfl
   | succ m ih=>intro hm;simp only[stA];rw[ih (by omega)];simp[show m<ops.size by omega]
  exact this k (Nat.le_refl _)
 rw[show k-1+1+(ops.size-k)=ops.size by omega,e2]at hfin
 exact hfin
end
section
variable {r : Option Nat} {n : Nat} {P : Program} {ops : Array Oper} {Q : Exit → Act → World → Prop} {w0 : World} {L : List Res} {m : Nat} {tm : Nat → Value} {d : List Deferred}
variable {t : Tmp} {ty : TypeId} {pos : String} {af : Array Edge} {g : Option (Nat × Bool)} {l rest : List Oper} {G : Value → List Res → Prop} {q k : Nat} {all : List Oper}
def BD (r:Option Nat) (n:Nat) (P:Program) (ops:Array Oper) (Q:Exit→Act→World→Prop) (w0:World) (L:List Res) (G:Value→List Res→Prop) (q k:Nat) (all:List Oper) (i:Nat) (l:List Oper) (m:Nat) (tm:Nat→Value) (d:List Deferred):Prop :=
 QWd r n P ops w0 L G (obD r n P ops w0 L G q) (fun a'=>∀v L1 W,G v L1→Ext w0 W (L++L1)→OL r n P ops (ms Q) (all.drop k) (a'.put ((all[q]?).bind (·.dst)) v) W) i l (act m tm d)
def KD (r:Option Nat) (n:Nat) (P:Program) (ops:Array Oper) (Q:Exit→Act→World→Prop) (w0:World) (L:List Res) (G:Value→List Res→Prop) (q k:Nat) (all:List Oper) (l:List Oper) (m:Nat) (tm:Nat→Value) (d:List Deferred):Prop :=
 QWa ops (obD r n P ops w0 L G q) (fun a'=>∀v L1 W,G v L1→Ext w0 W (L++L1)→OL r n P ops (ms Q) (all.drop k) (a'.put ((all[q]?).bind (·.dst)) v) W) l (act m tm d)
theorem cx_drawsD (q k:Nat) (G:Value→List Res→Prop) {id:Nat} {l:List Oper} (hm:P.follows .mixedOrders=true) (hO:ll l.toArray=true) (hT:tailB l.toArray k=true) (hF:floatD l.toArray q k=true)
  (h:BD r n P l.toArray Q w0 L G q k l q (l.take k) m tm d):CX r n P (.region id l.toArray true) Q w0 L m tm d :=
 fun _ hW=>wp_drawsD q k G hm hO hT hF hW.drawn h
theorem pF {i:Nat} {op:Op} {v:Value} (hw:eE ops m tm ⟨some t,op,ty,pos,af,g⟩=true) (hy:∀L2,OpY r n P ⟨some t,op,ty,pos,af,g⟩ (opv m tm) (fun W=>Ext w0 W (L++L2)) (fun W=>Ext w0 W (L++L2)) v)
  (h:BD r n P ops Q w0 L G q k all i rest m (upd tm t v) d):BD r n P ops Q w0 L G q k all (i+1) (⟨some t,op,ty,pos,af,g⟩::rest) m tm d:=by
 unfold BD QWd
 rw[bu,if_pos hw,dG]
 refine⟨v,hy,?_⟩
 rw[dP]
 exact h
theorem bdx_q {op:Op} (hw:eE ops m tm ⟨some t,op,ty,pos,af,g⟩=true) (hop:OX r n P ops (capQ w0 L (act m tm d) (some t) G) w0 L [⟨some t,op,ty,pos,af,g⟩] m tm d)
  (h:KD r n P ops Q w0 L G q k all rest m (upd tm t undef) d):BD r n P ops Q w0 L G q k all 0 (⟨some t,op,ty,pos,af,g⟩::rest) m tm d:=by
 unfold BD QWd
 refine⟨by rw[bu];exact hw,fun W hW=>?_,?_⟩
 ·have h1:=hop W hW
  unfold OL at h1
  rw[bu,if_pos hw]at h1
  exact Oper.wpIn_mono (fun a w h=>h) h1
 ·rw[dP]
  exact h
theorem kdx_y {op:Op} {v:Value} (hw:eE ops m tm ⟨some t,op,ty,pos,af,g⟩=true) (hn:depB ops q ⟨some t,op,ty,pos,af,g⟩=false) (hy:∀L2,OpY r n P ⟨some t,op,ty,pos,af,g⟩ (opv m tm) (fun W=>Ext w0 W (L++L2)) (fun W=>Ext w0 W (L++L2)) v)
  (h:KD r n P ops Q w0 L G q k all rest m (upd tm t v) d):KD r n P ops Q w0 L G q k all (⟨some t,op,ty,pos,af,g⟩::rest) m tm d:=by
 unfold KD QWa
 rw[bu,if_pos hw]
 refine⟨v,⟨fun _=>?_,fun h9=>?_⟩,?_⟩
 ·rw[dG];exact hy
 ·rw[hn]at h9;cases h9
 ·rw[dP]
  exact h
theorem kdx_dep {op:Op} {v:Value} {tq:Tmp} (hw:eE ops m tm ⟨some t,op,ty,pos,af,g⟩=true) (hn:depB ops q ⟨some t,op,ty,pos,af,g⟩=true) (hd:fv ops q=some tq) (hy:∀v1 L1,G v1 L1→OpY r n P ⟨some t,op,ty,pos,af,g⟩ (opv m (upd tm tq v1)) (fun W=>Ext w0 W (L++L1)) (fun W=>Ext w0 W (L++L1)) v)
  (h:KD r n P ops Q w0 L G q k all rest m (upd tm t v) d):KD r n P ops Q w0 L G q k all (⟨some t,op,ty,pos,af,g⟩::rest) m tm d:=by
 unfold KD QWa
 rw[bu,if_pos hw]
 refine⟨v,⟨fun h9=>?_,fun _ v1 L1 hG=>?_⟩,?_⟩
 ·rw[hn]at h9;cases h9
 ·rw[hd,dP,dG];exact hy v1 L1 hG
 ·rw[dP]
  exact h
theorem kdx_nil (hd:(all[q]?).bind (·.dst)=some t) (h:∀v L1,G v L1→OX r n P ops (ms Q) w0 (L++L1) (all.drop k) m (upd tm t v) d):KD r n P ops Q w0 L G q k all [] m tm d:=by
 unfold KD QWa
 intro v L1 W hG hW
 rw[hd,dP]
 exact h v L1 hG W hW
end
end Go.Proofs.YtbblpokfbmekfaaGreat
