import Derived.Test.YthndghnkebboaaaGreatGz
import Derived.Laws.OwnMore
import Derived.Lib.SliceRun
import Derived.Maps.OwnSet
import Derived.DeepKeys4
import Derived.Maps.Range
import Derived.WalkKit
import Derived.ProofKit
import Derived.OpenShut
import Derived.Carry
import Derived.ChangeOld
set_option linter.unusedVariables false
namespace Go.Proofs.YthndghnkebboaaaGreat
open Go.RowKit (Below)
section
variable {w0 : World} {L : List Res}
theorem oL {W:World} {A:Option Addr} {c:Nat} {e:TypeId} {sz n k:Nat} {cs:List Value} (h:(aR A c e sz n cs).holds W) (hk:k≤n) (h0:A=none→k=0):(aR A c e sz k (cs.take (k*sz))).holds W:=by
 obtain⟨h1,h2⟩:=h
 have hks:k*sz≤n*sz:=Nat.mul_le_mul_right _ hk
 refine⟨by rw[List.length_take,h1];omega,?_⟩
 rcases h2 with⟨h2,h3⟩|⟨g,cap,cur,hv,hb,hg,h3,h4,h5,h6⟩
 ·simp only[Value.slice.injEq]at h2
  obtain⟨rfl,_,rfl⟩:=h2
  have:=h0 E
  subst this
  exact .inl ⟨E,E⟩
 ·simp only[Value.slice.injEq]at hv
  obtain⟨rfl,_,rfl⟩:=hv
  refine .inr ⟨g,c,cur,E,hb,hg,by omega,h4,h5,?_⟩
  rw[←h6,List.take_take,Nat.min_eq_left hks]
theorem Ext.tell {W:World} (h:Ext w0 W L) (i:Nat) {p q:Res} (hp:L[i]? = some p) (hq:p.holds W→q.holds W) (hd:∀b,q.dom b→p.dom b):Ext w0 W (L.set i q) :=
 h.set hp q (hq (h.all i p hp)) E E E (Nat.le_refl _) (fun _ _ _=>E) (fun b hb=>.inl (hd b hb))
end
section
variable {r : Option Nat} {n : Nat} {P : Program} {ρ : Operand → Value} {w0 : World} {L : List Res}
variable {t : Option Tmp} {ty : TypeId} {pos : String} {af : Array Edge} {g : Option (Nat × Bool)}
variable {A : Option Addr} {k c : Nat} {cs : List Value}
theorem mE {u e:TypeId} {sz:Nat} (hs:qd P u=some (e,sz)):P.underlying u=some (.slice (P.elem u))∧∀W,(Go.sizeOf (P.elem u)).run P W=.ok sz W:=by
 unfold qd at hs
 cases hu:P.underlying u with
 | none=>rw[hu]at hs;cases hs
 | some d =>
  rw[hu]at hs
  cases d with
  | slice e' =>
   simp only[]at hs
   cases hinf:P.info? e' with
   | none=>rw[hinf]at hs;cases hs
   | some inf =>
    rw[hinf]at hs
    simp only[Option.map_some,Option.some.injEq,Prod.mk.injEq]at hs
    obtain⟨rfl,rfl⟩:=hs
    have e1:P.elem u=e':=by simp[Program.elem,hu]
    exact⟨by rw[e1],fun W=>by rw[e1];simp[Go.sizeOf,typeInfo,hinf]⟩
  | _=>cases hs
theorem y_cutL {x a:Operand} {u e:TypeId} {sz:Nat} {q:IntKind} {lo:Int} (hs:qd P u=some (e,sz)) (h0:0≤lo) (h1:lo≤k) (_hR:RdL w0 L A k c cs) (hx:ρ x=.slice A k c) (ha:ρ a=.int q lo) :
  OpY r n P ⟨t,.slice u x (some a) none none,ty,pos,af,g⟩ ρ (fun W=>Ext w0 W L) (fun W=>Ext w0 W L) (.slice (if c=lo.toNat then A else A.map (·.add (lo.toNat*sz))) (k-lo.toNat) (c-lo.toNat)) :=
 bm (by intro c h;cases h) (fun W _=>by
  obtain⟨hu',hsz⟩:=mE hs
  simp only[execOp,hx,ha,Option.map_some,Option.map_none,Sem.run_bind,run_sliceAt_slice W u _ _ _ _ hu',run_slice_l W u A k c hu' q lo h0 h1,hsz,Result.andThen_ok,sliced]
  rfl)
theorem y_cutH {x b:Operand} {u e:TypeId} {sz:Nat} {q:IntKind} {hi:Int} (hs:qd P u=some (e,sz)) (h0:0≤hi) (h2:hi≤k) (hR:RdL w0 L A k c cs) (hx:ρ x=.slice A k c) (hb:ρ b=.int q hi) :
  OpY r n P ⟨t,.slice u x none (some b) none,ty,pos,af,g⟩ ρ (fun W=>Ext w0 W L) (fun W=>Ext w0 W L) (.slice A hi.toNat c) :=
 bm (by intro c h;cases h) (fun W hW=>by
  obtain⟨hu',hsz⟩:=mE hs
  have hcap:=(hR W hW).cap
  have h3:hi≤(c:Int):=by omega
  simp only[execOp,hx,hb,Option.map_some,Option.map_none,Sem.run_bind,run_sliceAt_slice W u _ _ _ _ hu',run_slice_h W u A k c hu' q hi h0 h3,hsz,Result.andThen_ok,sliced]
  have e1:(if c=0 then A else Option.map (fun x=>x.add (0*sz)) A)=A:=by
   split
   ·rfl
   ·cases A <;> simp[Addr.add]
  rw[e1]
  rfl)
theorem sV {α:Type} {xs:List α} {n:Nat} {hi:Int} (h2:hi≤(n:Int)) (hn:n=xs.length):hi.toNat=(xs.take hi.toNat).length:=by rw[List.length_take,←hn];omega
end
section
variable {r : Option Nat} {n : Nat} {P : Program} {ops : Array Oper} {Q : Exit → Act → World → Prop} {w0 : World} {L : List Res} {m : Nat} {tm : Nat → Value} {d : List Deferred}
variable {t : Tmp} {ty : TypeId} {pos : String} {af : Array Edge} {g : Option (Nat × Bool)} {l rest : List Oper}
theorem cx (i:Nat) {α:Type} {cells:α→List Value} {xs ys:List α} {x y:Operand} {u e:TypeId} {A B:Option Addr} {c c' k q:Nat} {sz by':Nat} {z:Value} (hu:P.underlying u=some (.slice e)) (hz:bz P e=some z) (hb:fJ P e z sz by'=true)
  (hL:L[i]? = some (aR A c e sz k (encL cells xs))) (hx:opv m tm x=.slice A k c) (hy:opv m tm y=.slice B q c') (hR:RdL w0 L B q c' (encL cells ys)) (hn:(encL cells ys).length=q*sz) (h1:((encL cells ys).all (·.oneCell'))=true) (hg:(k+q)*by'≤140737488355328)
  (hw:eW ops m tm ⟨some t,.call ⟨.builtin .append,#[x,y],#[u,u]⟩,ty,pos,af,g⟩=true)
  (h:∀A' c',OX r n P ops Q w0 (L.set i (aR A' c' e sz (k+q) (encL cells (xs++ys)))) rest m (upd tm t (.slice A' (k+q) c')) d) :
  OX r n P ops Q w0 L (⟨some t,.call ⟨.builtin .append,#[x,y],#[u,u]⟩,ty,pos,af,g⟩::rest) m tm d:=by
 rcases Nat.eq_zero_or_pos q with hq|hq
 ·subst hq
  have hys:encL cells ys=[]:=by
   have:=hn
   rw[Nat.zero_mul]at this
   exact List.eq_nil_of_length_eq_zero this
  refine jk hw (by intro c h;cases h) fun W hW=>?_
  obtain⟨inf,hinf,hzz⟩:∃inf,P.info? e=some inf∧inf.zero=some z:=by
   unfold bz at hz
   cases hi:P.info? e with
   | none=>rw[hi]at hz;cases hz
   | some inf=>rw[hi]at hz;exact⟨inf,E,hz⟩
  have hcap:=(eZ (hW.mem hL)).cap
  have hrun:(Builtin.append_ #[u,u] ty #[.slice A k c,.slice B 0 c']).run P W=.ok (.slice A k c) W:=by
   cases A <;> cases B <;> simp[Builtin.append_,run_underlying hu,sizeOf,typeInfo,hinf,Builtin.lenOf,Builtin.firstCells,hcap,storeCells,loadCells,loadCellsFrom]
  refine⟨_,W,_,?_,?_,h A c⟩
  ·simp only[execOp,resolve,invoke,builtin]
   simp[hx,hy,hrun]
  ·have e1:encL cells (xs++ys)=encL cells xs:=by rw[←rh,hys,List.append_nil]
   rw[e1,Nat.add_zero]
   have e2:L.set i (aR A c e sz k (encL cells xs))=L:=by
    obtain⟨hi,he⟩:=List.getElem?_eq_some_iff.1 hL
    rw[←he,List.set_getElem_self]
   rw[e2]
   exact hW
 ·exact ox_appendE i hu hz hb hL hx hy hq hR hn h1 hg hw h
end
def rawR (v:Value):Option (DataW Value × List MemPlace):=some (.held v,[])
structure KeyE (P:Program) (kt:TypeId) {κ:Type} (ek:κ→Value) (ok:κ→Bool):Prop where
 keyed:Maps.Keyed P kt
 tot:∀x,ok x=true→∃l,keyOf P kt (ek x)=some l
 inj:∀x y,ek x=ek y→x=y
def mapV (P:Program) (kt:TypeId) {κ β:Type} [DecidableEq κ] (ek:κ→Value) (ok:κ→Bool) (ev:β→Value) (z:β) (b:Nat) (m:List (κ × β)):Res where
 dom c:=c=b
 holds W:=∃D:DataW Value,W.ownsMap P kt rawR b m.length D∧Maps.IsMap D∧(∀x l,ok x=true→keyOf P kt (ek x)=some l→D.atKey l (.held (ev z))=.held (ev (aC z m x))∧Maps.has D l=bt m x)∧∀l,Maps.has D l=true→∃x,ok x=true∧keyOf P kt (ek x)=some l
 loc W W' h _ hh:=by
  obtain⟨D,⟨es,clock,hb,h1⟩,h2⟩:=hh
  exact⟨D,⟨es,clock,(h b E).trans hb,h1⟩,h2⟩
 inb W h c hc:=by
  obtain⟨D,h1,_⟩:=h
  have hc':c=b:=hc
  rw[hc']
  exact h1.lt
theorem Cy.mapV {B:Nat} {P:Program} {kt:TypeId} {κ β:Type} [DecidableEq κ] {ek:κ→Value} {ok:κ→Bool} {ev:β→Value} {z:β} {b:Nat} {m:List (κ × β)} (h:b<B):Cy B (mapV P kt ek ok ev z b m):=fun W c _ hc=>by
 have hc':c=b:=hc
 exact .inl (by omega)
theorem mapV.later {P:Program} {kt:TypeId} {κ β:Type} [DecidableEq κ] {ek:κ→Value} {ok:κ→Bool} {ev:β→Value} {z:β} {b:Nat} {m:List (κ × β)} {W W':World} (h:(mapV P kt ek ok ev z b m).holds W) (hb:Below W.heap.size W W'):(mapV P kt ek ok ev z b m).holds W' :=
 (mapV P kt ek ok ev z b m).loc W W' (fun c hc=>by
  have hc':c=b:=hc
  obtain⟨D,h1,_⟩:=h
  rw[hc']
  exact hb.block b h1.lt) hb.size h
def MpL (w0:World) (L:List Res) (p:Res):Prop:=∀W,Ext w0 W L→p.holds W
theorem MpL.own {w0:World} {L:List Res} {p:Res} (i:Nat) (h:L[i]? = some p):MpL w0 L p:=fun _ hW=>hW.mem h
theorem MpL.arg {w0:World} {L:List Res} {P:Program} {kt:TypeId} {κ β:Type} [DecidableEq κ] {ek:κ→Value} {ok:κ→Bool} {ev:β→Value} {z:β} {b:Nat} {m:List (κ × β)} (h:(mapV P kt ek ok ev z b m).holds w0):MpL w0 L (mapV P kt ek ok ev z b m):=fun _ hW=>mapV.later h hW.below
def kI (x:Int):Value:=.int .i64 x
def kB (x:Bool):Value:=.bool x
theorem keyE_int {P:Program} {kt:TypeId} (hk:P.underlying kt=some (.int .i64)):KeyE P kt kI eI :=
 ⟨Maps.int_keyed hk,fun x h=>⟨_,keyI hk h⟩,fun x y h=>by cases h;rfl⟩
section
variable {r : Option Nat} {n : Nat} {P : Program} {ρ : Operand → Value} {w0 : World} {L : List Res}
variable {t : Option Tmp} {ty : TypeId} {pos : String} {af : Array Edge} {g : Option (Nat × Bool)}
variable {κ β : Type} [DecidableEq κ] {ek : κ → Value} {ok : κ → Bool} {ev : β → Value} {z : β}
theorem kX {kt et mt b:Nat} {m:List (κ × β)} {x y:Operand} {k:κ} (hM:MpL w0 L (mapV P kt ek ok ev z b m)) (K:KeyE P kt ek ok) (hm:P.underlying mt=some (.map kt et)) (hz:bz P et=some (ev z))
  (hx:ρ x=.map (some b)) (hy:ρ y=ek k) (hr:ok k=true) :
  OpY r n P ⟨t,.lookup mt x y false,ty,pos,af,g⟩ ρ (fun W=>Ext w0 W L) (fun W=>Ext w0 W L) (ev (aC z m k)) :=
 bm (by intro c h;cases h) (fun W hW=>by
  obtain⟨D,h1,_,h3,_⟩:=hM W hW
  obtain⟨l,hl⟩:=K.tot k hr
  obtain⟨v,ps,hrun,hv⟩:=h1.lookup K.keyed hm (ol hz) (zd:=.held (ev z)) (zp:=[]) E hl
  rw[(h3 k l hr hl).1]at hv
  have:v=ev (aC z m k):=by
   have:=Option.some.inj hv
   simp only[Prod.mk.injEq,DataW.held.injEq]at this
   exact this.1
  subst this
  simp[execOp,hx,hy,hrun])
theorem nn {kt et mt b:Nat} {m:List (κ × β)} {x y:Operand} {k:κ} (hM:MpL w0 L (mapV P kt ek ok ev z b m)) (K:KeyE P kt ek ok) (hm:P.underlying mt=some (.map kt et)) (hz:bz P et=some (ev z))
  (hx:ρ x=.map (some b)) (hy:ρ y=ek k) (hr:ok k=true) :
  OpY r n P ⟨t,.lookup mt x y true,ty,pos,af,g⟩ ρ (fun W=>Ext w0 W L) (fun W=>Ext w0 W L) (.tuple #[ev (aC z m k),.bool (bt m k)]) :=
 bm (by intro c h;cases h) (fun W hW=>by
  obtain⟨D,h1,_,h3,_⟩:=hM W hW
  obtain⟨l,hl⟩:=K.tot k hr
  obtain⟨v,ps,hrun,hv⟩:=h1.look_ok K.keyed hm (ol hz) (zd:=.held (ev z)) (zp:=[]) E hl
  rw[(h3 k l hr hl).1]at hv
  rw[(h3 k l hr hl).2]at hrun
  have:v=ev (aC z m k):=by
   have:=Option.some.inj hv
   simp only[Prod.mk.injEq,DataW.held.injEq]at this
   exact this.1
  subst this
  simp[execOp,hx,hy,hrun])
theorem la (i:Nat) {kt et mt b:Nat} {m:List (κ × β)} {x y u:Operand} {k:κ} {v:β} (hL:L[i]? = some (mapV P kt ek ok ev z b m)) (K:KeyE P kt ek ok) (hm:P.underlying mt=some (.map kt et))
  (hx:ρ x=.map (some b)) (hy:ρ y=ek k) (hv:ρ u=ev v) (hr:ok k=true∧m.length<1000000000) :
  OpY r n P ⟨t,.mapUpdate mt x y u,ty,pos,af,g⟩ ρ (fun W=>Ext w0 W L) (fun W=>Ext w0 W (L.set i (mapV P kt ek ok ev z b ((k,v)::m)))) undef :=
 lQ (by intro c h;cases h) (fun W hW=>by
  obtain⟨D,h1,h2,h3,h4⟩:=hW.mem hL
  obtain⟨l,hl⟩:=K.tot k hr.1
  obtain⟨W',hrun,hown,hg⟩:=h1.update K.keyed hm (by simp only[maxLen];omega) (val:=ev v) (d:=.held (ev v)) (ps:=[]) hl E
  refine⟨W',by simp[execOp,hx,hy,hv,hrun],?_⟩
  refine hW.set hL (mapV P kt ek ok ev z b ((k,v)::m)) ⟨_,hown,h2.put _ _,fun q l' hq hl'=>?_,fun l' hl'=>?_⟩ hg.os hg.tape hg.output hg.size (fun c hc hn=>hg.block c hc (fun e=>hn (by cases e;rfl))) (fun c hc=>.inl hc)
  rotate_left
  ·by_cases e:l'=l
   ·exact⟨k,hr.1,by rw[e];exact hl⟩
   ·rw[Maps.has_put_other e]at hl'
    exact h4 l' hl'
  unfold aC bt
  by_cases e:k=q
  ·subst e
   have e2:l'=l:=by rw[hl]at hl';exact(Option.some.inj hl').symm
   subst e2
   rw[Maps.atKey_put_same h2 (K.keyed.key hl),Maps.has_put_same h2 (K.keyed.key hl)]
   simp
  ·have hne:l'≠l:=fun e2=>e (K.inj k q (K.keyed.inj hl (e2▸hl')))
   rw[Maps.atKey_put_other hne,Maps.has_put_other hne,(h3 q l' hq hl').1,(h3 q l' hq hl').2]
   simp[e])
end
section
variable {r : Option Nat} {n : Nat} {P : Program} {ops : Array Oper} {Q : Exit → Act → World → Prop} {w0 : World} {L : List Res} {m : Nat} {tm : Nat → Value} {d : List Deferred}
variable {t : Tmp} {ty : TypeId} {pos : String} {af : Array Edge} {g : Option (Nat × Bool)} {l rest : List Oper}
theorem kq (kt:TypeId) {κ β:Type} [DecidableEq κ] (ek:κ→Value) (ok:κ→Bool) (ev:β→Value) (z:β) {mt:TypeId} (hw:eW ops m tm ⟨some t,.makeMap mt none,ty,pos,af,g⟩=true)
  (h:∀b,OX r n P ops Q w0 (L++[mapV P kt ek ok ev z b []]) rest m (upd tm t (.map (some b))) d):OX r n P ops Q w0 L (⟨some t,.makeMap mt none,ty,pos,af,g⟩::rest) m tm d :=
 jk hw (by intro c h;cases h) fun W hW=>by
  refine⟨_,W.alloc (.map #[] 0),_,?_,?_,h W.heap.size⟩
  ·simp[execOp,Instr.makeMap,newObj]
   rfl
  ·have h7:Ext w0 (W.alloc (.map #[] 0)) L:=hW.keep (hW.below.alloc hW.size _) (by simp) (fun i p hp b hd=>Below.heap_alloc W _ b (p.inb W (hW.all i p hp) b hd))
   refine h7.snoc (p:=mapV P kt ek ok ev z W.heap.size []) ⟨_,World.ownsMap_made W P kt _,⟨_,E⟩,fun x _ _ _=>⟨E,E⟩,fun l hl=>by cases hl⟩ (fun b hb=>?_) (fun i q hq b hb hb'=>?_)
   ·have hb':b=W.heap.size:=hb
    have:=hW.size
    omega
   ·have hb'':b=W.heap.size:=hb'
    have:=q.inb W (hW.all i q hq) _ hb
    omega
end
theorem encL_setF {α:Type} [Inhabited α] {cells:α→List Value} {sz:Nat} (hc:∀x,(cells x).length=sz) {xs:List α} {v:α} {j q:Nat} {w:Value} (hj:j<xs.length) (hq:q<sz) (hv:cells v=(cells (xs.getD j default)).set q w):(encL cells xs).set (j*sz+q) w=encL cells (xs.set j v):=by
 rw[←mR hc v xs j hj,hv]
 have e0:=mR hc (xs.getD j default) xs j hj
 have e1:xs.set j (xs.getD j default)=xs:=by
  rw[List.getD_eq_getElem?_getD,List.getElem?_eq_getElem hj]
  simp
 rw[e1]at e0
 conv=>lhs;rw[←e0]
 have hl:((encL cells xs).take (j*sz)).length=j*sz:=by
  rw[List.length_take,eL hc E,Nat.min_eq_left (Nat.mul_le_mul_right _ (Nat.le_of_lt hj))]
 rw[List.append_assoc,List.set_append_right _ _ (by omega),hl,Nat.add_sub_cancel_left,List.set_append_left _ _ (by rw[hc];exact hq),List.append_assoc]
section
variable {r : Option Nat} {n : Nat} {P : Program} {ρ : Operand → Value} {w0 : World} {L : List Res}
variable {t : Option Tmp} {ty : TypeId} {pos : String} {af : Array Edge} {g : Option (Nat × Bool)}
theorem y_storeRF (i:Nat) {α:Type} [Inhabited α] {cells:α→List Value} {sz:Nat} (hc:∀x,(cells x).length=sz) {xs:List α} (v:α) (q:Nat) (hq:q<sz) {x y:Operand} {u e:TypeId} {A:Option Addr} {k c:Nat} {j:Int} {w:Value} (hs:szB P u 1=true) (hL:L[i]? = some (aR A c e sz k (encL cells xs))) (h0:0≤j) (h1:j<(xs.length:Int)) (hx:ρ x=slA A (j.toNat*sz+q)) (hv:cells v=(cells (rdL xs j)).set q w) (hy:ρ y=w) (ho:w.oneCell'=true) :
  OpY r n P ⟨t,.store u x y,ty,pos,af,g⟩ ρ (fun W=>Ext w0 W L) (fun W=>Ext w0 W (L.set i (aR A c e sz k (encL cells (xs.set j.toNat v))))) undef :=
 lQ (by intro c h;cases h) (fun W hW=>by
  have hown:W.ownsRow 0 e sz (.slice A k c) k (encL cells xs):=hW.mem hL
  have hk:xs.length=k:=by
   have h5:=hown.1
   rw[eL hc E]at h5
   exact Nat.eq_of_mul_eq_mul_right (by omega) h5
  rcases hown.2 with⟨_,h3⟩|⟨g',cap,cur,hv',_,hg,h3,h4,h5,h6⟩
  ·omega
  ·simp only[Value.slice.injEq]at hv'
   obtain⟨rfl,_,rfl⟩:=hv'
   have hjk:j.toNat<k:=by omega
   have hjs:j.toNat*sz+sz≤k*sz:=by
    have:=Nat.mul_le_mul_right sz (show j.toNat+1≤k by omega)
    rw[Nat.add_mul,Nat.one_mul]at this
    exact this
   have hcs:k*sz≤cur.size:=by
    have:=Nat.mul_le_mul_right sz h3
    omega
   have hcur:j.toNat*sz+q<cur.size:=by omega
   have hx':ρ x=.pointer (some ⟨g',j.toNat*sz+q,none⟩):=by
    rw[hx]
    simp[slA]
   have hcw:w.cells = #[w]:=by cases w <;> first|rfl|cases ho
   have hst:=run_storeCells_at (P:=P) g' (j.toNat*sz+q) e w.cells.toList 0 cur W hg (by rw[hcw];simp;omega) (by rw[hcw];simpa using ho)
   simp only[Nat.add_zero]at hst
   refine⟨_,by
    simp only[execOp,hx',hy,Sem.run_bind]
    have:(Instr.storeAt u (.pointer (some ⟨g',j.toNat*sz+q,none⟩)) w).run P W=.ok () (W.setRow g' (cur.toList.take (j.toNat*sz+q)++w.cells.toList++cur.toList.drop (j.toNat*sz+q+w.cells.toList.length)).toArray):=by
     simp[Instr.storeAt,Instr.sureAddr,storeVar,gz (show szB P u w.cells.size=true by rw[hcw];exact hs),hst]
    rw[this]
    rfl,?_⟩
   have e1:cur.toList.take (j.toNat*sz+q)++w.cells.toList++cur.toList.drop (j.toNat*sz+q+w.cells.toList.length)=cur.toList.set (j.toNat*sz+q) w:=by
    rw[hcw]
    simp only[List.length_cons,List.length_nil]
    rw[List.set_eq_take_append_cons_drop,if_pos (by simpa using hcur)]
    simp
   rw[e1]
   refine hW.set hL (aR (some ⟨g',0,none⟩) c e sz k (encL cells (xs.set j.toNat v))) ?_ E E E (by simp[World.setRow]) (fun b' _ hn=>?_) (fun b' hb'=>.inl hb')
   ·refine⟨?_,.inr ⟨g',c,(cur.toList.set (j.toNat*sz+q) w).toArray,E,Nat.zero_le _,setRow_heap W g' _ _ e _ hg,h3,h4,by simpa using h5,?_⟩⟩
    ·rw[eL hc E];simp[hk]
    ·have h6':cur.toList.take (k*sz)=encL cells xs:=h6
     show(cur.toList.set (j.toNat*sz+q) w).take (k*sz)=_
     rw[←encL_setF hc (w:=w) (q:=q) (by omega) hq hv,←h6',List.take_set]
   ·show(W.heap.modify g' _)[b']? = _
    rw[Array.getElem?_modify,if_neg (fun e'=>hn ⟨_,E,e'⟩)])
theorem mH {zs:Array Value} (h:(zs.toList.all (·.oneCell'))=true) (hp:0<zs.size) (n:Nat):∀u∈(Builtin.zeroCells zs n).toList,u.oneCell'=true:=by
 intro u hu
 simp only[Builtin.zeroCells,Array.toList_map,List.mem_map]at hu
 obtain⟨j,_,rfl⟩:=hu
 have hlt:j % zs.size<zs.size:=Nat.mod_lt _ hp
 rw[getElem!_pos zs _ hlt]
 exact List.all_eq_true.1 h _ (by simp)
theorem y_clearH (i:Nat) {α:Type} {cells:α→List Value} {xs:List α} {x:Operand} {u e:TypeId} {A:Option Addr} {k c sz:Nat} {lo:Int} {z:Value} (hu:P.underlying u=some (.slice e)) (hz:bz P e=some z) (hzs:z.cells.size=sz) (hpos:0<sz) (hz1:(z.cells.toList.all (·.oneCell'))=true)
  (hc:∀x,(cells x).length=sz) (hL:L[i]? = some (aR A c e sz k (encL cells xs))) (_h0:0≤lo) (h1:lo≤k)
  (hx:ρ x=.slice (if c=lo.toNat then A else A.map (fun x=>x.add (lo.toNat*sz))) (k-lo.toNat) (c-lo.toNat)) :
  OpY r n P ⟨none,.call ⟨.builtin .clear,#[x],#[u]⟩,ty,pos,af,g⟩ ρ (fun W=>Ext w0 W L) (fun W=>Ext w0 W (L.set i (aR A c e sz lo.toNat (encL cells (xs.take lo.toNat))))) (.tuple #[]):=fun W hW=>by
 have hrow:(aR A c e sz k (encL cells xs)).holds W:=hW.mem hL
 have hcap:=(eZ hrow).cap
 have hlo:lo.toNat≤k:=by omega
 have hA0:A=none→lo.toNat=0:=by
  intro hA
  subst hA
  rcases hrow.2 with⟨h2,h3⟩|⟨g,cap,cur,hv,_⟩
  ·omega
  ·simp at hv
 have hhead:∀W',(aR A c e sz k (encL cells xs)).holds W'→(aR A c e sz lo.toNat (encL cells (xs.take lo.toNat))).holds W':=fun W' h'=>by
  have:=oL h' hlo hA0
  rw[iA hc]at this
  exact this
 have hdom:∀b,(aR A c e sz lo.toNat (encL cells (xs.take lo.toNat))).dom b→(aR A c e sz k (encL cells xs)).dom b:=fun b hb=>hb
 suffices hs:∃W',(Builtin.clear_ #[u] ty #[.slice (if c=lo.toNat then A else A.map (fun x=>x.add (lo.toNat*sz))) (k-lo.toNat) (c-lo.toNat)]).run P W=.ok (.tuple #[]) W'∧Ext w0 W' (L.set i (aR A c e sz lo.toNat (encL cells (xs.take lo.toNat)))) by
  obtain⟨W',hrun,hE⟩:=hs
  have e1:(execOp ρ ⟨none,.call ⟨.builtin .clear,#[x],#[u]⟩,ty,pos,af,g⟩).run P W=.ok (.value (.tuple #[])) W':=by
   simp only[execOp,resolve,invoke,builtin]
   simp[hx,hrun]
  rw[bQ (by intro c h;cases h),e1]
  exact⟨E,hE⟩
 by_cases hk:k-lo.toNat=0
 ·refine⟨W,?_,hW.tell i hL (hhead W) hdom⟩
  rw[hk]
  have hh:∀(B:Option Addr) (q:Nat),(Builtin.clear_ #[u] ty #[.slice B 0 q]).run P W=.ok (.tuple #[]) W:=fun B q=>by
   cases B <;> simp[Builtin.clear_,run_underlying hu]
  exact hh _ _
 ·have hcl:¬c=lo.toNat:=by omega
  rw[if_neg hcl]
  obtain⟨h1',h2'⟩:=hrow
  rcases h2' with⟨h2,h3⟩|⟨g',cap,cur,hv',_,hg,h3,h4,h5,h6⟩
  ·omega
  ·simp only[Value.slice.injEq]at hv'
   obtain⟨rfl,_,rfl⟩:=hv'
   obtain⟨zn,hzn⟩:∃zn,k-lo.toNat=zn+1:=⟨k-lo.toNat-1,by omega⟩
   have hzl:(Builtin.zeroCells z.cells (k-lo.toNat)).toList.length=(k-lo.toNat)*sz:=by simp[Builtin.zeroCells,hzs]
   have hbd:lo.toNat*sz+(k-lo.toNat)*sz≤cur.size:=by
    rw[←Nat.add_mul,Nat.add_sub_cancel' hlo,h5]
    exact Nat.mul_le_mul_right _ h3
   have hst:=run_storeCells_at (P:=P) g' (lo.toNat*sz) e (Builtin.zeroCells z.cells (k-lo.toNat)).toList 0 cur W hg (by rw[hzl];omega) (mH hz1 (by omega) _)
   simp only[Nat.add_zero]at hst
   have hzr:=ol (P:=P) (W:=W) hz
   have hadd:Option.map (fun x=>x.add (lo.toNat*sz)) (some (⟨g',0,none⟩:Addr))=some ⟨g',lo.toNat*sz,none⟩:=by
    simp only[Option.map_some,Addr.add_lit,Nat.zero_add]
   refine⟨W.setRow g' (cur.toList.take (lo.toNat*sz)++(Builtin.zeroCells z.cells (k-lo.toNat)).toList++cur.toList.drop (lo.toNat*sz+(Builtin.zeroCells z.cells (k-lo.toNat)).toList.length)).toArray,?_,?_⟩
   ·rw[hadd]
    rw[hzn]at hst ⊢
    simp[Builtin.clear_,run_underlying hu,hzr,hst]
   ·have hlen:(cur.toList.take (lo.toNat*sz)++(Builtin.zeroCells z.cells (k-lo.toNat)).toList++cur.toList.drop (lo.toNat*sz+(Builtin.zeroCells z.cells (k-lo.toNat)).toList.length)).length=cur.size:=by
     rw[List.length_append,List.length_append,List.length_take,List.length_drop,hzl,Array.length_toList]
     omega
    refine hW.set hL _ ?_ E E E (by simp[World.setRow]) (fun b' _ hn=>?_) (fun b' hb'=>.inl hb')
    ·refine⟨?_,.inr ⟨g',c,_,E,Nat.zero_le _,setRow_heap W g' _ _ e _ hg,by omega,h4,by simp only[List.size_toArray];rw[hlen];exact h5,?_⟩⟩
     ·rw[←iA hc,List.length_take,h1']
      exact Nat.min_eq_left (Nat.mul_le_mul_right _ hlo)
     ·show List.take (lo.toNat*sz) (cur.toList.take (lo.toNat*sz)++(Builtin.zeroCells z.cells (k-lo.toNat)).toList++cur.toList.drop _)=_
      rw[List.append_assoc,List.take_append_of_le_length (by rw[List.length_take,Array.length_toList];omega),List.take_take,Nat.min_self,←iA hc,←h6,List.take_take,Nat.min_eq_left (Nat.mul_le_mul_right _ hlo)]
    ·show(W.heap.modify g' _)[b']? = _
     rw[Array.getElem?_modify,if_neg (fun e'=>hn ⟨_,E,e'⟩)]
theorem y_cutHc {A:Option Addr} {k c:Nat} {x b:Operand} {u e:TypeId} {sz:Nat} {q:IntKind} {hi:Int} (hs:qd P u=some (e,sz)) (h0:0≤hi) (h2:∀W,Ext w0 W L→hi.toNat≤c) (hx:ρ x=.slice A k c) (hb:ρ b=.int q hi) :
  OpY r n P ⟨t,.slice u x none (some b) none,ty,pos,af,g⟩ ρ (fun W=>Ext w0 W L) (fun W=>Ext w0 W L) (.slice A hi.toNat c) :=
 bm (by intro c h;cases h) (fun W hW=>by
  obtain⟨hu',hsz⟩:=mE hs
  have h3:hi≤(c:Int):=by have:=h2 W hW;omega
  simp only[execOp,hx,hb,Option.map_some,Option.map_none,Sem.run_bind,run_sliceAt_slice W u _ _ _ _ hu',run_slice_h W u A k c hu' q hi h0 h3,hsz,Result.andThen_ok,sliced]
  have e1:(if c=0 then A else Option.map (fun x=>x.add (0*sz)) A)=A:=by
   split
   ·rfl
   ·cases A <;> simp[Addr.add]
  rw[e1]
  rfl)
end
theorem qU {W:World} {n c sz:Nat} {α:Type} {cells:α→List Value} {xs:List α} (h:Rd W none n c (encL cells xs)) (hc:∀x,(cells x).length=sz) (hp:0<sz):xs=[]:=by
 cases xs with
 | nil=>rfl
 | cons x xs =>
  have hl:0<(encL cells (x::xs)).length:=by rw[eL hc E];exact Nat.mul_pos (Nat.succ_pos _) hp
  obtain⟨b,o,e,_⟩:=h.cell 0 (encL cells (x::xs))[0] (by simp[hl])
  cases e
section
variable {r : Option Nat} {n : Nat} {P : Program} {ops : Array Oper} {Q : Exit → Act → World → Prop} {w0 : World} {L : List Res} {m : Nat} {tm : Nat → Value} {d : List Deferred}
variable {t : Tmp} {ty : TypeId} {pos : String} {af : Array Edge} {g : Option (Nat × Bool)} {l rest : List Oper}
theorem ib {α:Type} (cells:α→List Value) {u e:TypeId} {z:Value} {sz by':Nat} (hu:P.underlying u=some (.slice e)) (hz:bz P e=some z) (_hb:fJ P e z sz by'=true)
  (hw:eW ops m tm ⟨some t,.buildSlice u 0 #[],ty,pos,af,g⟩=true)
  (h:∀b,OX r n P ops Q w0 (L++[aR (some ⟨b,0,none⟩) 0 e sz 0 (encL cells [])]) rest m (upd tm t (.slice (some ⟨b,0,none⟩) 0 0)) d) :
  OX r n P ops Q w0 L (⟨some t,.buildSlice u 0 #[],ty,pos,af,g⟩::rest) m tm d :=
 jk hw (by intro c h;cases h) fun W hW=>by
  obtain⟨inf,hinf,hzz⟩:∃inf,P.info? e=some inf∧inf.zero=some z:=by
   unfold bz at hz
   cases hi:P.info? e with
   | none=>rw[hi]at hz;cases hz
   | some inf=>rw[hi]at hz;exact⟨inf,E,hz⟩
  have hu1:(underlying u).run P W=.ok (.slice e) W:=by simp[underlying,hu]
  have hsz:(Go.sizeOf e).run P W=.ok inf.size W:=by simp[Go.sizeOf,typeInfo,hinf]
  have hb:(Instr.buildSlice u 0 #[]).run P W=.ok (.slice (some ⟨W.heap.size,0,none⟩) 0 0) (W.alloc (.cells #[] e)):=by
   simp[Instr.buildSlice,hu1,Result.andThen_ok,hsz,Instr.fill,newRow]
   rw[show(Array.range 0) = #[] by simp[Array.range]]
   simp
  refine⟨_,W.alloc (.cells #[] e),_,?_,?_,h W.heap.size⟩
  ·simp only[execOp,Sem.run_bind,List.map_toArray,List.map_nil,hb]
   rfl
  ·have hk:(aR (some ⟨W.heap.size,0,none⟩) 0 e sz 0 (encL cells [])).holds (W.alloc (.cells #[] e)):=by
    have:=World.ownsRow_lit (base:=0) (e:=e) (size:=sz) W #[] 0 (Nat.zero_le _) (Nat.zero_le _) (by simp)
    exact this
   have h7:Ext w0 (W.alloc (.cells #[] e)) L:=hW.keep (hW.below.alloc hW.size _) (by simp) (fun i p hp b hd=>Below.heap_alloc W _ b (p.inb W (hW.all i p hp) b hd))
   refine h7.snoc hk (fun b hb=>?_) (fun i q hq b hb hb'=>?_)
   ·obtain⟨a,ha,rfl⟩:=hb
    cases ha
    exact hW.size
   ·obtain⟨a,ha,rfl⟩:=hb'
    cases ha
    have:=q.inb W (hW.all i q hq) _ hb
    exact absurd this (Nat.lt_irrefl _)
theorem Ext.mv {W:World} (h:Ext w0 W L) (i j:Nat) (_hij:i≠j) {q:Res} (hq:L[j]? = some q):Ext w0 W ((L.set j noR).set i q):=by
 have hget:∀(k:Nat) (s:Res),((L.set j noR).set i q)[k]? = some s→(k=i∧s=q)∨s=noR∨(k≠i∧k≠j∧L[k]? = some s):=by
  intro k s hk
  rw[List.getElem?_set]at hk
  by_cases e:i=k
  ·subst e
   rw[if_pos E]at hk
   split at hk
   ·cases hk;exact .inl ⟨E,E⟩
   ·cases hk
  ·rw[if_neg e,List.getElem?_set]at hk
   by_cases e2:j=k
   ·subst e2
    rw[if_pos E]at hk
    split at hk
    ·cases hk;exact .inr (.inl E)
    ·cases hk
   ·rw[if_neg e2]at hk
    exact .inr (.inr ⟨fun h=>e h.symm,fun h=>e2 h.symm,hk⟩)
 refine⟨h.below,fun k s hk=>?_,fun k s hk b hb=>?_,fun k l s s' hk hl hne b hb hb'=>?_⟩
 ·rcases hget k s hk with⟨_,rfl⟩|rfl|⟨_,_,h3⟩
  ·exact h.all j _ hq
  ·trivial
  ·exact h.all k _ h3
 ·rcases hget k s hk with⟨_,rfl⟩|rfl|⟨_,_,h3⟩
  ·exact h.new j _ hq b hb
  ·exact hb.elim
  ·exact h.new k _ h3 b hb
 ·rcases hget k s hk with⟨a1,rfl⟩|rfl|⟨a1,a2,a3⟩
  ·rcases hget l s' hl with⟨b1,rfl⟩|rfl|⟨b1,b2,b3⟩
   ·exact hne (a1.trans b1.symm)
   ·exact hb'.elim
   ·exact h.sep j l _ _ hq b3 (fun e=>b2 e.symm) b hb hb'
  ·exact hb.elim
  ·rcases hget l s' hl with⟨b1,rfl⟩|rfl|⟨b1,b2,b3⟩
   ·exact h.sep k j _ _ a3 hq a2 b hb hb'
   ·exact hb'.elim
   ·exact h.sep k l _ _ a3 b3 hne b hb hb'
theorem ex_mv {e:Exit} (i j:Nat) (hij:i≠j) {q:Res} (hq:L[j]? = some q) (h:EX Q e w0 ((L.set j noR).set i q) m tm d):EX Q e w0 L m tm d:=fun W hW=>h W (hW.mv i j hij hq)
end
section
variable {r : Option Nat} {n : Nat} {P : Program} {ρ : Operand → Value} {C : World → Prop}
variable {t : Option Tmp} {ty : TypeId} {pos : String} {af : Array Edge} {g : Option (Nat × Bool)}
theorem y_convQ {x:Operand} {u v:TypeId} {q q':IntKind} {a a':Int} (hu:P.underlying u=some (.int q)) (hv:P.underlying v=some (.int q')) (h:q'.wrap a=a') (hx:ρ x=.int q a):OpY r n P ⟨t,.convert u v x,ty,pos,af,g⟩ ρ C C (.int q' a') :=
 bm (by intro c h;cases h) (fun W _=>by
  have h1:(convert u v (.int q a)).run P W=.ok (.int q' a') W:=by
   simp[convert,underlying,hu,hv,Conv.intToInt,h]
  simp[execOp,hx,h1])
theorem y_indexStr {x ix:Operand} {u:TypeId} {s:ByteArray} {k:IntKind} {i:Int} {b:UInt8} (hu:P.underlying u=some .string) (h0:0≤i) (hb:s[i.toNat]? = some b) (hx:ρ x=.string s) (hi:ρ ix=.int k i):OpY r n P ⟨t,.index u x ix,ty,pos,af,g⟩ ρ C C (.int .u8 b.toNat) :=
 bm (by intro c h;cases h) (fun W _=>by
  simp[execOp,hx,hi,Instr.index,asIntOf,underlying,hu,h0,hb])
end
def fldT (P:Program) (s:TypeId) (f:Nat):Option (TypeId × Nat):=match P.underlying s with
 | some (.struct fs)=>(fs[f]?).map fun x=>(x.type,x.offset)
 | _=>none
section
variable {r : Option Nat} {n : Nat} {P : Program} {ρ : Operand → Value} {C : World → Prop}
variable {t : Option Tmp} {ty : TypeId} {pos : String} {af : Array Edge} {g : Option (Nat × Bool)}
theorem fldT_inv {s f off:Nat} {ft:TypeId} (h:fldT P s f=some (ft,off)):∃fs fd,P.underlying s=some (.struct fs)∧fs[f]? = some fd∧fd.type=ft∧fd.offset=off:=by
 unfold fldT at h
 split at h
 ·rename_i fs hu
  cases hf:fs[f]? with
  | none=>rw[hf]at h;cases h
  | some fd =>
   rw[hf]at h
   simp only[Option.map_some,Option.some.injEq,Prod.mk.injEq]at h
   exact⟨fs,fd,hu,hf,h.1,h.2⟩
 ·cases h
theorem tk (cs:List Value) {v:Value} {x:Operand} {s f off:Nat} {ft:TypeId} (hf:fldT P s f=some (ft,off)) (hs:scB P ft=true) (hx:ρ x=.agg cs.toArray) (hv:cs[off]? = some v):OpY r n P ⟨t,.field s x f,ty,pos,af,g⟩ ρ C C v:=by
 obtain⟨fs,fd,hu,h1,rfl,rfl⟩:=fldT_inv hf
 exact bm (by intro c h;cases h) (fun W _=>by
  simp[execOp,hx,Instr.field,underlying,hu,h1,asAgg,part,kx hs,iH hs,hv])
end
def fldsB (P:Program) (k:TypeId) (off:List (Nat × Nat × TypeId)):Bool:=match P.underlying k with
 | some (.struct fs)=>P.keyType k&&P.cellsOf k==off.length&&fs.all (·.name != "_")&&decide (fs.toList.map (fun f=>(f.offset,P.cellsOf f.type,f.type))=off)
 | _=>false
theorem keyS_2 {P:Program} {k a b:TypeId} {x y:Int} (hs:1≤P.types.size) (h:fldsB P k [(0,1,a),(1,1,b)]=true) (ha:P.underlying a=some (.int .i64)) (hb:P.underlying b=some (.int .i64)) (hx:(Lit.int .i64 x).wf=true) (hy:(Lit.int .i64 y).wf=true):∃l,keyOf P k (.agg #[.int .i64 x,.int .i64 y])=some l:=by
 unfold fldsB at h
 split at h
 ·rename_i fs hu
  simp only[Bool.and_eq_true,beq_iff_eq,decide_eq_true_eq,List.length_cons,List.length_nil]at h
  obtain⟨⟨⟨h1,h2⟩,h3⟩,h4⟩:=h
  obtain⟨s,hs⟩:∃s,P.types.size=s+1:=⟨P.types.size-1,by omega⟩
  obtain⟨f1,f2,hfs⟩:∃f1 f2,fs.toList=[f1,f2]:=by
   have hl:fs.toList.length=2:=by have:=congrArg List.length h4;simpa using this
   cases hm:fs.toList with
   | nil=>rw[hm]at hl;cases hl
   | cons f1 r =>
    cases r with
    | nil=>rw[hm]at hl;cases hl
    | cons f2 r =>
     cases r with
     | nil=>exact⟨f1,f2,E⟩
     | cons f3 r=>rw[hm]at hl;simp at hl
  rw[hfs]at h4
  simp only[List.map_cons,List.map_nil,List.cons.injEq,Prod.mk.injEq,and_true]at h4
  obtain⟨⟨a1,a2,a3⟩,b1,b2,b3⟩:=h4
  rw[a3]at a2
  rw[b3]at b2
  have e1:P.keyLits (P.types.size+1) k [.int .i64 x,.int .i64 y]=some [.int .i64 x,.int .i64 y]:=by
   rw[hs]
   unfold Program.keyLits
   rw[hu]
   simp only[h2,h3,hfs,List.length_cons,List.length_nil,and_self,if_true,List.mapM_cons,List.mapM_nil,a1,a3,b1,b3]
   unfold Program.keyLits
   simp[ha,hb,a2,b2,hx,hy]
  unfold keyOf
  rw[hu]
  simp[h1,Value.formed,hu,h2,Value.cells,e1]
 ·cases h
section
variable {P : Program} {w0 : World} {L : List Res} {m : Nat} {tm : Nat → Value}
end
section
variable {r : Option Nat} {n : Nat} {P : Program} {ρ : Operand → Value} {C : World → Prop} {w0 : World} {L : List Res}
variable {t : Option Tmp} {ty : TypeId} {pos : String} {af : Array Edge} {g : Option (Nat × Bool)}
theorem kj {x:Operand} {b o:Nat} (hx:ρ x=.pointer (some ⟨b,o,none⟩)):OpY r n P ⟨t,.nilCheck x,ty,pos,af,g⟩ ρ C C (.pointer (some ⟨b,o,none⟩)) :=
 bm (by intro c h;cases h) (fun W _=>by simp[execOp,hx])
theorem RdL.under {R:Res} {A:Option Addr} {k c:Nat} {cs:List Value} (h:∀W2,Below w0.heap.size w0 W2→R.holds W2→Rd W2 A k c cs):RdL w0 (R::L) A k c cs:=fun W hW=>h W hW.below (hW.mem (i:=0) E)
end
open Go.RowKit (Below)
abbrev Hd:=Option Addr × Nat × Nat
theorem rdL_snd {α β:Type} [Inhabited α] [Inhabited β] {ys:List (α × β)} {xs:List β} (h:ys.map Prod.snd=xs) (i:Int):(rdL ys i).2=rdL xs i:=by
 subst h
 unfold rdL
 rw[List.getD_eq_getElem?_getD,List.getD_eq_getElem?_getD,List.getElem?_map]
 cases ys[i.toNat]? <;> rfl
theorem sN {α:Type} [Inhabited α] {xs:List α} {i:Int} (h0:0≤i) (h1:i<(xs.length:Int)):rdL xs i∈xs:=by
 unfold rdL
 rw[List.getD_eq_getElem?_getD,List.getElem?_eq_getElem (show i.toNat<xs.length by omega)]
 exact List.getElem_mem _
section
variable {β γ : Type} {sel : β → List γ} {ic : γ → List Value}
structure NestP (sel:β→List γ) (ys:List (Hd × β)) (xs:List β):Prop where
 eq:ys.map Prod.snd=xs
 ln:∀y∈ys,y.1.2.1=(sel y.2).length
structure NestW (W:World) (sel:β→List γ) (ic:γ→List Value) (ys:List (Hd × β)) (xs:List β):Prop where
 p:NestP sel ys xs
 inn:∀y∈ys,Rd W y.1.1 y.1.2.1 y.1.2.2 (encL ic (sel y.2))
structure NestL (w0:World) (L:List Res) (sel:β→List γ) (ic:γ→List Value) (ys:List (Hd × β)) (xs:List β):Prop where
 p:NestP sel ys xs
 inn:∀y∈ys,RdL w0 L y.1.1 y.1.2.1 y.1.2.2 (encL ic (sel y.2))
variable {w0 W : World} {L : List Res} {ys : List (Hd × β)} {xs : List β}
theorem NestL.arg (h:NestW w0 sel ic ys xs):NestL w0 L sel ic ys xs:=⟨h.p,fun y hy=>RdL.arg (h.inn y hy)⟩
theorem NestL.at (h:NestL w0 L sel ic ys xs) (W:World) (hW:Ext w0 W L):NestW W sel ic ys xs:=⟨h.p,fun y hy=>h.inn y hy W hW⟩
theorem NestW.later {W':World} (h:NestW W sel ic ys xs) (hb:Below W.heap.size W W'):NestW W' sel ic ys xs:=⟨h.p,fun y hy=>(h.inn y hy).later hb⟩
theorem NestP.hn {n:Nat} (h:NestP sel ys xs) (hn:n=xs.length):n=ys.length:=by rw[hn,←h.eq,List.length_map]
variable [Inhabited β] [Inhabited γ]
omit [Inhabited γ] in
theorem NestP.snd (h:NestP sel ys xs) (i:Int):(rdL ys i).2=rdL xs i:=rdL_snd h.eq i
omit [Inhabited γ] in
theorem NestP.len (h:NestP sel ys xs) {i:Int} (h0:0≤i) (h1:i<(xs.length:Int)):(rdL ys i).1.2.1=(sel (rdL xs i)).length:=by
 have hl:xs.length=ys.length:=h.hn E
 rw[←h.snd i]
 exact h.ln _ (sN h0 (by omega))
omit [Inhabited γ] in
theorem NestL.rd (h:NestL w0 L sel ic ys xs) {i:Int} (h0:0≤i) (h1:i<(xs.length:Int)):RdL w0 L (rdL ys i).1.1 (sel (rdL xs i)).length (rdL ys i).1.2.2 (encL ic (sel (rdL xs i))):=by
 have hl:xs.length=ys.length:=h.p.hn E
 have h2:=h.p.len h0 h1
 have h3:=h.inn _ (sN (xs:=ys) h0 (by omega))
 rw[h2,h.p.snd i]at h3
 exact h3
end
theorem fN {cs vs us:List Value} {j:Nat} (he:vs=us) (h:∀q v,us[q]? = some v→cs[j+q]? = some v):∀q v,vs[q]? = some v→cs[j+q]? = some v:=by subst he;exact h
open Go.RowKit (Below)
section
variable {r : Option Nat} {n : Nat} {P : Program} {Q : Exit → Act → World → Prop} {w0 : World} {L : List Res} {m : Nat} {tm : Nat → Value} {d : List Deferred}
def rndM {S:Type} (I:S→List Res→(Nat→Value)→Prop) (μ:S→Nat) (Q:Exit→Act→World→Prop) (w0:World) (m:Nat) (d:List Deferred) (s:S):Exit→Act→World→Prop:=rndS (fun s a W=>∃L tm,a=act m tm d∧Ext w0 W L∧I s L tm) μ Q s
theorem sU {S:Type} {c:Code} (I:S→List Res→(Nat→Value)→Prop) (μ:S→Nat) (s0:S) (h0:I s0 L tm)
  (round:∀s L tm,I s L tm→CX r n P c (rndM I μ Q w0 m d s) w0 L m tm d):CX r n P (.loop c) Q w0 L m tm d:=fun W hW =>
 sW (fun s a W=>∃L tm,a=act m tm d∧Ext w0 W L∧I s L tm) μ (s0:=s0) ⟨L,tm,E,hW,h0⟩ (fun s a W h=>by
  obtain⟨L',tm',rfl,hE,hI⟩:=h
  exact round s L' tm' hI W hE)
theorem tI {S:Type} {I:S→List Res→(Nat→Value)→Prop} {μ:S→Nat} {s:S} (s':S) (h:I s' L tm) (hμ:μ s'<μ s):EX (rndM I μ Q w0 m d s) .normal w0 L m tm d:=fun W hW=>⟨fun _=>⟨s',⟨L,tm,E,hW,h⟩,hμ⟩,fun h=>absurd E h⟩
theorem ex_outM {S:Type} {I:S→List Res→(Nat→Value)→Prop} {μ:S→Nat} {s:S} {e:Exit} (he:e ≠ .normal) (h:EX Q e w0 L m tm d):EX (rndM I μ Q w0 m d s) e w0 L m tm d:=fun W hW=>⟨fun h'=>absurd h' he,fun _=>h W hW⟩
end
theorem sZ {P:Program} {W W':World} {b it:Nat} {s:Nat} {seen:Array Nat} {c0 clock:Nat} {es:Array MapEntry} {v:Value} (h1:W.heap[it]? = some (.mapIter (some b) s seen c0)) (h2:W.heap[b]? = some (.map es clock)) (h1':W'.heap[it]? = some (.mapIter (some b) s seen c0)) (h2':W'.heap[b]? = some (.map es clock))
  (h:(Instr.entry (.pointer (some ⟨it,0,none⟩))).run P W=.ok v W):(Instr.entry (.pointer (some ⟨it,0,none⟩))).run P W'=.ok v W':=by
 cases hb:seen.back? with
 | none =>
  simp[Instr.entry,getObj,Sem.run_bind,Sem.run,h1,hb,Result.andThen,stuck]at h
 | some q =>
  by_cases hc:clock=c0
  ·cases hf:es.find? (·.born==q)with
   | none=>simp[Instr.entry,getObj,Sem.run_bind,Sem.run,h1,h2,hb,hc,hf,Result.andThen,unsupported]at h
   | some e =>
    have e1:∀(X:World),X.heap[it]? = some (.mapIter (some b) s seen c0)→X.heap[b]? = some (.map es clock)→(Instr.entry (.pointer (some ⟨it,0,none⟩))).run P X=.ok (.tuple #[e.key,e.val]) X:=fun X hx hy=>by
     simp[Instr.entry,getObj,Sem.run_bind,Sem.run,hx,hy,hb,hc,hf,Result.andThen]
     try rfl
    rw[e1 W h1 h2]at h
    cases h
    exact e1 W' h1' h2'
  ·simp[Instr.entry,getObj,Sem.run_bind,Sem.run,h1,h2,hb,hc,Result.andThen,unsupported]at h
section
variable {κ β : Type} [DecidableEq κ]
def rngV (P:Program) (kt:TypeId) (ek:κ→Value) (ok:κ→Bool) (ev:β→Value) (z:β) (b it:Nat) (m:List (κ × β)) (left:κ→Bool) (cnt:Nat) (cur:Option (Value × Value)):Res where
 dom c:=c=b∨c=it
 holds W:=(∃D lf,W.ranges P kt rawR b it m.length D lf cnt∧Maps.IsMap D∧(∀x l,ok x=true→keyOf P kt (ek x)=some l→D.atKey l (.held (ev z))=.held (ev (aC z m x))∧Maps.has D l=bt m x)∧(∀l,Maps.has D l=true→∃x,ok x=true∧keyOf P kt (ek x)=some l)∧(∀x l,ok x=true→keyOf P kt (ek x)=some l→lf l=left x)∧∀l,lf l=true→Maps.has D l=true) ∧
  ∀q,cur=some q→(Instr.entry (.pointer (some ⟨it,0,none⟩))).run P W=.ok (.tuple #[q.1,q.2]) W
 loc W W' h _ hh:=by
  obtain⟨⟨D,lf,⟨es,clock,since,seen,c0,hb,F,hs,hD,hr,rest⟩,h2⟩,h3⟩:=hh
  have hb':=(h b (.inl E)).trans hb
  have hr':=(h it (.inr E)).trans hr
  exact⟨⟨D,lf,⟨es,clock,since,seen,c0,hb',F,hs,hD,hr',rest⟩,h2⟩,fun q hq=>sZ hr hb hr' hb' (h3 q hq)⟩
 inb W hh c hc:=by
  obtain⟨⟨D,lf,h1,_⟩,_⟩:=hh
  rcases hc with rfl|rfl
  ·exact h1.owns.lt
  ·exact h1.lt
end
section
variable {r : Option Nat} {n : Nat} {P : Program} {ops : Array Oper} {Q : Exit → Act → World → Prop} {w0 : World} {L : List Res} {m : Nat} {tm : Nat → Value} {d : List Deferred}
variable {t : Tmp} {ty : TypeId} {pos : String} {af : Array Edge} {g : Option (Nat × Bool)} {rest : List Oper}
variable {κ β : Type} [DecidableEq κ] {kt : TypeId} {ek : κ → Value} {ok : κ → Bool} {ev : β → Value} {z : β}
end
section
variable {r : Option Nat} {n : Nat} {P : Program} {ρ : Operand → Value} {w0 : World} {L : List Res}
variable {t : Option Tmp} {ty : TypeId} {pos : String} {af : Array Edge} {g : Option (Nat × Bool)}
variable {κ β : Type} [DecidableEq κ] {kt : TypeId} {ek : κ → Value} {ok : κ → Bool} {ev : β → Value} {z : β}
end
open Go.RowKit (Below)
section
variable {w0 : World} {L : List Res}
theorem Ext.rot {W:World} {p:Res} (h:Ext w0 W (p::L)):Ext w0 W (L++[p]):=by
 have hg:∀(k:Nat) (q:Res),(L++[p])[k]? = some q→∃j,(p::L)[j]? = some q∧(k<L.length→j=k+1)∧(L.length≤k→j=0∧k=L.length):=by
  intro k q hq
  rcases Nat.lt_or_ge k L.length with hk|hk
  ·rw[List.getElem?_append_left hk]at hq
   exact⟨k+1,by simpa using hq,fun _=>E,fun h'=>by omega⟩
  ·rw[List.getElem?_append_right hk]at hq
   have:k-L.length=0:=by
    cases hkk:k-L.length with
    | zero=>rfl
    | succ z=>rw[hkk]at hq;simp at hq
   rw[this]at hq
   exact⟨0,by simpa using hq,fun h'=>by omega,fun _=>⟨E,by omega⟩⟩
 refine⟨h.below,fun k q hq=>?_,fun k q hq=>?_,fun k l q q' hq hq' hne=>?_⟩
 ·obtain⟨j,hj,_⟩:=hg k q hq;exact h.all j q hj
 ·obtain⟨j,hj,_⟩:=hg k q hq;exact h.new j q hj
 ·obtain⟨j,hj,a1,a2⟩:=hg k q hq
  obtain⟨i,hi,b1,b2⟩:=hg l q' hq'
  refine h.sep j i q q' hj hi (fun e=>hne ?_)
  rcases Nat.lt_or_ge k L.length with hk|hk <;> rcases Nat.lt_or_ge l L.length with hl|hl
  ·have:=a1 hk;have:=b1 hl;omega
  ·have:=a1 hk;have:=(b2 hl).1;omega
  ·have:=(a2 hk).1;have:=b1 hl;omega
  ·have:=(a2 hk).2;have:=(b2 hl).2;omega
theorem Ext.tail {W:World} {p:Res} (h:Ext w0 W (p::L)):Ext w0 W L:=by
 have:=h.rot.take L.length
 rw[List.take_left]at this
 exact this
end
section
variable {r : Option Nat} {n : Nat} {P : Program} {Q : Exit → Act → World → Prop} {w0 : World} {L : List Res} {m : Nat} {tm : Nat → Value} {d : List Deferred}
end
section
variable {P : Program} {Q : Exit → Act → World → Prop} {w0 : World} {L : List Res} {m : Nat} {tm : Nat → Value} {d : List Deferred}
variable {ops : Array Oper} {t : Tmp} {ty : TypeId} {pos : String} {af : Array Edge} {g : Option (Nat × Bool)} {rest : List Oper}
end
open Go.RowKit (Below)
section
variable {r : Option Nat} {n : Nat} {P : Program} {ρ : Operand → Value} {w0 : World} {L : List Res}
variable {t : Option Tmp} {ty : TypeId} {pos : String} {af : Array Edge} {g : Option (Nat × Bool)} {C : World → Prop}
theorem sG {f:Fn} {first caps:List Operand} (us vs:List Value) (hf:first.map ρ=us) (hc:caps.map ρ=vs):OpY r n P ⟨t,.makeFunc f first.toArray caps.toArray,ty,pos,af,g⟩ ρ C C (.func f us.toArray vs.toArray) :=
 bm (by intro c h;cases h) (fun W _=>by
  subst hf hc
  simp[execOp,Instr.makeFunc])
theorem gx {f:FuncId} {x:Operand} {xs:List Operand} {us:Array TypeId} {fst caps:List Value} (vs:List Value) {v:Value} (hf:bA P f=true) (hx:ρ x=.func (.func f) fst.toArray caps.toArray) (ha:xs.map ρ=vs)
  (h:∀W,Ext w0 W L→Calls P f (fst++(vs++caps)).toArray W fun e W'=>e=.returned v∧Ext W W' []) :
  OpY r n P ⟨t,.call ⟨.value x,xs.toArray,us⟩,ty,pos,af,g⟩ ρ (fun W=>Ext w0 W L) (fun W=>Ext w0 W L) v:=fun W hW=>by
 rw[bQ (by intro c h;cases h)]
 subst ha
 have e:(execOp ρ ⟨t,.call ⟨.value x,xs.toArray,us⟩,ty,pos,af,g⟩).run P W=.ok (.enter f (fst++(xs.map ρ++caps)).toArray) W:=by
  simp[execOp,resolve,hx,Deferred.ofValue,invoke,jc hf]
 rw[e]
 refine(h W hW).mono ?_
 rintro e W' ⟨rfl,hx⟩
 exact⟨E,hW.below' hx.below⟩
end
section
variable {w0 : World} {L : List Res}
theorem Ext.split {W:World} (h:Ext w0 W L) (i:Nat) {p:Res} (hp:L[i]? = some p) (p1 p2:Res) (h1:p.holds W→p1.holds W∧p2.holds W) (hd1:∀b,p1.dom b→p.dom b) (hd2:∀b,p2.dom b→p.dom b) (hs:p.holds W→∀b,p1.dom b→¬p2.dom b):Ext w0 W (L.set i p1++[p2]):=by
 have hh:=h.mem hp
 have h2:=h.tell i hp (q:=p1) (fun hh=>(h1 hh).1) hd1
 refine h2.snoc (h1 hh).2 (fun b hb=>h.new i p hp b (hd2 b hb)) (fun j q hq b hb hb'=>?_)
 rw[List.getElem?_set]at hq
 by_cases e:i=j
 ·subst e
  rw[if_pos E]at hq
  split at hq
  ·cases hq;exact hs hh b hb hb'
  ·cases hq
 ·rw[if_neg e]at hq
  exact h.sep j i q p hq hp (fun e'=>e e'.symm) b hb (hd2 b hb')
end
def mj:Hd:=(none,0,0)
section
variable {κ γ : Type} [DecidableEq κ]
structure HsOk (hs:List (κ × Hd)) (vs:List (κ × List γ)):Prop where
 len:hs.length=vs.length
 eq:∀k,(aC mj hs k).2.1=(aC [] vs k).length
theorem HsOk.nil:HsOk ([]:List (κ × Hd)) ([]:List (κ × List γ)):=⟨E,fun _=>E⟩
theorem HsOk.cons {hs:List (κ × Hd)} {vs:List (κ × List γ)} {k:κ} {h:Hd} {v:List γ} (ho:HsOk hs vs) (hv:h.2.1=v.length):HsOk ((k,h)::hs) ((k,v)::vs):=by
 refine⟨by simp[ho.len],fun q=>?_⟩
 unfold aC
 split
 ·exact hv
 ·exact ho.eq q
def rowsX (e:TypeId) (sz:Nat) (ic:γ→List Value) (hs:List (κ × Hd)) (vs:List (κ × List γ)) (X:κ→Prop):Res where
 dom c:=∃k,¬X k∧(aR (aC mj hs k).1 (aC mj hs k).2.2 e sz (aC mj hs k).2.1 (encL ic (aC [] vs k))).dom c
 holds W:=(∀k,¬X k→(aR (aC mj hs k).1 (aC mj hs k).2.2 e sz (aC mj hs k).2.1 (encL ic (aC [] vs k))).holds W) ∧
  ∀k k',¬X k→¬X k'→k≠k'→∀c,(aR (aC mj hs k).1 (aC mj hs k).2.2 e sz (aC mj hs k).2.1 (encL ic (aC [] vs k))).dom c→¬(aR (aC mj hs k').1 (aC mj hs k').2.2 e sz (aC mj hs k').2.1 (encL ic (aC [] vs k'))).dom c
 loc W W' h hs hh:=⟨fun k hk=>Res.loc _ W W' (fun b hb=>h b ⟨k,hk,hb⟩) hs (hh.1 k hk),hh.2⟩
 inb W hh b hb:=by
  obtain⟨k,hk,hb⟩:=hb
  exact Res.inb _ W (hh.1 k hk) b hb
def rowsS (e:TypeId) (sz:Nat) (ic:γ→List Value) (hs:List (κ × Hd)) (vs:List (κ × List γ)):Res:=rowsX e sz ic hs vs (fun _=>False)
variable {w0 : World} {L : List Res} {e : TypeId} {sz : Nat} {ic : γ → List Value} {hs : List (κ × Hd)} {vs : List (κ × List γ)}
theorem RdL.rows (ho:HsOk hs vs) (i:Nat) (hL:L[i]? = some (rowsS e sz ic hs vs)) (k:κ):RdL w0 L (aC mj hs k).1 (aC [] vs k).length (aC mj hs k).2.2 (encL ic (aC [] vs k)):=fun W hW =>
 ho.eq k▸eZ ((hW.mem hL).1 k (fun h=>h))
end
section
variable {r : Option Nat} {n : Nat} {P : Program} {ops : Array Oper} {Q : Exit → Act → World → Prop} {w0 : World} {L : List Res} {m : Nat} {tm : Nat → Value} {d : List Deferred}
variable {t : Tmp} {ty : TypeId} {pos : String} {af : Array Edge} {g : Option (Nat × Bool)} {l rest : List Oper}
variable {κ γ : Type} [DecidableEq κ] {ek : κ → Value} {ok : κ → Bool} {e : TypeId} {sz : Nat} {ic : γ → List Value} {hs : List (κ × Hd)} {vs : List (κ × List γ)}
section
variable {ρ : Operand → Value} {t' : Option Tmp}
end
end
open Go.RowKit (Below)
section
variable {κ β γ : Type} [DecidableEq κ]
variable {P : Program} {kt : TypeId} {ek : κ → Value} {ok : κ → Bool} {ev : β → Value} {z : β} {b : Nat}
end
section
variable {r : Option Nat} {n : Nat} {P : Program} {ρ : Operand → Value} {w0 : World} {L : List Res}
variable {ty : TypeId} {pos : String} {af : Array Edge} {g : Option (Nat × Bool)}
variable {κ β : Type} [DecidableEq κ] {kt : TypeId} {ek : κ → Value} {ok : κ → Bool} {ev : β → Value} {z : β}
end
section
variable {r : Option Nat} {n : Nat} {P : Program} {ops : Array Oper} {Q : Exit → Act → World → Prop} {w0 : World} {L : List Res} {m : Nat} {tm : Nat → Value} {d : List Deferred}
variable {ty : TypeId} {pos : String} {af : Array Edge} {g : Option (Nat × Bool)} {rest : List Oper} {e : Exit}
variable {κ β : Type} [DecidableEq κ] {kt : TypeId} {ek : κ → Value} {ok : κ → Bool} {ev : β → Value} {z : β}
end
section
variable {P : Program} {κ β : Type} [DecidableEq κ] {kt : TypeId} {ek : κ → Value} {ok : κ → Bool} {ev : β → Value} {z : β}
theorem rngV_at {W W':World} {b it c:Nat} {M:List (κ × β)} {left:κ→Bool} {cur:Option (Value × Value)} (hh:(rngV P kt ek ok ev z b it M left c cur).holds W) (hb:W'.heap[b]? = W.heap[b]?) (hi:W'.heap[it]? = W.heap[it]?):(rngV P kt ek ok ev z b it M left c cur).holds W':=by
 obtain⟨⟨D,lf,⟨es,clock,since,seen,c0,hb0,F,hs,hD,hr,rest⟩,h2⟩,h3⟩:=hh
 exact⟨⟨D,lf,⟨es,clock,since,seen,c0,hb.trans hb0,F,hs,hD,hi.trans hr,rest⟩,h2⟩,fun q hq=>sZ hr hb0 (hi.trans hr) (hb.trans hb0) (h3 q hq)⟩
theorem rngV_next {W:World} {b it c:Nat} {M:List (κ × β)} {left:κ→Bool} {cur:Option (Value × Value)} (K:KeyE P kt ek ok) (hh:(rngV P kt ek ok ev z b it M left c cur).holds W) (ty:TypeId) :
  ((∀y,ok y=true→left y=false)∧(Instr.next (.pointer (some ⟨it,0,none⟩)) false ty).run P W=.ok (.tuple #[.bool false]) W) ∨
  ∃y W' c',ok y=true∧left y=true∧bt M y=true∧c'<c∧(Instr.next (.pointer (some ⟨it,0,none⟩)) false ty).run P W=.ok (.tuple #[.bool true,ek y,ev (aC z M y)]) W'∧(rngV P kt ek ok ev z b it M (fun q=>left q && !decide (q=y)) c' (some (ek y,ev (aC z M y)))).holds W'∧W.grownBy W' (some it):=by
 obtain⟨⟨D,lf,hr,h2,h3,h4,h5,h6⟩,_⟩:=hh
 rcases hr.next K.keyed ty with⟨_,hl,hrun⟩|⟨key,v,kl,y0,W',k',hkey,hlk,hv,hat,hrun,hr',hk',hg,hs,hen⟩
 ·refine .inl ⟨fun y hy=>?_,hrun⟩
  obtain⟨l,hl'⟩:=K.tot y hy
  rw[←h5 y l hy hl']
  exact hl l
 ·obtain⟨y,hy,hyl⟩:=h4 kl (h6 kl hlk)
  have hke:key=ek y:=K.keyed.inj hkey hyl
  have hva:v=ev (aC z M y):=by
   have e1:=(h3 y kl hy hyl).1
   rw[hat]at e1
   have e2:y0=(.held v,[]):=(Option.some.inj hv).symm
   rw[e2]at e1
   simp only[DataW.held.injEq]at e1
   exact e1
  subst hke hva
  refine .inr ⟨y,W',k',hy,by rw[←h5 y kl hy hyl];exact hlk,by rw[←(h3 y kl hy hyl).2];exact h6 kl hlk,hk',hrun,⟨⟨D,_,hr',h2,h3,h4,fun q l hq hl=>?_,fun l hl=>?_⟩,fun q hq=>by cases hq;exact hen⟩,hg⟩
  ·show(lf l && !l.sameKey kl)=(left q && !decide (q=y))
   rw[h5 q l hq hl]
   by_cases e:q=y
   ·subst e
    have e3:l=kl:=by rw[hl]at hyl;exact Option.some.inj hyl
    rw[e3,WideAt.sameKey_self (K.keyed.key hyl)]
    simp
   ·have e3:l.sameKey kl=false:=by
     cases hsk:l.sameKey kl with
     | false=>rfl
     | true =>
      have e4:=WideAt.sameKey_eq hsk
      exact absurd (K.inj q y (K.keyed.inj hl (e4▸hyl))) e
    rw[e3]
    simp[e]
  ·have hl2:(lf l && !l.sameKey kl)=true:=hl
   rw[Bool.and_eq_true]at hl2
   exact h6 l hl2.1
def rngA (w0:World) (P:Program) (kt:TypeId) (ek:κ→Value) (ok:κ→Bool) (ev:β→Value) (z:β) (b it:Nat) (M:List (κ × β)) (left:κ→Bool) (c:Nat) (cur:Option (Value × Value)):Res where
 dom x:=x=it
 holds W:=it<W.heap.size∧∀W',W'.heap[it]? = W.heap[it]?→W'.heap[b]? = w0.heap[b]?→(rngV P kt ek ok ev z b it M left c cur).holds W'
 loc W W' h hs hh:=⟨Nat.lt_of_lt_of_le hh.1 hs,fun W2 h1 h2=>hh.2 W2 (h1.trans (h it E)) h2⟩
 inb W hh x hx:=by
  have hx':x=it:=hx
  rw[hx']
  exact hh.1
theorem Cy.rngA {B:Nat} {w0:World} {b it c:Nat} {M:List (κ × β)} {left:κ→Bool} {cur:Option (Value × Value)} (h:it<B):Cy B (rngA w0 P kt ek ok ev z b it M left c cur):=fun W x _ hx=>by
 have hx':x=it:=hx
 exact .inl (by omega)
end
section
variable {r : Option Nat} {n : Nat} {P : Program} {ops : Array Oper} {Q : Exit → Act → World → Prop} {w0 : World} {L : List Res} {m : Nat} {tm : Nat → Value} {d : List Deferred}
variable {t : Tmp} {ty : TypeId} {pos : String} {af : Array Edge} {g : Option (Nat × Bool)} {rest : List Oper} {e : Exit}
variable {κ β : Type} [DecidableEq κ] {kt : TypeId} {ek : κ → Value} {ok : κ → Bool} {ev : β → Value} {z : β}
theorem rU {mt et b:Nat} {M:List (κ × β)} {x:Operand} (hM:(mapV P kt ek ok ev z b M).holds w0) (K:KeyE P kt ek ok) (hm:P.underlying mt=some (.map kt et)) (hx:opv m tm x=.map (some b))
  (hw:eW ops m tm ⟨some t,.range mt x,ty,pos,af,g⟩=true)
  (h:∀it k,k≤M.length→OX r n P ops Q w0 (L++[rngA w0 P kt ek ok ev z b it M (fun y=>bt M y) k none]) rest m (upd tm t (.pointer (some ⟨it,0,none⟩))) d) :
  OX r n P ops Q w0 L (⟨some t,.range mt x,ty,pos,af,g⟩::rest) m tm d :=
 jk hw (by intro c h;cases h) fun W hW=>by
  have hb0:b<w0.heap.size:=(mapV P kt ek ok ev z b M).inb w0 hM b E
  have hMW:=mapV.later hM hW.below
  obtain⟨D,h1,h2,h3,h4⟩:=hMW
  obtain⟨W',hrun,hr,hg,hs⟩:=h1.range K.keyed hm
  have hsz:=hW.size
  have hbW:W'.heap[b]? = w0.heap[b]?:=by rw[hg.block b (by omega) (by simp),hW.below.block b hb0]
  have hrv:(rngV P kt ek ok ev z b W.heap.size M (fun y=>bt M y) (Maps.size D) none).holds W':=⟨⟨D,Maps.has D,hr,h2,h3,h4,fun y l hy hl=>(h3 y l hy hl).2,fun _ h=>h⟩,fun q hq=>by cases hq⟩
  refine⟨_,W',_,by simp[execOp,hx,hrun],?_,h W.heap.size (Maps.size D) h1.size_le⟩
  have h7:Ext w0 W' L:=hW.keep (hW.below.trans ⟨hg.os,hg.tape,hg.output,hg.size,fun c hc=>hg.block c (by omega) (by simp)⟩) hg.size (fun i p hp c hd=>hg.block c (p.inb W (hW.all i p hp) c hd) (by simp))
  refine h7.snoc ⟨by rw[hs];exact Nat.lt_succ_self _,fun W2 e1 e2=>rngV_at hrv (e2.trans hbW.symm) e1⟩ (fun c hc=>?_) (fun i q hq c hc hc'=>?_)
  ·have hc':c=W.heap.size:=hc
   omega
  ·have hc'':c=W.heap.size:=hc'
   have:=q.inb W (hW.all i q hq) c hc
   omega
theorem tM (i:Nat) {b it k:Nat} {M:List (κ × β)} {left:κ→Bool} {cur:Option (Value × Value)} {x:Operand} (hb0:b<w0.heap.size) (hL:L[i]? = some (rngA w0 P kt ek ok ev z b it M left k cur)) (K:KeyE P kt ek ok) (hx:opv m tm x=.pointer (some ⟨it,0,none⟩))
  (hw:eW ops m tm ⟨some t,.next x false,ty,pos,af,g⟩=true)
  (h0:(∀y,ok y=true→left y=false)→OX r n P ops Q w0 L rest m (upd tm t (.tuple #[.bool false])) d)
  (h1:∀y k',ok y=true→left y=true→bt M y=true→k'<k→OX r n P ops Q w0 (L.set i (rngA w0 P kt ek ok ev z b it M (fun q=>left q && !decide (q=y)) k' (some (ek y,ev (aC z M y))))) rest m (upd tm t (.tuple #[.bool true,ek y,ev (aC z M y)])) d) :
  OX r n P ops Q w0 L (⟨some t,.next x false,ty,pos,af,g⟩::rest) m tm d :=
 jk hw (by intro c h;cases h) fun W hW=>by
  have hh:=hW.mem hL
  have hbW:W.heap[b]? = w0.heap[b]?:=hW.below.block b hb0
  rcases rngV_next K (hh.2 W E hbW) ty with⟨hno,hrun⟩|⟨y,W',k',hy,hly,hM,hk',hrun,hrv,hg⟩
  ·exact⟨_,W,L,by simp[execOp,hx,hrun],hW,h0 hno⟩
  ·have hne:b≠it:=fun e=>by
    have:=hW.new i _ hL it E
    omega
   have hbW':W'.heap[b]? = w0.heap[b]?:=by rw[hg.block b (by have:=hW.size;omega) (by simpa using fun e=>hne e),hbW]
   refine⟨_,W',_,by simp[execOp,hx,hrun],?_,h1 y k' hy hly hM hk'⟩
   exact hW.set hL _ ⟨Nat.lt_of_lt_of_le hh.1 hg.size,fun W2 e1 e2=>rngV_at hrv (e2.trans hbW'.symm) e1⟩ hg.os hg.tape hg.output hg.size (fun c hc hn=>hg.block c hc (fun e=>hn (by cases e;rfl))) (fun c hc=>.inl hc)
theorem oV (i:Nat) {b it c:Nat} {M:List (κ × β)} {left:κ→Bool} {cur:Option (Value × Value)} (hL:L[i]? = some (rngA w0 P kt ek ok ev z b it M left c cur)) (h:EX Q e w0 (L.set i (rngA w0 P kt ek ok ev z b it M left c none)) m tm d):EX Q e w0 L m tm d:=fun W hW =>
 h W (hW.tell i hL (fun hh=>⟨hh.1,fun W2 e1 e2=>⟨(hh.2 W2 e1 e2).1,fun q hq=>by cases hq⟩⟩) (fun b hb=>hb))
end
section
variable {r : Option Nat} {n : Nat} {P : Program} {ρ : Operand → Value} {w0 : World} {L : List Res}
variable {t : Option Tmp} {ty : TypeId} {pos : String} {af : Array Edge} {g : Option (Nat × Bool)}
variable {κ β : Type} [DecidableEq κ] {kt : TypeId} {ek : κ → Value} {ok : κ → Bool} {ev : β → Value} {z : β}
theorem tq (i:Nat) {b it k:Nat} {M:List (κ × β)} {left:κ→Bool} {a c:Value} {x:Operand} (hb0:b<w0.heap.size) (hL:L[i]? = some (rngA w0 P kt ek ok ev z b it M left k (some (a,c)))) (hx:ρ x=.pointer (some ⟨it,0,none⟩)) :
  OpY r n P ⟨t,.entry x,ty,pos,af,g⟩ ρ (fun W=>Ext w0 W L) (fun W=>Ext w0 W L) (.tuple #[a,c]) :=
 bm (by intro c h;cases h) (fun W hW=>by
  obtain⟨_,h⟩:=(hW.mem hL).2 W E (hW.below.block b hb0)
  simp[execOp,hx,h _ E])
end
section
variable {κ β γ : Type} [DecidableEq κ] {ok : κ → Bool}
structure UnionI (ok:κ→Bool) (z v:γ) (M:List (κ × β)) (m0:List (κ × γ)) (s:Nat × (κ→Bool) × List (κ × γ)):Prop where
 len:s.2.2.length+s.1≤m0.length+M.length
 val:∀q,ok q=true→aC z s.2.2 q=(if(bt M q && !s.2.1 q)=true then v else aC z m0 q)∧bt s.2.2 q=(bt M q && !s.2.1 q||bt m0 q)
theorem UnionI.start {z v:γ} {M:List (κ × β)} {m0:List (κ × γ)} {k:Nat} (hk:k≤M.length):UnionI ok z v M m0 (k,(fun y=>bt M y),m0) :=
 ⟨by simp;omega,fun q _=>by simp⟩
theorem UnionI.step {z v:γ} {M:List (κ × β)} {m0:List (κ × γ)} {s:Nat × (κ→Bool) × List (κ × γ)} (h:UnionI ok z v M m0 s) {y:κ} {k:Nat} (hy:ok y=true) (hM:bt M y=true) (hk:k<s.1) :
  UnionI ok z v M m0 (k,(fun q=>s.2.1 q && !decide (q=y)),(y,v)::s.2.2):=by
 refine⟨by have:=h.len;simp only[List.length_cons];omega,fun q hq=>?_⟩
 obtain⟨h1,h2⟩:=h.val q hq
 simp only[fZ,eB,h1,h2]
 by_cases e:y=q
 ·subst e
  simp[hM]
 ·have e':¬q=y:=fun h=>e h.symm
  simp[e,e']
theorem UnionI.room {z v:γ} {M:List (κ × β)} {m0:List (κ × γ)} {s:Nat × (κ→Bool) × List (κ × γ)} (h:UnionI ok z v M m0 s) {k:Nat} (hk:k<s.1) (hg:m0.length+M.length≤1000000):s.2.2.length<1000000:=by have:=h.len;omega
theorem UnionI.done {z v:γ} {M:List (κ × β)} {m0:List (κ × γ)} {s:Nat × (κ→Bool) × List (κ × γ)} (h:UnionI ok z v M m0 s) (hno:∀y,ok y=true→s.2.1 y=false):∀q,ok q=true→aC z s.2.2 q=aC z (p9 v M m0) q∧bt s.2.2 q=bt (p9 v M m0) q:=fun q hq=>by
 obtain⟨h1,h2⟩:=h.val q hq
 rw[mget_union,mhas_union,h1,h2,hno q hq]
 simp
structure DiffI (ok:κ→Bool) (z:γ) (M:List (κ × β)) (m0:List (κ × γ)) (s:Nat × (κ→Bool) × List (κ × γ)):Prop where
 val:∀q,ok q=true→aC z s.2.2 q=(if(bt M q && !s.2.1 q)=true then z else aC z m0 q)∧bt s.2.2 q=(!(bt M q && !s.2.1 q)&&bt m0 q)
theorem DiffI.start {z:γ} {M:List (κ × β)} {m0:List (κ × γ)} {k:Nat}:DiffI ok z M m0 (k,(fun y=>bt M y),m0):=⟨fun q _=>by simp⟩
theorem DiffI.step {z:γ} {M:List (κ × β)} {m0:List (κ × γ)} {s:Nat × (κ→Bool) × List (κ × γ)} (h:DiffI ok z M m0 s) {y:κ} {k:Nat} (hy:ok y=true) (hM:bt M y=true) :
  DiffI ok z M m0 (k,(fun q=>s.2.1 q && !decide (q=y)),mdelV s.2.2 y):=by
 refine⟨fun q hq=>?_⟩
 obtain⟨h1,h2⟩:=h.val q hq
 simp only[mget_del,mhas_del,h1,h2]
 by_cases e:q=y
 ·subst e;simp[hM]
 ·simp[e]
theorem DiffI.done {z:γ} {M:List (κ × β)} {m0:List (κ × γ)} {s:Nat × (κ→Bool) × List (κ × γ)} (h:DiffI ok z M m0 s) (hno:∀y,ok y=true→s.2.1 y=false):∀q,ok q=true→aC z s.2.2 q=aC z (diffV M m0) q∧bt s.2.2 q=bt (diffV M m0) q:=fun q hq=>by
 obtain⟨h1,h2⟩:=h.val q hq
 unfold diffV
 rw[mm z (fun x => !bt M x),ml (fun x => !bt M x),h1,h2,hno q hq]
 cases bt M q <;> simp
structure DropI (ok:κ→Bool) (z:β) (c:κ→Bool) (M:List (κ × β)) (s:Nat × (κ→Bool) × List (κ × β)):Prop where
 val:∀q,ok q=true→aC z s.2.2 q=(if(bt M q && !s.2.1 q&&c q)=true then z else aC z M q)∧bt s.2.2 q=(!(bt M q && !s.2.1 q&&c q)&&bt M q)
theorem DropI.start {z:β} {c:κ→Bool} {M:List (κ × β)} {k:Nat}:DropI ok z c M (k,(fun y=>bt M y),M):=⟨fun q _=>by simp⟩
theorem DropI.keep {z:β} {c:κ→Bool} {M:List (κ × β)} {s:Nat × (κ→Bool) × List (κ × β)} (h:DropI ok z c M s) {y:κ} {k:Nat} (hc:c y=false):DropI ok z c M (k,(fun q=>s.2.1 q && !decide (q=y)),s.2.2):=by
 refine⟨fun q hq=>?_⟩
 obtain⟨h1,h2⟩:=h.val q hq
 simp only[h1,h2]
 by_cases e:q=y
 ·subst e;simp[hc]
 ·simp[e]
theorem DropI.done {z:β} {c:κ→Bool} {M:List (κ × β)} {s:Nat × (κ→Bool) × List (κ × β)} (h:DropI ok z c M s) (hno:∀y,ok y=true→s.2.1 y=false):∀q,ok q=true→aC z s.2.2 q=aC z (M.filter fun p => !c p.1) q∧bt s.2.2 q=bt (M.filter fun p => !c p.1) q:=fun q hq=>by
 obtain⟨h1,h2⟩:=h.val q hq
 rw[mm z (fun x => !c x),ml (fun x => !c x),h1,h2,hno q hq]
 cases hm:bt M q with
 | true=>cases c q <;> simp
 | false=>rw[mget_none hm];cases c q <;> simp
structure CollI (ok:κ→Bool) (M:List (κ × Bool)) (s:Nat × (κ→Bool) × List κ):Prop where
 len:s.2.2.length+s.1≤M.length
 nd:s.2.2.Nodup
 val:∀q,q∈s.2.2↔ok q=true∧bt M q=true∧s.2.1 q=false∧aC false M q=true
theorem CollI.start {M:List (κ × Bool)} {k:Nat} (hk:k≤M.length):CollI ok M (k,(fun y=>bt M y),[]) :=
 ⟨by simpa using hk,List.Pairwise.nil,fun q=>by
  simp only[List.not_mem_nil,false_iff]
  intro h
  rw[h.2.1]at h
  exact absurd h.2.2.1 (by simp)⟩
theorem CollI.keep {M:List (κ × Bool)} {s:Nat × (κ→Bool) × List κ} (h:CollI ok M s) {y:κ} {k:Nat} (hk:k<s.1) (hv:aC false M y=false):CollI ok M (k,(fun q=>s.2.1 q && !decide (q=y)),s.2.2):=by
 refine⟨by have:=h.len;simp only;omega,h.nd,fun q=>?_⟩
 rw[h.val q]
 by_cases e:q=y
 ·subst e;simp[hv]
 ·simp[e]
theorem CollI.app {M:List (κ × Bool)} {s:Nat × (κ→Bool) × List κ} (h:CollI ok M s) {y:κ} {k:Nat} (hy:ok y=true) (hly:s.2.1 y=true) (hM:bt M y=true) (hk:k<s.1) (hv:aC false M y=true):CollI ok M (k,(fun q=>s.2.1 q && !decide (q=y)),s.2.2++[y]):=by
 refine⟨by have:=h.len;simp only[List.length_append,List.length_cons,List.length_nil];omega,?_,fun q=>?_⟩
 ·rw[List.nodup_append]
  refine⟨h.nd,by simp,fun a ha b hb=>?_⟩
  rw[List.mem_singleton.1 hb]
  intro e
  subst e
  have:=((h.val a).1 ha).2.2.1
  rw[hly]at this
  cases this
 ·rw[List.mem_append,h.val q,List.mem_singleton]
  by_cases e:q=y
  ·subst e;simp[hy,hM,hv]
  ·simp[e]
end
section
variable {κ β α : Type} [DecidableEq κ]
theorem jX:∀(m:List (κ × β)) (q:κ),q∈iI m↔bt m q=true
 | [],q=>by simp[iI,bt]
 | (k,v)::m,q=>by
  unfold iI
  rw[eB]
  cases hm:bt m k with
  | true =>
   rw[if_pos E,jX m q]
   by_cases e:k=q
   ·subst e;simp[hm]
   ·simp[e]
  | false =>
   rw[if_neg (by simp),List.mem_cons,jX m q]
   by_cases e:k=q
   ·subst e;simp
   ·have e':¬q=k:=fun h=>e h.symm
    simp[e,e']
theorem mo:∀(m:List (κ × β)),(iI m).Nodup
 | []=>by simp[iI]
 | (k,v)::m=>by
  unfold iI
  cases hm:bt m k with
  | true=>rw[if_pos E];exact mo m
  | false =>
   rw[if_neg (by simp),List.nodup_cons]
   exact⟨fun h=>(by rw[(jX m k).1 h]at hm;cases hm),mo m⟩
theorem kR {ok:κ→Bool} {C:κ→Prop} [∀y,Decidable (C y)] {M:List (κ × β)} (h:(iI M).all (fun y=>ok y&&decide (C y))=true) {y:κ} (hy:bt M y=true):C y:=by
 have:=List.all_eq_true.1 h y ((jX M y).2 hy)
 rw[Bool.and_eq_true]at this
 exact of_decide_eq_true this.2
def FoldI (ok:κ→Bool) (M:List (κ × β)) (step:α→κ→α) (a0:α) (s:Nat × (κ→Bool) × α):Prop :=
 ∃done:List κ,done.Nodup∧(∀q,q∈done↔ok q=true∧bt M q=true∧s.2.1 q=false)∧s.2.2=done.foldl step a0
theorem FoldI.start {ok:κ→Bool} {M:List (κ × β)} {step:α→κ→α} {a0:α} {k:Nat}:FoldI ok M step a0 (k,(fun y=>bt M y),a0) :=
 ⟨[],by simp,fun q=>⟨fun h=>(by cases h),fun h=>(by
  have h2:=h.2.2
  dsimp only at h2
  rw[h.2.1]at h2
  cases h2)⟩,E⟩
theorem FoldI.step {ok:κ→Bool} {M:List (κ × β)} {step:α→κ→α} {a0:α} {s:Nat × (κ→Bool) × α} (h:FoldI ok M step a0 s) {y:κ} {k:Nat} (hy:ok y=true) (hl:s.2.1 y=true) (hM:bt M y=true) :
  FoldI ok M step a0 (k,(fun q=>s.2.1 q && !decide (q=y)),step s.2.2 y):=by
 obtain⟨d,h1,h2,h3⟩:=h
 refine⟨d++[y],?_,fun q=>?_,?_⟩
 ·rw[List.nodup_append]
  refine⟨h1,by simp,fun a ha b hb=>?_⟩
  rw[List.mem_singleton.1 hb]
  intro e
  subst e
  have:=((h2 a).1 ha).2.2
  rw[hl]at this
  cases this
 ·rw[List.mem_append,h2 q,List.mem_singleton]
  by_cases e:q=y
  ·subst e;simp[hy,hM]
  ·simp[e]
 ·rw[List.foldl_append,←h3]
  rfl
theorem FoldI.done {ok:κ→Bool} {C:κ→Prop} [∀y,Decidable (C y)] {M:List (κ × β)} {step:α→κ→α} {a0:α} {s:Nat × (κ→Bool) × α} (h:FoldI ok M step a0 s) (hk:(iI M).all (fun y=>ok y&&decide (C y))=true) (hno:∀y,ok y=true→s.2.1 y=false)
  (hc:∀x∈iI M,∀y∈iI M,∀z,step (step z x) y=step (step z y) x):s.2.2=(iI M).foldl step a0:=by
 obtain⟨d,h1,h2,h3⟩:=h
 have hm:∀q,q∈d↔q∈iI M:=fun q=>by
  rw[h2 q,jX]
  refine⟨fun h=>h.2.1,fun h=>?_⟩
  have:=List.all_eq_true.1 hk q ((jX M q).2 h)
  rw[Bool.and_eq_true]at this
  exact⟨this.1,h,hno q this.1⟩
 have hp:d.Perm (iI M):=(List.perm_ext_iff_of_nodup h1 (mo M)).2 hm
 rw[h3]
 exact hp.foldl_eq' (fun x hx y hy z=>hc x ((hm x).1 hx) y ((hm y).1 hy) z) a0
theorem set_comm' {i:κ→Nat} {v:κ→α} {M:List (κ × β)} (hn:((iI M).map i).Nodup):∀x∈iI M,∀y∈iI M,∀z:List α,(z.set (i x) (v x)).set (i y) (v y)=(z.set (i y) (v y)).set (i x) (v x):=fun x hx y hy z=>by
 by_cases e:x=y
 ·rw[e]
 ·refine List.set_comm _ _ (fun e2=>e ?_)
  rw[List.Nodup,List.pairwise_map]at hn
  obtain⟨a,ha,rfl⟩:=List.mem_iff_getElem.1 hx
  obtain⟨b,hb,rfl⟩:=List.mem_iff_getElem.1 hy
  rw[List.pairwise_iff_getElem]at hn
  rcases Nat.lt_trichotomy a b with h|h|h
  ·exact absurd e2 (hn a b ha hb h)
  ·simp only[h]
  ·exact absurd e2.symm (hn b a hb ha h)
end
section
variable {κ α : Type}
theorem w64_comm (f:κ→Int) (x y:κ) (z:Int):w64 (w64 (z+f x)+f y)=w64 (w64 (z+f y)+f x):=by
 unfold w64
 omega
theorem pr {n:Nat} {i:κ→Nat} {v:κ→α}:∀(K:List κ) {a0:List α},n=a0.length→n=(K.foldl (fun a y=>a.set (i y) (v y)) a0).length
 | [],_,h=>h
 | k::K,a0,h=>pr K (a0:=a0.set (i k) (v k)) (by rw[List.length_set];exact h)
end
open Go.RowKit (Below)
inductive Lf where
 | i (k:IntKind)
 | b
 | sl (ks:List Lf)
def All2 (ok:Lf→Value→Prop):List Lf→List Value→Prop
 | [],[]=>True
 | k::ks,v::vs=>ok k v∧All2 ok ks vs
 | _,_=>False
def Lf.okN (W:World):Nat→Lf→Value→Prop
 | _,.i k,v=>∃n,v=.int k n∧(Lit.int k n).wf=true
 | _,.b,v=>∃x,v=.bool x
 | 0,.sl _,_=>False
 | m+1,.sl ks,v=>∃A n c,v=.slice A n c∧∃css:List (List Value),n=css.length∧n≤maxLen∧Rd W A n c css.flatten∧∀cs∈css,All2 (Lf.okN W m) ks cs
def flatB (P:Program):Nat→TypeId→List Lf→Bool
 | 0,_,_=>false
 | fuel+1,t,ks=>match P.underlying t with
  | some .bool=>match ks with | [.b]=>true|_=>false
  | some (.int k)=>match ks with | [.i k']=>decide (k'=k)|_=>false
  | some (.slice e)=>match ks with | [.sl ks']=>decide (ks'.length=P.cellsOf e)&&flatB P fuel e ks' | _=>false
  | some (.struct fs)=>(List.range ks.length).all (fun i=>fs.toList.any fun f=>decide (f.offset≤i)&&decide (i<f.offset+P.cellsOf f.type)) &&
    fs.toList.all fun f=>flatB P fuel f.type ((ks.drop f.offset).take (P.cellsOf f.type))
  | some (.array n e)=>(List.range ks.length).all (fun i=>(List.range n).any fun j=>decide (j*P.cellsOf e≤i)&&decide (i<j*P.cellsOf e+P.cellsOf e)) &&
    (List.range n).all fun j=>flatB P fuel e ((ks.drop (j*P.cellsOf e)).take (P.cellsOf e))
  | _=>false
theorem na {α β:Type} {f:α→Option β}:∀{l:List α} {r:List β},l.mapM f=some r→∀x∈l,∃y,f x=some y
 | [],_,_,x,hx=>by cases hx
 | a::l,r,h,x,hx=>by
  rw[List.mapM_cons]at h
  cases ha:f a with
  | none=>rw[ha]at h;cases h
  | some y =>
   rw[ha]at h
   cases hl:l.mapM f with
   | none=>rw[hl]at h;cases h
   | some r' =>
    rcases List.mem_cons.1 hx with rfl|hx
    ·exact⟨y,ha⟩
    ·exact na hl x hx
theorem oy {α:Type} {l:List α} {o n i:Nat} (h1:o≤i) (h2:i<o+n):((l.drop o).take n)[i-o]? = l[i]?:=by
 rw[List.getElem?_take,if_pos (by omega),List.getElem?_drop]
 congr 1
 omega
theorem listed {α:Type} {Q:Nat→α→Prop}:∀(n:Nat),(∀i,i<n→∃x,Q i x)→∃l:List α,l.length=n∧∀i x,l[i]? = some x→Q i x
 | 0,_=>⟨[],E,fun i x h=>by simp at h⟩
 | n+1,h=>by
  obtain⟨l,hl,hq⟩:=listed n (fun i hi=>h i (by omega))
  obtain⟨x,hx⟩:=h n (by omega)
  refine⟨l++[x],by simp[hl],fun i y hy=>?_⟩
  rcases Nat.lt_or_ge i l.length with hlt|hge
  ·rw[List.getElem?_append_left hlt]at hy;exact hq i y hy
  ·rw[List.getElem?_append_right hge]at hy
   by_cases e:i-l.length=0
   ·rw[e]at hy
    have hyx:x=y:=by simpa using hy
    subst hyx
    have:i=n:=by omega
    rw[this];exact hx
   ·rw[List.getElem?_eq_none (by simp;omega)]at hy;cases hy
theorem rm {α:Type} {C:Nat→α→Prop} {sz:Nat}:∀(css:List (List α)) (o:Nat),(∀i cs,css[i]? = some cs→cs.length=sz∧∀q v,cs[q]? = some v→C (o+(i*sz+q)) v)→∀j v,css.flatten[j]? = some v→C (o+j) v
 | [],_,_,j,v,h=>by simp at h
 | cs::css,o,hh,j,v,h=>by
  obtain⟨hl,hc⟩:=hh 0 cs E
  rw[List.flatten_cons]at h
  rcases Nat.lt_or_ge j cs.length with hlt|hge
  ·rw[List.getElem?_append_left hlt]at h
   have:=hc j v h
   rw[Nat.zero_mul,Nat.zero_add]at this
   exact this
  ·rw[List.getElem?_append_right hge]at h
   have:=rm css (o+sz) (fun i cs' hi=>by
    obtain⟨h1,h2⟩:=hh (i+1) cs' hi
    refine⟨h1,fun q v hq=>?_⟩
    have:=h2 q v hq
    rw[Nat.add_mul,Nat.one_mul]at this
    rw[show o+sz+(i*sz+q)=o+(i*sz+sz+q) by omega]
    exact this) (j-cs.length) v h
   rw[show o+sz+(j-cs.length)=o+j by omega]at this
   exact this
theorem All2.of {ok:Lf→Value→Prop}:∀{ks:List Lf} {vs:List Value},vs.length=ks.length→(∀(i:Nat) (k:Lf),ks[i]? = some k→∃v,vs[i]? = some v∧ok k v)→All2 ok ks vs
 | [],[],_,_=>trivial
 | [],_::_,h,_=>by simp at h
 | _::_,[],h,_=>by simp at h
 | k::ks,v::vs,h,hh=>by
  obtain⟨u,hu,hok⟩:=hh 0 k E
  have:v=u:=by simpa using hu
  subst this
  exact⟨hok,All2.of (by simpa using h) (fun i k hk=>by simpa using hh (i+1) k (by simpa using hk))⟩
theorem rW {H:Type} {enc:TypeId × Value→H} {P:Program} {w:World} {base:Nat} {sp:Nat→Bool} {held:Bool}:∀(fl m fuel:Nat) (t:TypeId) (ks:List Lf) (cs:List Value) (x:DataW H × List MemPlace),fl≤m→flatB P fl t ks=true→DataW.trod enc P w base sp held fuel t cs=some x →
  ∀(i:Nat) (k:Lf),ks[i]? = some k→∃v,cs[i]? = some v∧Lf.okN w m k v:=by
 intro fl
 induction fl with
 | zero=>intro m fuel t ks cs x _ h;cases h
 | succ fl ih =>
  intro m fuel t ks cs x hm h ht i k hk
  cases m with
  | zero=>omega
  | succ m =>
  cases fuel with
  | zero=>cases ht
  | succ fuel =>
   unfold flatB at h
   unfold DataW.trod at ht
   cases hu:P.underlying t with
   | none=>rw[hu]at h;cases h
   | some d =>
    rw[hu]at h ht
    cases d with
    | bool =>
     match ks,h with
     | [.b],_ =>
     cases i with
     | succ i=>simp at hk
     | zero =>
      obtain rfl:Lf.b=k:=by simpa using hk
      match cs,ht with
      | [.bool b],_=>exact⟨.bool b,E,b,E⟩
    | int q =>
     match ks,h with
     | [.i q0],h =>
     obtain rfl:=of_decide_eq_true h
     cases i with
     | succ i=>simp at hk
     | zero =>
      obtain rfl:Lf.i q0=k:=by simpa using hk
      match cs,ht with
      | [.int q' n],ht =>
       simp only at ht
       split at ht
       ·rename_i hc
        obtain⟨rfl,hw⟩:=hc
        exact⟨.int q' n,E,n,E,hw⟩
       ·cases ht
    | slice e =>
     match ks,h with
     | [.sl ks'],h =>
     simp only[Bool.and_eq_true,decide_eq_true_eq]at h
     obtain⟨hsz,hf⟩:=h
     cases i with
     | succ i=>simp at hk
     | zero =>
      obtain rfl:Lf.sl ks'=k:=by simpa using hk
      match cs,ht with
      | [.slice none 0 0],_=>exact⟨_,E,none,0,0,E,[],E,Nat.zero_le _,⟨fun j v hj=>by simp at hj,Nat.le_refl _⟩,fun cs hc=>by cases hc⟩
      | [.slice (some a) len cap],ht =>
       simp only at ht
       split at ht
       ·rename_i hc
        obtain⟨hb,hlc,hcm⟩:=hc
        cases hmm:((List.range len).mapM fun i=>(w.cells? base (a.add (i*P.cellsOf e)) (P.cellsOf e)).bind (DataW.trod enc P w base sp held fuel e))with
        | none=>rw[hmm]at ht;cases ht
        | some els =>
         obtain⟨css,hlen,hcss⟩:=listed (Q:=fun i cs=>(∃y,DataW.trod enc P w base sp held fuel e cs=some y)∧w.cells? base (a.add (i*P.cellsOf e)) (P.cellsOf e)=some cs) len (fun i hi=>by
          obtain⟨y,hy⟩:=na hmm i (List.mem_range.2 hi)
          cases hcc:w.cells? base (a.add (i*P.cellsOf e)) (P.cellsOf e)with
          | none=>rw[hcc]at hy;cases hy
          | some cs=>rw[hcc]at hy;exact⟨cs,⟨y,hy⟩,E⟩)
         have hall:∀(i:Nat) (cs:List Value),css[i]? = some cs→cs.length=P.cellsOf e∧∀q v,cs[q]? = some v→w.cell? (a.add (0+(i*P.cellsOf e+q)))=some v:=fun i cs hi=>by
          obtain⟨_,hcc⟩:=hcss i cs hi
          obtain⟨_,h1,h2⟩:=World.cells?_some hcc
          refine⟨h1,fun q v hq=>?_⟩
          have hlt:q<P.cellsOf e:=by rw[←h1];exact(List.getElem?_eq_some_iff.1 hq).1
          have:=h2 q hlt
          rw[hq,Addr.add_add]at this
          rw[Nat.zero_add]
          exact this
         refine⟨_,E,some a,len,cap,E,css,hlen.symm,Nat.le_trans hlc hcm,⟨fun j v hj=>?_,hlc⟩,fun cs hc=>?_⟩
         ·have:=rm (C:=fun k v=>w.cell? (a.add k)=some v) css 0 hall j v hj
          simp only[Nat.zero_add]at this
          have h0:0<css.flatten.length:=by
           have:=(List.getElem?_eq_some_iff.1 hj).1
           omega
          have t0:=rm (C:=fun k v=>w.cell? (a.add k)=some v) css 0 hall 0 _ (List.getElem?_eq_getElem h0)
          obtain⟨b,off,spot⟩:=a
          have hspot:spot=none:=World.cell?_spot (by simpa [Addr.add]using t0)
          subst hspot
          exact⟨b,off,E,by simpa [Addr.add_lit]using this⟩
         ·obtain⟨i,hi⟩:=List.getElem?_of_mem hc
          obtain⟨⟨y,hy⟩,_⟩:=hcss i cs hi
          exact All2.of (by rw[(hall i cs hi).1,hsz]) (ih m fuel e ks' cs y (by omega) hf hy)
       ·cases ht
    | struct fs =>
     simp only[Bool.and_eq_true]at h
     obtain⟨hc,hf⟩:=h
     have hi:i<ks.length:=(List.getElem?_eq_some_iff.1 hk).1
     obtain⟨f,hfm,hfi⟩:=List.any_eq_true.1 (List.all_eq_true.1 hc i (List.mem_range.2 hi))
     simp only[Bool.and_eq_true,decide_eq_true_eq]at hfi
     have hff:=List.all_eq_true.1 hf f hfm
     simp only at ht
     split at ht
     ·cases hmm:(fs.toList.mapM fun f=>DataW.trod enc P w base sp held fuel f.type ((cs.drop f.offset).take (P.cellsOf f.type)))with
      | none=>rw[hmm]at ht;cases ht
      | some ys =>
       obtain⟨y,hy⟩:=na hmm f hfm
       obtain⟨v,hv,hok⟩:=ih (m+1) fuel f.type _ _ y (by omega) hff hy (i-f.offset) k (by rw[oy hfi.1 hfi.2];exact hk)
       rw[oy hfi.1 hfi.2]at hv
       exact⟨v,hv,hok⟩
     ·cases ht
    | array n e =>
     simp only[Bool.and_eq_true]at h
     obtain⟨hc,hf⟩:=h
     have hi:i<ks.length:=(List.getElem?_eq_some_iff.1 hk).1
     obtain⟨j,hjm,hji⟩:=List.any_eq_true.1 (List.all_eq_true.1 hc i (List.mem_range.2 hi))
     simp only[Bool.and_eq_true,decide_eq_true_eq]at hji
     have hff:=List.all_eq_true.1 hf j hjm
     simp only at ht
     split at ht
     ·cases hmm:((List.range n).mapM fun i=>DataW.trod enc P w base sp held fuel e ((cs.drop (i*P.cellsOf e)).take (P.cellsOf e)))with
      | none=>rw[hmm]at ht;cases ht
      | some ys =>
       obtain⟨y,hy⟩:=na hmm j hjm
       obtain⟨v,hv,hok⟩:=ih (m+1) fuel e _ _ y (by omega) hff hy (i-j*P.cellsOf e) k (by rw[oy hji.1 hji.2];exact hk)
       rw[oy hji.1 hji.2]at hv
       exact⟨v,hv,hok⟩
     ·cases ht
    | _=>cases h
theorem All2.inv {ok:Lf→Value→Prop} {k:Lf} {ks:List Lf} {vs:List Value} (h:All2 ok (k::ks) vs):∃v us,vs=v::us∧ok k v∧All2 ok ks us:=by
 cases vs with
 | nil=>exact h.elim
 | cons v us=>exact⟨v,us,E,h.1,h.2⟩
theorem All2.inv0 {ok:Lf→Value→Prop} {vs:List Value} (h:All2 ok [] vs):vs=[]:=by
 cases vs with
 | nil=>rfl
 | cons v us=>exact h.elim
theorem okN_i {W:World} {m:Nat} {k:IntKind} {v:Value} (h:Lf.okN W m (.i k) v):∃n,v=.int k n∧(Lit.int k n).wf=true:=by cases m <;> exact h
theorem okN_sl {W:World} {m:Nat} {ks:List Lf} {v:Value} (h:Lf.okN W (m+1) (.sl ks) v):∃A n c,v=.slice A n c∧∃css:List (List Value),n=css.length∧n≤maxLen∧Rd W A n c css.flatten∧∀cs∈css,All2 (Lf.okN W m) ks cs:=h
def isAggB (P:Program) (t:TypeId):Bool:=match P.underlying t with
 | some (.struct _)=>true
 | some (.array _ _)=>true
 | _=>false
theorem open_flat {H:Type} {enc:TypeId × Value→H} {P:Program} {W:World} {base:Nat} {sp:Nat→Bool} {held:Bool} {r:Reach} {b0:Nat} {t:TypeId} {v:Value} {d:DataW H} {ps:List MemPlace} (ks:List Lf) (hf:flatB P 8 t ks=true) (ha:isAggB P t=true) (hsz:P.cellsOf t=ks.length)
  (hval:Value.okWide P W r b0 t v) (hd:DataW.Trod enc P W base sp held t v d ps):∃vs:List Value,v=.agg vs.toArray∧All2 (Lf.okN W 8) ks vs:=by
 obtain⟨cs,rfl,hcs⟩:∃cs,v=.agg cs∧cs.size=P.cellsOf t:=by
  unfold Value.okWide at hval
  unfold isAggB at ha
  split at ha
  ·rename_i hu
   rw[hu]at hval
   obtain⟨cs,h1,h2,_⟩:=hval
   exact⟨cs,h1,h2⟩
  ·rename_i hu
   rw[hu]at hval
   obtain⟨cs,h1,h2,_⟩:=hval
   exact⟨cs,h1,h2⟩
  ·cases ha
 obtain⟨fuel,hfu⟩:=hd
 refine⟨cs.toList,E,All2.of (by simp[hcs,hsz]) (rW 8 8 fuel t ks _ _ (Nat.le_refl _) hf hfu)⟩
theorem open_sl {H:Type} {enc:TypeId × Value→H} {P:Program} {W:World} {base:Nat} {sp:Nat→Bool} {held:Bool} {r:Reach} {b0:Nat} {t e:TypeId} {v:Value} {d:DataW H} {ps:List MemPlace} (ks:List Lf) (hu:P.underlying t=some (.slice e)) (hf:flatB P 8 t [.sl ks]=true)
  (hval:Value.okWide P W r b0 t v) (hd:DataW.Trod enc P W base sp held t v d ps):Lf.okN W 8 (.sl ks) v:=by
 obtain⟨a,len,cap,rfl⟩:=Go.WideShapes.okWide_slice hu hval
 obtain⟨fuel,hfu⟩:=hd
 obtain⟨v,hv,hok⟩:=rW 8 8 fuel t _ _ _ (Nat.le_refl _) hf hfu 0 _ E
 simp[Value.cells]at hv
 subst hv
 exact hok
theorem rows_with {α:Type} {cells:α→List Value} {ok:List Value→Prop} {R:α→Prop} (h:∀cs,ok cs→∃x,cells x=cs∧R x):∀(css:List (List Value)),(∀cs∈css,ok cs)→∃xs:List α,css.length=xs.length∧css.flatten=encL cells xs∧∀x∈xs,R x
 | [],_=>⟨[],E,E,fun x h=>by cases h⟩
 | cs::css,hh=>by
  obtain⟨x,rfl,hx⟩:=h cs (hh cs (List.mem_cons_self ..))
  obtain⟨xs,h1,h2,h3⟩:=rows_with h css (fun c hc=>hh c (List.mem_cons_of_mem _ hc))
  refine⟨x::xs,by simp[h1],by simp[encL]at h2 ⊢;exact h2,fun y hy=>?_⟩
  rcases List.mem_cons.1 hy with rfl|hy
  ·exact hx
  ·exact h3 y hy
theorem rg_i64 {n:Int} (h:(Lit.int .i64 n).wf=true):Rg_i64 n:=Go.bounds_i64 h
open Go.RowKit (Below)
section
variable {β γ : Type} {sel : β → List γ} {ic : γ → List Value} {wb : World} {Hb Hb' : World → Prop}
def Pv (ic:γ→List Value) (wb:World) (Hb:World→Prop) (h:Hd) (cs:List γ):Prop:=∀W,Below wb.heap.size wb W→Hb W→Rd W h.1 h.2.1 h.2.2 (encL ic cs)
def PvL (sel:β→List γ) (ic:γ→List Value) (wb:World) (Hb:World→Prop) (ys:List (Hd × β)):Prop:=∀y∈ys,Pv ic wb Hb y.1 (sel y.2)
theorem Pv.nil {cs:List γ} (h:cs=[]):Pv ic wb Hb (none,0,0) cs:=fun _ _ _=>Rd.nil (by subst h;rfl)
theorem Pv.cut {cells:γ→List Value} {sz:Nat} (hc:∀x,(cells x).length=sz) {A:Option Addr} {n c:Nat} {xs:List γ} {lo hi:Int} (_h0:0≤lo) (h1:lo≤hi) (h2:hi≤(n:Int)) (_hn:n=xs.length) (hp:Pv cells wb Hb (A,n,c) xs) :
  Pv cells wb Hb ((if c=lo.toNat then A else A.map (fun x=>x.add (lo.toNat*sz))),hi.toNat-lo.toNat,c-lo.toNat) ((xs.drop lo.toNat).take (hi.toNat-lo.toNat)):=fun W hb hh=>by
 have:=(hp W hb hh).cut (sz:=sz) (l:=lo.toNat) (h:=hi.toNat) (by omega) (by show hi.toNat≤n;omega)
 rw[jt hc,iA hc]at this
 exact this
theorem Pv.mono {h:Hd} {cs:List γ} (hp:Pv ic wb Hb h cs) (hi:∀W,Below wb.heap.size wb W→Hb' W→Hb W):Pv ic wb Hb' h cs:=fun W hb hh=>hp W hb (hi W hb hh)
theorem PvL.of_nest {W:World} {ys:List (Hd × β)} {xs:List β} (h:NestW W sel ic ys xs):PvL sel ic W (fun _=>True) ys:=fun y hy W' hb _=>(h.inn y hy).later hb
theorem PvL.mono {ys:List (Hd × β)} (hp:PvL sel ic wb Hb ys) (hi:∀W,Below wb.heap.size wb W→Hb' W→Hb W):PvL sel ic wb Hb' ys:=fun y hy=>(hp y hy).mono hi
theorem PvL.nil:PvL sel ic wb Hb []:=fun y hy=>by cases hy
theorem PvL.cons {y:Hd × β} {ys:List (Hd × β)} (h1:Pv ic wb Hb y.1 (sel y.2)) (h2:PvL sel ic wb Hb ys):PvL sel ic wb Hb (y::ys):=fun z hz=>by
 rcases List.mem_cons.1 hz with rfl|hz
 ·exact h1
 ·exact h2 z hz
theorem PvL.app {ys zs:List (Hd × β)} (h1:PvL sel ic wb Hb ys) (h2:PvL sel ic wb Hb zs):PvL sel ic wb Hb (ys++zs):=fun z hz=>by
 rcases List.mem_append.1 hz with hz|hz
 ·exact h1 z hz
 ·exact h2 z hz
theorem PvL.set {y:Hd × β} {ys:List (Hd × β)} (j:Nat) (h:PvL sel ic wb Hb ys) (hv:Pv ic wb Hb y.1 (sel y.2)):PvL sel ic wb Hb (ys.set j y):=fun z hz=>by
 rcases List.mem_or_eq_of_mem_set hz with hz|rfl
 ·exact h z hz
 ·exact hv
theorem NestP.nil:NestP sel ([]:List (Hd × β)) []:=⟨E,fun y hy=>by cases hy⟩
theorem NestP.zip {ys:List (Hd × β)} {xs:List β} (h:NestP sel ys xs):ys=(ys.map Prod.fst).zip xs:=by
 rw[←h.eq]
 clear h
 induction ys with
 | nil=>rfl
 | cons y ys ih =>
  rw[List.map_cons,List.map_cons,List.zip_cons_cons,←ih]
theorem NestP.cons {y:Hd × β} {ys:List (Hd × β)} {xs:List β} (h1:y.1.2.1=(sel y.2).length) (h2:NestP sel ys xs):NestP sel (y::ys) (y.2::xs):=⟨by simp[h2.eq],fun z hz=>by
 rcases List.mem_cons.1 hz with rfl|hz
 ·exact h1
 ·exact h2.ln z hz⟩
theorem NestP.app {ys zs:List (Hd × β)} {xs us:List β} (h1:NestP sel ys xs) (h2:NestP sel zs us):NestP sel (ys++zs) (xs++us):=⟨by rw[List.map_append,h1.eq,h2.eq],fun z hz=>by
 rcases List.mem_append.1 hz with hz|hz
 ·exact h1.ln z hz
 ·exact h2.ln z hz⟩
theorem NestP.set {y:Hd × β} {ys:List (Hd × β)} {xs:List β} (j:Nat) (h:NestP sel ys xs) (hv:y.1.2.1=(sel y.2).length) {x:β} (hx:y.2=x):NestP sel (ys.set j y) (xs.set j x):=⟨by rw[List.map_set,h.eq,hx],fun z hz=>by
 rcases List.mem_or_eq_of_mem_set hz with hz|rfl
 ·exact h.ln z hz
 ·exact hv⟩
theorem PvL.nestL {w0:World} {L:List Res} {ys:List (Hd × β)} {xs:List β} (hP:NestP sel ys xs) (hv:PvL sel ic wb Hb ys) (hB:∀W,Ext w0 W L→Below wb.heap.size wb W∧Hb W):NestL w0 L sel ic ys xs:=⟨hP,fun y hy W hW=>hv y hy W (hB W hW).1 (hB W hW).2⟩
variable [Inhabited β] [Inhabited γ]
omit [Inhabited γ] in
theorem PvL.get {ys:List (Hd × β)} {xs:List β} (h:PvL sel ic wb Hb ys) (hP:NestP sel ys xs) {i:Int} (h0:0≤i) (h1:i<(xs.length:Int)):Pv ic wb Hb ((rdL ys i).1.1,(sel (rdL xs i)).length,(rdL ys i).1.2.2) (sel (rdL xs i)):=by
 have hl:xs.length=ys.length:=hP.hn E
 have h2:=hP.len h0 h1
 have h3:=h _ (sN (xs:=ys) h0 (by omega))
 rw[hP.snd i]at h3
 intro W hb hh
 have h4:=h3 W hb hh
 rw[h2]at h4
 exact h4
end
section
variable {w0 : World} {L : List Res}
def p8 (p q:Res):Res where
 dom b:=p.dom b∨q.dom b
 holds W:=p.holds W∧q.holds W∧∀b,p.dom b→¬q.dom b
 loc W W' h hs hh:=⟨p.loc W W' (fun b hb=>h b (.inl hb)) hs hh.1,q.loc W W' (fun b hb=>h b (.inr hb)) hs hh.2.1,hh.2.2⟩
 inb W hh b hb:=by
  rcases hb with hb|hb
  ·exact p.inb W hh.1 b hb
  ·exact q.inb W hh.2.1 b hb
theorem Ext.joinF {W:World} (h:Ext w0 W L) (i j:Nat) (hij:i≠j) {p q:Res} (hp:L[i]? = some p) (hq:L[j]? = some q):Ext w0 W ((L.set j noR).set i (p8 p q)):=by
 have hget:∀(k:Nat) (s:Res),((L.set j noR).set i (p8 p q))[k]? = some s→(k=i∧s=p8 p q)∨s=noR∨(k≠i∧k≠j∧L[k]? = some s):=by
  intro k s hk
  by_cases e:i=k
  ·subst e
   have hi:i<(L.set j noR).length:=by rw[List.length_set];exact(List.getElem?_eq_some_iff.1 hp).1
   rw[List.getElem?_set_self hi]at hk
   cases hk
   exact .inl ⟨E,E⟩
  ·rw[List.getElem?_set_ne e]at hk
   by_cases e2:j=k
   ·subst e2
    rw[List.getElem?_set_self (List.getElem?_eq_some_iff.1 hq).1]at hk
    cases hk
    exact .inr (.inl E)
   ·rw[List.getElem?_set_ne e2]at hk
    exact .inr (.inr ⟨fun h=>e h.symm,fun h=>e2 h.symm,hk⟩)
 refine⟨h.below,fun k s hk=>?_,fun k s hk b hb=>?_,fun k l s s' hk hl hne b hb hb'=>?_⟩
 ·rcases hget k s hk with⟨_,rfl⟩|rfl|⟨_,_,h3⟩
  ·exact⟨h.all i p hp,h.all j q hq,h.sep i j p q hp hq hij⟩
  ·trivial
  ·exact h.all k _ h3
 ·rcases hget k s hk with⟨_,rfl⟩|rfl|⟨_,_,h3⟩
  ·rcases hb with hb|hb
   ·exact h.new i p hp b hb
   ·exact h.new j q hq b hb
  ·exact hb.elim
  ·exact h.new k _ h3 b hb
 ·rcases hget k s hk with⟨a1,rfl⟩|rfl|⟨a1,a2,a3⟩
  ·rcases hget l s' hl with⟨b1,rfl⟩|rfl|⟨b1,b2,b3⟩
   ·exact hne (a1.trans b1.symm)
   ·exact hb'.elim
   ·rcases hb with hb|hb
    ·exact h.sep i l p s' hp b3 (fun e=>b1 e.symm) b hb hb'
    ·exact h.sep j l q s' hq b3 (fun e=>b2 e.symm) b hb hb'
  ·exact hb.elim
  ·rcases hget l s' hl with⟨b1,rfl⟩|rfl|⟨b1,b2,b3⟩
   ·rcases hb' with hb' | hb'
    ·exact h.sep k i s p a3 hp a1 b hb hb'
    ·exact h.sep k j s q a3 hq a2 b hb hb'
   ·exact hb'.elim
   ·exact h.sep k l s s' a3 b3 hne b hb hb'
theorem Ext.addNo {W:World} (h:Ext w0 W L):Ext w0 W (L++[noR]):=h.snoc (p:=noR) trivial (fun b hb=>hb.elim) (fun i q _ b _ hb=>hb.elim)
def factR (p:Prop):Res where
 dom _:=False
 holds _:=p
 loc _ _ _ _ h:=h
 inb _ _ _ hb:=hb.elim
theorem Ext.addFact {W:World} (h:Ext w0 W L) {p:Prop} (hp:p):Ext w0 W (L++[factR p]):=h.snoc (p:=factR p) hp (fun b hb=>hb.elim) (fun i q _ b _ hb=>hb.elim)
theorem Pv.rdl {γ:Type} {A:Option Addr} {n c:Nat} {cs:List γ} {ic:γ→List Value} {wb:World} {Hb:World→Prop} (h:Pv ic wb Hb (A,n,c) cs) (hh:∀W,Ext w0 W L→Below wb.heap.size wb W∧Hb W):RdL w0 L A n c (encL ic cs):=fun W hW=>h W (hh W hW).1 (hh W hW).2
theorem Ext.pickL {W:World} (h:Ext w0 W L) (is:List Nat) {ps:List Res} (hnd:decide is.Nodup=true) (hp:is.map (fun i=>L[i]?)=ps.map some):Ext w0 W ps:=by
 have hnd:=of_decide_eq_true hnd
 have hget:∀(k:Nat) (s:Res),ps[k]? = some s→∃i,is[k]? = some i∧L[i]? = some s:=by
  intro k s hk
  have h1:(ps.map some)[k]? = some (some s):=by rw[List.getElem?_map,hk];rfl
  rw[←hp,List.getElem?_map]at h1
  cases hi:is[k]? with
  | none=>rw[hi]at h1;cases h1
  | some i=>rw[hi]at h1;exact⟨i,E,by simpa using h1⟩
 refine⟨h.below,fun k s hk=>?_,fun k s hk=>?_,fun k l s s' hk hl hne=>?_⟩
 ·obtain⟨i,_,h2⟩:=hget k s hk;exact h.all i s h2
 ·obtain⟨i,_,h2⟩:=hget k s hk;exact h.new i s h2
 ·obtain⟨i,h1,h2⟩:=hget k s hk
  obtain⟨j,h3,h4⟩:=hget l s' hl
  refine h.sep i j s s' h2 h4 (fun e=>?_)
  subst e
  obtain⟨a1,a2⟩:=List.getElem?_eq_some_iff.1 h1
  obtain⟨b1,b2⟩:=List.getElem?_eq_some_iff.1 h3
  have hpw:=List.pairwise_iff_getElem.1 hnd
  rcases Nat.lt_trichotomy k l with h5|h5|h5
  ·exact hpw k l a1 b1 h5 (a2.trans b2.symm)
  ·exact hne h5
  ·exact hpw l k b1 a1 h5 (b2.trans a2.symm)
end
section
variable {r : Option Nat} {n : Nat} {P : Program} {ops : Array Oper} {Q : Exit → Act → World → Prop} {w0 : World} {L : List Res} {m : Nat} {tm : Nat → Value} {d : List Deferred} {l : List Oper} {e : Exit}
theorem ox_addFact {p:Prop} (hp:p) (h:OX r n P ops Q w0 (L++[factR p]) l m tm d):OX r n P ops Q w0 L l m tm d:=fun W hW=>h W (hW.addFact hp)
theorem ex_fact (i:Nat) {e:Exit} {Q:Exit→Act→World→Prop} {p:Prop} (hL:L[i]? = some (factR p)) (h:p→EX Q e w0 L m tm d):EX Q e w0 L m tm d:=fun W hW=>h (hW.all i _ hL) W hW
theorem tH (h:OX r n P ops Q w0 (L++[noR]) l m tm d):OX r n P ops Q w0 L l m tm d:=fun W hW=>h W hW.addNo
theorem q8 {c:Code} (h:CX r n P c Q w0 (L++[noR]) m tm d):CX r n P c Q w0 L m tm d:=fun W hW=>h W hW.addNo
theorem oD (i j:Nat) (hij:i≠j) {p q:Res} (hp:L[i]? = some p) (hq:L[j]? = some q) (h:OX r n P ops Q w0 ((L.set j noR).set i (p8 p q)) l m tm d):OX r n P ops Q w0 L l m tm d:=fun W hW=>h W (hW.joinF i j hij hp hq)
theorem ox_joinE (i:Nat) {p q:Res} (hp:L[i]? = some p) (h:OX r n P ops Q w0 (L.set i (p8 p q)++[noR]) l m tm d):OX r n P ops Q w0 (L++[q]) l m tm d:=by
 have hi:i<L.length:=by
  by_cases hh:i<L.length
  ·exact hh
  ·rw[List.getElem?_eq_none (by omega)]at hp;cases hp
 refine oD (p:=p) (q:=q) i L.length (by omega) (by rw[List.getElem?_append_left hi];exact hp) (by simp) ?_
 have e:((L++[q]).set L.length noR).set i (p8 p q)=L.set i (p8 p q)++[noR]:=by
  rw[List.set_append_right _ _ (Nat.le_refl _)]
  simp only[Nat.sub_self,List.set_cons_zero]
  rw[List.set_append_left _ _ hi]
 rw[e];exact h
end
section
variable {r : Option Nat} {n : Nat} {P : Program} {ρ : Operand → Value} {w0 : World} {L : List Res}
variable {t : Option Tmp} {ty : TypeId} {pos : String} {af : Array Edge} {g : Option (Nat × Bool)}
variable {A : Option Addr} {k c : Nat} {cs : List Value}
theorem y_cut3 {x a b d:Operand} {u e:TypeId} {sz:Nat} {q q' q2:IntKind} {lo hi mx:Int} (hs:qd P u=some (e,sz)) (h0:0≤lo) (h1:lo≤hi) (h2:hi≤mx) (h3:mx≤k) (hR:RdL w0 L A k c cs) (hx:ρ x=.slice A k c) (ha:ρ a=.int q lo) (hb:ρ b=.int q' hi) (hd:ρ d=.int q2 mx) :
  OpY r n P ⟨t,.slice u x (some a) (some b) (some d),ty,pos,af,g⟩ ρ (fun W=>Ext w0 W L) (fun W=>Ext w0 W L) (.slice (if mx.toNat=lo.toNat then A else A.map (·.add (lo.toNat*sz))) (hi.toNat-lo.toNat) (mx.toNat-lo.toNat)) :=
 bm (by intro c h;cases h) (fun W hW=>by
  obtain⟨hu',hsz⟩:=mE hs
  have hcap:=(hR W hW).cap
  have h4:mx≤(c:Int):=by omega
  simp only[execOp,hx,ha,hb,hd,Option.map_some,Sem.run_bind,run_sliceAt_slice W u _ _ _ _ hu',run_slice_lhm W u A k c hu' q q' q2 lo hi mx h0 h1 h2 h4,hsz,Result.andThen_ok,sliced]
  rfl)
end
section
variable {β γ : Type} {sel : β → List γ} {ic : γ → List Value} {wb : World} {Hb : World → Prop}
theorem PvL.sub {ys zs:List (Hd × β)} (h:PvL sel ic wb Hb ys) (hs:∀y∈zs,y∈ys):PvL sel ic wb Hb zs:=fun y hy=>h y (hs y hy)
theorem NestP.take {ys:List (Hd × β)} {xs:List β} (k:Nat) (h:NestP sel ys xs):NestP sel (ys.take k) (xs.take k):=⟨by rw[List.map_take,h.eq],fun y hy=>h.ln y (List.mem_of_mem_take hy)⟩
theorem NestP.drop {ys:List (Hd × β)} {xs:List β} (k:Nat) (h:NestP sel ys xs):NestP sel (ys.drop k) (xs.drop k):=⟨by rw[List.map_drop,h.eq],fun y hy=>h.ln y (List.mem_of_mem_drop hy)⟩
theorem mem_cutOut {α:Type} {ys:List α} {i j:Nat}:∀y∈ys.take i++ys.drop j,y∈ys:=fun y hy=>by
 rcases List.mem_append.1 hy with h|h
 ·exact List.mem_of_mem_take h
 ·exact List.mem_of_mem_drop h
theorem qf {α:Type} {xs:List α} {n:Nat} {lo hi:Int} (h0:0≤lo) (h1:lo≤hi) (h2:hi≤(n:Int)) (hn:n=xs.length):lo.toNat+(n-hi.toNat)=(xs.take lo.toNat++xs.drop hi.toNat).length:=by
 rw[List.length_append,List.length_take,List.length_drop,←hn]
 omega
theorem mV {n:Nat} {lo hi:Int} (h0:0≤lo) (h1:lo≤hi) (h2:hi≤(n:Int)):lo.toNat+(n-hi.toNat)≤n:=by omega
end
section
variable {r : Option Nat} {n : Nat} {P : Program} {ops : Array Oper} {Q : Exit → Act → World → Prop} {w0 : World} {L : List Res} {m : Nat} {tm : Nat → Value} {d : List Deferred}
variable {t : Tmp} {ty : TypeId} {pos : String} {af : Array Edge} {g : Option (Nat × Bool)} {rest : List Oper}
theorem nL (i:Nat) {α:Type} {cells:α→List Value} {sz:Nat} (hc:∀x,(cells x).length=sz) (h1c:∀x,((cells x).all (·.oneCell'))=true) {xs:List α} {x y:Operand} {u e:TypeId} {A:Option Addr} {c k by':Nat} {lo hi:Int} {z:Value} (hu:P.underlying u=some (.slice e)) (hz:bz P e=some z) (hb:fJ P e z sz by'=true)
  (hL:L[i]? = some (aR A c e sz k (encL cells xs))) (hk:k=xs.length) (h0:0≤lo) (h1:lo≤hi) (h2:hi≤(k:Int)) (hx:opv m tm x=.slice A lo.toNat c) (hy:opv m tm y=.slice (if c=hi.toNat then A else A.map (fun x=>x.add (hi.toNat*sz))) (k-hi.toNat) (c-hi.toNat))
  (hw:eW ops m tm ⟨some t,.call ⟨.builtin .append,#[x,y],#[u,u]⟩,ty,pos,af,g⟩=true)
  (h:OX r n P ops Q w0 (L.set i (aR A c e sz (lo.toNat+(k-hi.toNat)) (encL cells (xs.take lo.toNat++xs.drop hi.toNat)))) rest m (upd tm t (.slice A (lo.toNat+(k-hi.toNat)) c)) d) :
  OX r n P ops Q w0 L (⟨some t,.call ⟨.builtin .append,#[x,y],#[u,u]⟩,ty,pos,af,g⟩::rest) m tm d :=
 jk hw (by intro c h;cases h) fun W hW=>by
  obtain⟨inf,hinf,hzz⟩:∃inf,P.info? e=some inf∧inf.zero=some z:=by
   unfold bz at hz
   cases hi:P.info? e with
   | none=>rw[hi]at hz;cases hz
   | some inf=>rw[hi]at hz;exact⟨inf,E,hz⟩
  unfold fJ at hb
  rw[hinf]at hb
  simp only[Bool.and_eq_true,beq_iff_eq,decide_eq_true_eq]at hb
  obtain⟨⟨⟨⟨hb2,hb3⟩,hb4⟩,hb5⟩,hb6⟩:=hb
  have hrow:(aR A c e sz k (encL cells xs)).holds W:=hW.mem hL
  have hcap:=(eZ hrow).cap
  have hA0:A=none→lo.toNat=0:=by
   intro hA
   subst hA
   rcases hrow.2 with⟨hh,h3⟩|⟨g,cap,cur,hv,_⟩
   ·omega
   ·simp at hv
  have hhead:=oL hrow (k:=lo.toNat) (by omega) hA0
  rw[iA hc]at hhead
  rcases Nat.eq_zero_or_pos (k-hi.toNat)with hq|hq
  ·have hdrop:xs.drop hi.toNat=[]:=List.drop_eq_nil_of_le (by omega)
   have hrun:∀(B:Option Addr) (q:Nat),(Builtin.append_ #[u,u] ty #[.slice A lo.toNat c,.slice B 0 q]).run P W=.ok (.slice A lo.toNat c) W:=fun B q=>by
    have hcl:lo.toNat≤c:=by omega
    cases A <;> cases B <;> simp[Builtin.append_,run_underlying hu,sizeOf,typeInfo,hinf,Builtin.lenOf,Builtin.firstCells,hcl,storeCells,loadCells,loadCellsFrom]
   refine⟨_,W,_,?_,?_,h⟩
   ·simp only[execOp,resolve,invoke,builtin]
    rw[hq]at hy
    rw[hq,Nat.add_zero]
    simp[hx,hy,hrun]
   ·rw[hq,Nat.add_zero,hdrop,List.append_nil]
    exact hW.tell i hL (fun _=>hhead) (fun b hb=>hb)
  ·rcases hrow.2 with⟨hh,h3⟩|⟨g',cap,cur,hv,hbb,hg,h3,h4,h5,h6⟩
   ·omega
   ·simp only[Value.slice.injEq]at hv
    obtain⟨rfl,_,rfl⟩:=hv
    have hcn:¬c=hi.toNat:=by omega
    rw[if_neg hcn]at hy
    simp only[Option.map_some,Addr.add_lit,Nat.zero_add]at hy
    have hcut:=(eZ hrow).cut (sz:=sz) (l:=hi.toNat) (h:=k) (by omega) (Nat.le_refl _)
    rw[if_neg hcn,jt hc,List.take_of_length_le (by rw[eL hc E,List.length_drop,hk];exact Nat.le_refl _)]at hcut
    obtain⟨W',hr,hown',hgr⟩:=run_append_fits (P:=P) W 0 u ty e inf sz hu hinf hb2 g' lo.toNat c _ hhead ⟨g',hi.toNat*sz,none⟩ (k-hi.toNat) (c-hi.toNat) (encL cells (xs.drop hi.toNat)) (by rw[eL hc E,List.length_drop,hk])
     (fun j v hj=>by
      obtain⟨b',o',e',hcc⟩:=hcut.cell j v hj
      simp only[Option.map_some,Addr.add_lit,Nat.zero_add,Option.some.injEq,Addr.mk.injEq,and_true]at e'
      obtain⟨rfl,rfl⟩:=e'
      rw[Addr.add_lit]
      exact hcc) (fun v hv=>List.all_eq_true.1 (ef h1c (xs.drop hi.toNat)) v hv) (by omega)
    refine⟨_,W',_,?_,?_,h⟩
    ·simp only[execOp,resolve,invoke,builtin]
     simp[hx,hy,hr]
    ·refine hW.set hL _ (by rw[←rh];exact hown') hgr.os hgr.tape hgr.output hgr.size (fun b hb hn=>hgr.block b hb (fun e=>hn ?_)) (fun b hb=>.inl hb)
     simp only[Option.some.injEq]at e
     exact⟨_,E,e.symm⟩
end
section
variable {r : Option Nat} {n : Nat} {P : Program} {ρ : Operand → Value} {w0 : World} {L : List Res}
variable {t : Option Tmp} {ty : TypeId} {pos : String} {af : Array Edge} {g : Option (Nat × Bool)}
theorem y_cutO {A:Option Addr} {k c:Nat} {x a b:Operand} {u e:TypeId} {sz:Nat} {q q':IntKind} {lo hi:Int} (hs:qd P u=some (e,sz)) (h0:0≤lo) (h1:lo≤hi) (h2:hi≤(c:Int)) (hx:ρ x=.slice A k c) (ha:ρ a=.int q lo) (hb:ρ b=.int q' hi) :
  OpY r n P ⟨t,.slice u x (some a) (some b) none,ty,pos,af,g⟩ ρ (fun W=>Ext w0 W L) (fun W=>Ext w0 W L) (.slice (if c=lo.toNat then A else A.map (fun x=>x.add (lo.toNat*sz))) (hi.toNat-lo.toNat) (c-lo.toNat)) :=
 bm (by intro c h;cases h) (fun W hW=>by
  obtain⟨hu',hsz⟩:=mE hs
  simp only[execOp,hx,ha,hb,Option.map_some,Option.map_none,Sem.run_bind,run_sliceAt_slice W u _ _ _ _ hu',run_slice_lh W u A k c hu' q q' lo hi h0 h1 h2,hsz,Result.andThen_ok,sliced]
  rfl)
theorem tl (i:Nat) {cs:List Value} {x:Operand} {u e:TypeId} {A:Option Addr} {k c sz q:Nat} {z:Value} (hu:P.underlying u=some (.slice e)) (hz:bz P e=some z) (hzs:z.cells.size=sz) (hpos:0<sz) (hz1:(z.cells.toList.all (·.oneCell'))=true)
  (hL:L[i]? = some (aR A c e sz k cs)) (h1:k+q≤c) (hx:ρ x=.slice (if c=k then A else A.map (fun x=>x.add (k*sz))) q (c-k)) :
  OpY r n P ⟨none,.call ⟨.builtin .clear,#[x],#[u]⟩,ty,pos,af,g⟩ ρ (fun W=>Ext w0 W L) (fun W=>Ext w0 W L) (.tuple #[]):=fun W hW=>by
 have hrow:(aR A c e sz k cs).holds W:=hW.mem hL
 suffices hs:∃W',(Builtin.clear_ #[u] ty #[.slice (if c=k then A else A.map (fun x=>x.add (k*sz))) q (c-k)]).run P W=.ok (.tuple #[]) W'∧Ext w0 W' L by
  obtain⟨W',hrun,hE⟩:=hs
  have e1:(execOp ρ ⟨none,.call ⟨.builtin .clear,#[x],#[u]⟩,ty,pos,af,g⟩).run P W=.ok (.value (.tuple #[])) W':=by
   simp only[execOp,resolve,invoke,builtin]
   simp[hx,hrun]
  rw[bQ (by intro c h;cases h),e1]
  exact⟨E,hE⟩
 rcases Nat.eq_zero_or_pos q with hq|hq
 ·refine⟨W,?_,hW⟩
  subst hq
  have hh:∀(B:Option Addr) (q:Nat),(Builtin.clear_ #[u] ty #[.slice B 0 q]).run P W=.ok (.tuple #[]) W:=fun B q=>by
   cases B <;> simp[Builtin.clear_,run_underlying hu]
  exact hh _ _
 ·have hcl:¬c=k:=by omega
  rw[if_neg hcl]
  obtain⟨h1',h2'⟩:=hrow
  rcases h2' with⟨h2,h3⟩|⟨g',cap,cur,hv',hbb,hg,h3,h4,h5,h6⟩
  ·simp only[Value.slice.injEq]at h2
   omega
  ·simp only[Value.slice.injEq]at hv'
   obtain⟨rfl,_,rfl⟩:=hv'
   obtain⟨zn,hzn⟩:∃zn,q=zn+1:=⟨q-1,by omega⟩
   have hzl:(Builtin.zeroCells z.cells q).toList.length=q*sz:=by simp[Builtin.zeroCells,hzs]
   have hbd:k*sz+q*sz≤cur.size:=by
    rw[←Nat.add_mul,h5]
    exact Nat.mul_le_mul_right _ h1
   have hst:=run_storeCells_at (P:=P) g' (k*sz) e (Builtin.zeroCells z.cells q).toList 0 cur W hg (by rw[hzl];omega) (mH hz1 (by omega) _)
   simp only[Nat.add_zero]at hst
   have hzr:=ol (P:=P) (W:=W) hz
   have hadd:Option.map (fun x=>x.add (k*sz)) (some (⟨g',0,none⟩:Addr))=some ⟨g',k*sz,none⟩:=by
    simp only[Option.map_some,Addr.add_lit,Nat.zero_add]
   refine⟨W.setRow g' (cur.toList.take (k*sz)++(Builtin.zeroCells z.cells q).toList++cur.toList.drop (k*sz+(Builtin.zeroCells z.cells q).toList.length)).toArray,?_,?_⟩
   ·rw[hadd]
    rw[hzn]at hst ⊢
    simp[Builtin.clear_,run_underlying hu,hzr,hst]
   ·have hlen:(cur.toList.take (k*sz)++(Builtin.zeroCells z.cells q).toList++cur.toList.drop (k*sz+(Builtin.zeroCells z.cells q).toList.length)).length=cur.size:=by
     rw[List.length_append,List.length_append,List.length_take,List.length_drop,hzl,Array.length_toList]
     omega
    have e2:L.set i (aR (some ⟨g',0,none⟩) c e sz k cs)=L:=by
     obtain⟨hi,he⟩:=List.getElem?_eq_some_iff.1 hL
     rw[←he,List.set_getElem_self]
    rw[←e2]
    refine hW.set hL _ ?_ E E E (by simp[World.setRow]) (fun b' _ hn=>?_) (fun b' hb'=>.inl hb')
    ·refine⟨h1',.inr ⟨g',c,_,E,Nat.zero_le _,setRow_heap W g' _ _ e _ hg,h3,h4,by simp only[List.size_toArray];rw[hlen];exact h5,?_⟩⟩
     show List.take (k*sz) (cur.toList.take (k*sz)++(Builtin.zeroCells z.cells q).toList++cur.toList.drop _)=_
     rw[List.append_assoc,List.take_append_of_le_length (by rw[List.length_take,Array.length_toList];omega),List.take_take,Nat.min_self]
     exact h6
    ·show(W.heap.modify g' _)[b']? = _
     rw[Array.getElem?_modify,if_neg (fun e'=>hn ⟨_,E,e'⟩)]
end
open Go.RowKit (Below)
def Foc (L:List Res):List Nat→List Res→Prop
 | [],[]=>True
 | i::is,p::ps=>L[i]? = some p∧Foc L is ps
 | _,_=>False
def me:List Res→List Nat→List Res→List Res
 | L,i::is,p::ps=>me (L.set i p) is ps
 | L,_,_=>L
theorem Foc.c1 {L:List Res} {i:Nat} {p:Res} (h:L[i]? = some p):Foc L [i] [p]:=⟨h,trivial⟩
theorem Foc.c2 {L:List Res} {i j:Nat} {p q:Res} (h:L[i]? = some p) (h2:L[j]? = some q):Foc L [i,j] [p,q]:=⟨h,h2,trivial⟩
theorem Foc.c3 {L:List Res} {i j k:Nat} {p q r:Res} (h:L[i]? = some p) (h2:L[j]? = some q) (h3:L[k]? = some r):Foc L [i,j,k] [p,q,r]:=⟨h,h2,h3,trivial⟩
theorem Foc.len {L:List Res}:∀{is:List Nat} {ps:List Res},Foc L is ps→ps.length=is.length
 | [],[],_=>rfl
 | i::is,p::ps,h=>by simp[h.2.len]
 | [],p::ps,h=>h.elim
 | i::is,[],h=>h.elim
theorem Foc.get {L:List Res}:∀{is:List Nat} {ps:List Res},Foc L is ps→∀(j:Nat) (p:Res),ps[j]? = some p→∃i,is[j]? = some i∧L[i]? = some p
 | [],[],_,j,p,h=>by simp at h
 | i::is,p::ps,h,0,q,hq=>by
  simp at hq
  subst hq
  exact⟨i,E,h.1⟩
 | i::is,p::ps,h,j+1,q,hq=>by
  obtain⟨k,h1,h2⟩:=h.2.get j q (by simpa using hq)
  exact⟨k,by simpa using h1,h2⟩
theorem ox:∀(is:List Nat) (ps:List Res) (L:List Res),(me L is ps).length=L.length
 | i::is,p::ps,L=>by
  show(me (L.set i p) is ps).length=_
  rw[ox is ps,List.length_set]
 | [],_,_=>by unfold me;rfl
 | _::_,[],_=>by unfold me;rfl
theorem ro:∀(is:List Nat) (ps:List Res) (L:List Res) (k:Nat) (q:Res),ps.length=is.length→(me L is ps)[k]? = some q→(∃j:Nat,is[j]? = some k∧ps[j]? = some q)∨(k∉is∧L[k]? = some q)
 | i::is,p::ps,L,k,q,hl,h=>by
  change (me (L.set i p) is ps)[k]? = some q at h
  rcases ro is ps (L.set i p) k q (by simpa using hl) h with⟨j,h1,h2⟩|⟨h1,h2⟩
  ·exact .inl ⟨j+1,by simpa using h1,by simpa using h2⟩
  ·rw[List.getElem?_set]at h2
   by_cases e:i=k
   ·subst e
    rw[if_pos E]at h2
    split at h2
    ·exact .inl ⟨0,E,h2⟩
    ·cases h2
   ·rw[if_neg e]at h2
    refine .inr ⟨?_,h2⟩
    rw[List.mem_cons]
    rintro(e' | e')
    ·exact e e'.symm
    ·exact h1 e'
 | [],[],L,k,q,_,h=>.inr ⟨by simp,by unfold me at h;exact h⟩
 | [],_::_,_,_,_,hl,_=>by simp at hl
 | _::_,[],_,_,_,hl,_=>by simp at hl
theorem nd_ne {is:List Nat} (h:is.Nodup) {j k:Nat} {a b:Nat} (hj:is[j]? = some a) (hk:is[k]? = some b) (hne:j≠k):a≠b:=by
 obtain⟨h1,rfl⟩:=List.getElem?_eq_some_iff.1 hj
 obtain⟨h2,rfl⟩:=List.getElem?_eq_some_iff.1 hk
 rw[List.Nodup,List.pairwise_iff_getElem]at h
 rcases Nat.lt_or_gt_of_ne hne with h3|h3
 ·exact h j k h1 h2 h3
 ·exact(h k j h2 h1 h3).symm
section
variable {w0 : World} {L : List Res}
theorem Ext.focusL {W:World} (h:Ext w0 W L) {is:List Nat} {ps:List Res} (hF:Foc L is ps) (nd:is.Nodup):Ext w0 W (bH L is::ps) where
 below:=h.below
 all k q hq:=by
  cases k with
  | zero=>cases hq;exact⟨fun j p _ hp=>h.all j p hp,fun j k p q _ _ hp hq hne=>h.sep j k p q hp hq hne⟩
  | succ k=>obtain⟨i,_,hi⟩:=hF.get k q (by simpa using hq);exact h.all i q hi
 new k q hq b hb:=by
  cases k with
  | zero=>cases hq;obtain⟨j,p',_,hp',hd⟩:=hb;exact h.new j p' hp' b hd
  | succ k=>obtain⟨i,_,hi⟩:=hF.get k q (by simpa using hq);exact h.new i q hi b hb
 sep k l q q' hq hq' hne b hb hb':=by
  cases k with
  | zero =>
   cases l with
   | zero=>exact hne E
   | succ l =>
    cases hq
    obtain⟨i,hi1,hi⟩:=hF.get l q' (by simpa using hq')
    obtain⟨j,p',hj,hp',hd⟩:=hb
    exact h.sep j i _ _ hp' hi (fun e=>hj (e▸List.mem_of_getElem? hi1)) b hd hb'
  | succ k =>
   obtain⟨i,hi1,hi⟩:=hF.get k q (by simpa using hq)
   cases l with
   | zero =>
    cases hq'
    obtain⟨j,p',hj,hp',hd⟩:=hb'
    exact h.sep i j _ _ hi hp' (fun e=>hj (e▸List.mem_of_getElem? hi1)) b hb hd
   | succ l =>
    obtain⟨i',hi1',hi'⟩:=hF.get l q' (by simpa using hq')
    exact h.sep i i' _ _ hi hi' (nd_ne nd hi1 hi1' (fun e=>hne (by rw[e]))) b hb hb'
theorem Ext.unfocusL {W W2:World} (h:Ext w0 W L) {is:List Nat} {ps ps' X:List Res} (hF:Foc L is ps) (nd:is.Nodup) (hl:ps'.length=is.length) (h2:Ext w0 W2 (bH L is::(ps'++X))):Ext w0 W2 (me L is ps'++X):=by
 have hA:∀(j:Nat) (q:Res),ps'[j]? = some q→(bH L is::(ps'++X))[j+1]? = some q:=fun j q hq=>by
  rw[List.getElem?_cons_succ,List.getElem?_append_left (List.getElem?_eq_some_iff.1 hq).1]
  exact hq
 have hC:∀(j:Nat) (q:Res),X[j]? = some q→(bH L is::(ps'++X))[ps'.length+j+1]? = some q:=fun j q hq=>by
  rw[List.getElem?_cons_succ,List.getElem?_append_right (by omega),Nat.add_sub_cancel_left]
  exact hq
 have hget:∀(k:Nat) (q:Res),(me L is ps'++X)[k]? = some q→(∃j:Nat,is[j]? = some k∧ps'[j]? = some q)∨(k∉is∧L[k]? = some q)∨(L.length≤k∧X[k-L.length]? = some q):=by
  intro k q hq
  by_cases hk:k<L.length
  ·rw[List.getElem?_append_left (by rw[ox];exact hk)]at hq
   rcases ro is ps' L k q hl hq with h3|h3
   ·exact .inl h3
   ·exact .inr (.inl h3)
  ·rw[List.getElem?_append_right (by rw[ox];omega),ox]at hq
   exact .inr (.inr ⟨by omega,hq⟩)
 have hr:∀(k:Nat) (q:Res) (b:Nat),k∉is→L[k]? = some q→q.dom b→(bH L is).dom b:=fun k q b hk hq hb=>⟨k,q,hk,hq,hb⟩
 refine⟨h2.below,fun k q hq=>?_,fun k q hq b hb=>?_,fun k l q q' hq hq' hne b hb hb'=>?_⟩
 ·rcases hget k q hq with⟨j,_,h4⟩|⟨h3,h4⟩|⟨h3,h4⟩
  ·exact h2.all _ q (hA j q h4)
  ·exact(h2.all 0 _ E).1 k q h3 h4
  ·exact h2.all _ q (hC _ q h4)
 ·rcases hget k q hq with⟨j,_,h4⟩|⟨h3,h4⟩|⟨h3,h4⟩
  ·exact h2.new _ q (hA j q h4) b hb
  ·exact h.new k q h4 b hb
  ·exact h2.new _ q (hC _ q h4) b hb
 ·rcases hget k q hq with⟨j,h3,h4⟩|⟨h3,h4⟩|⟨h3,h4⟩ <;> rcases hget l q' hq' with⟨j',h5,h6⟩|⟨h5,h6⟩|⟨h5,h6⟩
  ·exact h2.sep _ _ _ _ (hA j q h4) (hA j' q' h6) (fun e=>hne (by
    have e':j=j':=by omega
    subst e'
    rw[h3]at h5
    exact Option.some.inj h5)) b hb hb'
  ·exact h2.sep _ 0 _ _ (hA j q h4) E (by omega) b hb (hr l q' b h5 h6 hb')
  ·have:=(List.getElem?_eq_some_iff.1 h4).1
   exact h2.sep _ _ _ _ (hA j q h4) (hC _ q' h6) (by omega) b hb hb'
  ·exact h2.sep _ 0 _ _ (hA j' q' h6) E (by omega) b hb' (hr k q b h3 h4 hb)
  ·exact h.sep k l q q' h4 h6 hne b hb hb'
  ·exact h2.sep _ 0 _ _ (hC _ q' h6) E (by omega) b hb' (hr k q b h3 h4 hb)
  ·have:=(List.getElem?_eq_some_iff.1 h6).1
   exact h2.sep _ _ _ _ (hC _ q h4) (hA j' q' h6) (by omega) b hb hb'
  ·exact h2.sep _ 0 _ _ (hC _ q h4) E (by omega) b hb (hr l q' b h5 h6 hb')
  ·exact h2.sep _ _ _ _ (hC _ q h4) (hC _ q' h6) (by omega) b hb hb'
theorem Ext.restL {W W3:World} {is:List Nat} {X:List Res} (h:Ext w0 W (bH L is::X)) (hb:Below w0.heap.size w0 W3) (hR:(bH L is).holds W3):Ext w0 W3 (me L is (is.map fun _=>noR)):=by
 have hget:∀(k:Nat) (q:Res),(me L is (is.map fun _=>noR))[k]? = some q→q=noR∨(k∉is∧L[k]? = some q):=by
  intro k q hq
  rcases ro is _ L k q (by simp) hq with⟨j,_,h3⟩|h3
  ·rw[List.getElem?_map]at h3
   cases hh:is[j]? with
   | none=>rw[hh]at h3;cases h3
   | some x=>rw[hh]at h3;cases h3;exact .inl E
  ·exact .inr h3
 refine⟨hb,fun k q hq=>?_,fun k q hq b hd=>?_,fun k l q q' hq hq' hne b hd hd'=>?_⟩
 ·rcases hget k q hq with rfl|⟨h1,h2⟩
  ·trivial
  ·exact hR.1 k q h1 h2
 ·rcases hget k q hq with rfl|⟨h1,h2⟩
  ·exact hd.elim
  ·exact h.new 0 _ E b ⟨k,q,h1,h2,hd⟩
 ·rcases hget k q hq with rfl|⟨h1,h2⟩
  ·exact hd.elim
  ·rcases hget l q' hq' with rfl|⟨h3,h4⟩
   ·exact hd'.elim
   ·exact hR.2 k l q q' h1 h3 h2 h4 hne b hd hd'
end
section
variable {r : Option Nat} {n : Nat} {P : Program} {ops : Array Oper} {Q : Exit → Act → World → Prop} {w0 : World} {L : List Res} {m : Nat} {tm : Nat → Value} {d : List Deferred}
variable {t : Tmp} {ty : TypeId} {pos : String} {af : Array Edge} {g : Option (Nat × Bool)} {rest : List Oper}
theorem gR {α:Type} {f:FuncId} {c:Operand} {xs:List Operand} {us:Array TypeId} (is:List Nat) {ps:List Res} (fs vs cp:List Value) (φ:α→Prop) (val:α→Value) (ps':α→List Res) (res:α→List Res) (hF:Foc L is ps) (nd:is.Nodup)
  (hw:eW ops m tm ⟨some t,.call ⟨.value c,xs.toArray,us⟩,ty,pos,af,g⟩=true) (hf:bA P f=true) (hcv:opv m tm c=.func (.func f) fs.toArray cp.toArray) (ha:xs.map (opv m tm)=vs) (hl:∀x,(ps' x).length=is.length)
  (hc:∀W,Ext w0 W (bH L is::ps)→Calls P f (fs++(vs++cp)).toArray W fun e W'=>∃x:α,φ x∧e=.returned (val x)∧Ext w0 W' (bH L is::(ps' x++res x)))
  (h:∀x,φ x→OX r n P ops Q w0 (me L is (ps' x)++res x) rest m (upd tm t (val x)) d):OX r n P ops Q w0 L (⟨some t,.call ⟨.value c,xs.toArray,us⟩,ty,pos,af,g⟩::rest) m tm d:=fun W hW=>by
 unfold OL
 rw[bJ,if_pos hw]
 refine⟨fun _ _=>trivial,?_⟩
 show Oper.uponIn (Fw r) n P _ _ _ Q ((Oper.semAt r (act m tm d).eval _).run P W)
 have e:(execOp (opv m tm) ⟨some t,.call ⟨.value c,xs.toArray,us⟩,ty,pos,af,g⟩).run P W=.ok (.enter f (fs++(xs.map (opv m tm)++cp)).toArray) W:=by
  simp[execOp,resolve,hcv,Deferred.ofValue,invoke,jc hf]
 rw[bQ (by intro c h;cases h),dK,e,ha]
 refine⟨(fun hd=>by cases hd),?_⟩
 refine(sa (hc W (hW.focusL hF nd))).mono ?_
 rintro e W' ⟨x,hφ,rfl,hx⟩
 show OL r n P ops Q rest ((act m tm d).put (some t) (val x)) W'
 rw[dT]
 exact h x hφ W' (hW.unfocusL hF nd (hl x) hx)
end
open Go.RowKit (Below)
def nc (P:Program) (t:TypeId) (name:String):Option (FuncId × Bool):=match P.info? t with
 | some i=>match i.methods.find? (·.name==name)with
  | some m=>if m.path.isEmpty then m.func else none
  | none=>none
 | none=>none
def notIf (P:Program) (t:TypeId):Bool:=match P.underlying t with
 | some (.interface _)=>false
 | some _=>true
 | none=>false
theorem run_methP {P:Program} {W:World} {t e:TypeId} {a:Addr} {name:String} {f:FuncId} (hm:nc P t name=some (f,true)) (hu:P.underlying t=some (.pointer e)) (k:Nat):(method (k+1) t (.pointer (some a)) name).run P W=.ok (f,.pointer (some a)) W:=by
 unfold nc at hm
 cases hi:P.info? t with
 | none=>rw[hi]at hm;cases hm
 | some i =>
  rw[hi]at hm
  dsimp only at hm
  cases hf:i.methods.find? (·.name==name)with
  | none=>rw[hf]at hm;cases hm
  | some m =>
   rw[hf]at hm
   dsimp only at hm
   split at hm
   ·rename_i hp
    have hp':m.path = #[]:=by simpa using hp
    simp[method,typeInfo,hi,hf,hp',follow,hm,receiverAt,underlying,hu,Place.get]
   ·cases hm
theorem wrapNil {P:Program} {W:World} {ts:Array TypeId} {xt:TypeId} {a:Addr} {s1 s2:String}:(Builtin.ssaWrapNilChk_ ts xt #[.pointer (some a),strVal s1,strVal s2]).run P W=.ok (.pointer (some a)) W:=rfl
theorem run_methV {P:Program} {W:World} {t e:TypeId} {a:Addr} {v:Value} {name:String} {f:FuncId} (hm:nc P t name=some (f,false)) (hu:P.underlying t=some (.pointer e)) (hs:scB P e=true) (hc:W.cell? a=some v) (k:Nat):(method (k+1) t (.pointer (some a)) name).run P W=.ok (f,v) W:=by
 unfold nc at hm
 cases hi:P.info? t with
 | none=>rw[hi]at hm;cases hm
 | some i =>
  rw[hi]at hm
  dsimp only at hm
  cases hf:i.methods.find? (·.name==name)with
  | none=>rw[hf]at hm;cases hm
  | some m =>
   rw[hf]at hm
   dsimp only at hm
   split at hm
   ·rename_i hp
    have hp':m.path = #[]:=by simpa using hp
    simp[method,typeInfo,hi,hf,hp',follow,hm,receiverAt,underlying,hu,Place.get,wrapNil,asAddr,loadVar,iH hs,hc]
   ·cases hm
theorem rL {P:Program} {W:World} {ρ:Operand→Value} {x:Operand} {xs:List Operand} {us:Array TypeId} {t:Option Tmp} {ty:TypeId} {pos:String} {af:Array Edge} {g:Option (Nat × Bool)} {u e:TypeId} {a:Addr} {name:String} {f:FuncId} (hm:nc P u name=some (f,true)) (hu:P.underlying u=some (.pointer e)) (hf:bA P f=true) (hx:ρ x=.iface u (.pointer (some a))) :
  (execOp ρ ⟨t,.call ⟨.invoke x name,xs.toArray,us⟩,ty,pos,af,g⟩).run P W=.ok (.enter f (.pointer (some a)::xs.map ρ).toArray) W:=by
 have h2:P.types.size+Made.depth=(P.types.size+(Made.depth-1))+1:=rfl
 simp only[execOp,resolve,Sem.run_bind]
 simp[invoke,hx,callMethod,h2,run_methP hm hu,jc hf]
 exact List.take_of_length_le (by simp)
theorem nR {P:Program} {W:World} {ρ:Operand→Value} {x:Operand} {xs:List Operand} {us:Array TypeId} {t:Option Tmp} {ty:TypeId} {pos:String} {af:Array Edge} {g:Option (Nat × Bool)} {u e:TypeId} {a:Addr} {v:Value} {name:String} {f:FuncId} (hm:nc P u name=some (f,false)) (hu:P.underlying u=some (.pointer e)) (hs:scB P e=true) (hc:W.cell? a=some v) (hf:bA P f=true) (hx:ρ x=.iface u (.pointer (some a))) :
  (execOp ρ ⟨t,.call ⟨.invoke x name,xs.toArray,us⟩,ty,pos,af,g⟩).run P W=.ok (.enter f (v::xs.map ρ).toArray) W:=by
 have h2:P.types.size+Made.depth=(P.types.size+(Made.depth-1))+1:=rfl
 simp only[execOp,resolve,Sem.run_bind]
 simp[invoke,hx,callMethod,h2,run_methV hm hu hs hc,jc hf]
 exact List.take_of_length_le (by simp)
section
variable {r : Option Nat} {n : Nat} {P : Program} {ρ : Operand → Value} {w0 : World} {L : List Res}
variable {t : Option Tmp} {ty : TypeId} {pos : String} {af : Array Edge} {g : Option (Nat × Bool)} {C : World → Prop}
theorem kF {x:Operand} {u:TypeId} {v:Value} (hu:notIf P u=true) (hx:ρ x=v):OpY r n P ⟨t,.makeInterface u x,ty,pos,af,g⟩ ρ C C (.iface u v) :=
 bm (by intro c h;cases h) (fun W _=>by
  have h1:∃dd,(underlying u).run P W=.ok dd W∧∀s,dd ≠ .interface s:=by
   unfold notIf at hu
   cases h:P.underlying u with
   | none=>rw[h]at hu;cases hu
   | some dd =>
    refine⟨dd,by simp[underlying,h],fun s e=>?_⟩
    subst e
    rw[h]at hu
    cases hu
  obtain⟨dd,h2,h3⟩:=h1
  have h4:(Instr.makeInterface u v).run P W=.ok (.iface u v) W:=by
   unfold Instr.makeInterface
   rw[Sem.run_bind,h2,Result.andThen_ok]
   cases dd <;> first|rfl|exact absurd E (h3 _)
  simp[execOp,hx,h4])
theorem nH {x:Operand} {u e:TypeId} {v:Value} (hu:notIf P u=true) (hx:ρ x=.iface u v):OpY r n P ⟨t,.typeAssert x e u false,ty,pos,af,g⟩ ρ C C v :=
 bm (by intro c h;cases h) (fun W _=>by
  have h1:∃dd,(underlying u).run P W=.ok dd W∧∀s,dd ≠ .interface s:=by
   unfold notIf at hu
   cases h:P.underlying u with
   | none=>rw[h]at hu;cases hu
   | some dd =>
    refine⟨dd,by simp[underlying,h],fun s e=>?_⟩
    subst e
    rw[h]at hu
    cases hu
  obtain⟨dd,h2,h3⟩:=h1
  have h4:(Instr.typeAssert (.iface u v) e u false).run P W=.ok v W:=by
   unfold Instr.typeAssert
   rw[Sem.run_bind,h2,Result.andThen_ok]
   cases dd <;> first|exact absurd E (h3 _)|simp
  simp[execOp,hx,h4])
theorem lN {f:FuncId} {x:Operand} {xs:List Operand} {us:Array TypeId} {u e ce:TypeId} {b:Nat} {name:String} (i:Nat) (vs:List Value) {v w:Value} (hL:L[i]? = some (ak b ce [v])) (hm:nc P u name=some (f,false)) (hu:P.underlying u=some (.pointer e)) (hs:scB P e=true) (hf:bA P f=true) (hx:ρ x=.iface u (.pointer (some ⟨b,0,none⟩))) (ha:xs.map ρ=vs)
  (h:∀W,Ext w0 W L→Calls P f (v::vs).toArray W fun e W'=>e=.returned w∧Ext W W' []) :
  OpY r n P ⟨t,.call ⟨.invoke x name,xs.toArray,us⟩,ty,pos,af,g⟩ ρ (fun W=>Ext w0 W L) (fun W=>Ext w0 W L) w:=fun W hW=>by
 rw[bQ (by intro c h;cases h)]
 subst ha
 rw[nR hm hu hs ((gi hW hL 0).trans E) hf hx]
 refine(h W hW).mono ?_
 rintro e W' ⟨rfl,hx⟩
 exact⟨E,hW.below' hx.below⟩
end
section
variable {r : Option Nat} {n : Nat} {P : Program} {ops : Array Oper} {Q : Exit → Act → World → Prop} {w0 : World} {L : List Res} {m : Nat} {tm : Nat → Value} {d : List Deferred}
variable {t : Tmp} {ty : TypeId} {pos : String} {af : Array Edge} {g : Option (Nat × Bool)} {rest : List Oper}
theorem ox_headR (i:Nat) {β:Type} {cells:β→List Value} {xs:List β} {A:Option Addr} {cc k sz lo:Nat} {e:TypeId} (hc:∀x,(cells x).length=sz) (hL:L[i]? = some (aR A cc e sz k (encL cells xs))) (hlo:lo≤k) {rst:List Oper} (h:OX r n P ops Q w0 (L.set i (aR A cc e sz lo (encL cells (xs.take lo)))) rst m tm d):OX r n P ops Q w0 L rst m tm d:=fun W hW=>by
 have hrow:(aR A cc e sz k (encL cells xs)).holds W:=hW.mem hL
 have hA0:A=none→lo=0:=by
  intro hA
  subst hA
  rcases hrow.2 with⟨h2,h3⟩|⟨g,cap,cur,hv,_⟩
  ·omega
  ·simp at hv
 refine h W (hW.tell i hL (fun h'=>?_) (fun b hb=>hb))
 have:=oL h' hlo hA0
 rw[iA hc]at this
 exact this
theorem lL {α:Type} {f:FuncId} {c:Operand} {name:String} {xs:List Operand} {us:Array TypeId} (is:List Nat) {ps:List Res} (fs vs cp:List Value) (φ:α→Prop) (val:α→Value) (ps':α→List Res) (res:α→List Res) (hF:Foc L is ps) (nd:is.Nodup)
  (hw:eW ops m tm ⟨some t,.call ⟨.invoke c name,xs.toArray,us⟩,ty,pos,af,g⟩=true) (hf:bA P f=true)
  (he:∀W,Ext w0 W L→(execOp (opv m tm) ⟨some t,.call ⟨.invoke c name,xs.toArray,us⟩,ty,pos,af,g⟩).run P W=.ok (.enter f (fs++(xs.map (opv m tm)++cp)).toArray) W) (ha:xs.map (opv m tm)=vs) (hl:∀x,(ps' x).length=is.length)
  (hc:∀W,Ext w0 W (bH L is::ps)→Calls P f (fs++(vs++cp)).toArray W fun e W'=>∃x:α,φ x∧e=.returned (val x)∧Ext w0 W' (bH L is::(ps' x++res x)))
  (h:∀x,φ x→OX r n P ops Q w0 (me L is (ps' x)++res x) rest m (upd tm t (val x)) d):OX r n P ops Q w0 L (⟨some t,.call ⟨.invoke c name,xs.toArray,us⟩,ty,pos,af,g⟩::rest) m tm d:=fun W hW=>by
 unfold OL
 rw[bJ,if_pos hw]
 refine⟨fun _ _=>trivial,?_⟩
 show Oper.uponIn (Fw r) n P _ _ _ Q ((Oper.semAt r (act m tm d).eval _).run P W)
 rw[bQ (by intro c h;cases h),dK,he W hW,ha]
 refine⟨(fun hd=>by cases hd),?_⟩
 refine(sa (hc W (hW.focusL hF nd))).mono ?_
 rintro e W' ⟨x,hφ,rfl,hx⟩
 show OL r n P ops Q rest ((act m tm d).put (some t) (val x)) W'
 rw[dT]
 exact h x hφ W' (hW.unfocusL hF nd (hl x) hx)
theorem exM_P {c:Operand} {name:String} {xs:List Operand} {us:Array TypeId} {f:FuncId} {u e:TypeId} {a:Addr} (hm:nc P u name=some (f,true)) (hu:P.underlying u=some (.pointer e)) (hf:bA P f=true) (hx:opv m tm c=.iface u (.pointer (some a))):∀W,Ext w0 W L→(execOp (opv m tm) ⟨some t,.call ⟨.invoke c name,xs.toArray,us⟩,ty,pos,af,g⟩).run P W=.ok (.enter f ([Value.pointer (some a)]++(xs.map (opv m tm)++[])).toArray) W:=fun W _=>by
 rw[rL hm hu hf hx]
 simp
theorem exM_V {c:Operand} {name:String} {xs:List Operand} {us:Array TypeId} {f:FuncId} {u e ce:TypeId} {b:Nat} {v:Value} (i:Nat) (hL:L[i]? = some (ak b ce [v])) (hm:nc P u name=some (f,false)) (hu:P.underlying u=some (.pointer e)) (hs:scB P e=true) (hf:bA P f=true) (hx:opv m tm c=.iface u (.pointer (some ⟨b,0,none⟩))):∀W,Ext w0 W L→(execOp (opv m tm) ⟨some t,.call ⟨.invoke c name,xs.toArray,us⟩,ty,pos,af,g⟩).run P W=.ok (.enter f ([v]++(xs.map (opv m tm)++[])).toArray) W:=fun W hW=>by
 rw[nR hm hu hs ((gi hW hL 0).trans E) hf hx]
 simp
end
open Go.RowKit (Below)
theorem cI_len' (x:Int):(cI x).length=1:=rfl
theorem lenA {xs:List Int}:(encL cI xs).length=xs.length:=by
 rw[eL (n:=xs.length) cI_len' E,Nat.mul_one]
theorem aggA {P:Program} {u:TypeId} {N:Nat} {xs:List Int} (h:nQ P u N=true) (hl:xs.length=N):nQ P u (encL cI xs).length=true:=by rw[lenA,hl];exact h
theorem szA {P:Program} {u:TypeId} {N:Nat} {xs:List Int} (h:szB P u N=true) (hl:xs.length=N):szB P u (encL cI xs).length=true:=by rw[lenA,hl];exact h
theorem takeA (cs:List Value):(cs.drop 0).take cs.length=cs:=by simp
theorem ltA {xs:List Int} {N:Nat} {i:Int} (hl:xs.length=N) (h0:0≤i) (h1:i<(N:Int)):0+i.toNat*1<(encL cI xs).length:=by rw[lenA];omega
theorem setA {v:Int}:∀{xs:List Int} {j:Nat},(encL cI xs).set j (.int .i64 v)=encL cI (xs.set j v)
 | [],_=>rfl
 | x::xs,0=>rfl
 | x::xs,j+1=>by
  have:=setA (v:=v) (xs:=xs) (j:=j)
  show Value.int .i64 x::(encL cI xs).set j (.int .i64 v)=Value.int .i64 x::encL cI (xs.set j v)
  rw[this]
theorem setA' {v:Int} {xs:List Int} {j:Nat}:(encL cI xs).set (0+j*1) (.int .i64 v)=encL cI (xs.set j v):=by rw[Nat.zero_add,Nat.mul_one,setA]
theorem rn {xs:List Int} {N j:Nat} {v:Int} (hl:xs.length=N):(xs.set j v).length=N:=by rw[List.length_set];exact hl
theorem allA:∀(xs:List Int),((encL cI xs).all (·.oneCell'))=true
 | []=>rfl
 | x::xs=>by
  show((Value.int .i64 x).oneCell'&&(encL cI xs).all (·.oneCell'))=true
  rw[allA xs,Bool.and_true]
  rfl
theorem getA:∀{xs:List Int} {j:Nat},j<xs.length→(encL cI xs)[j]? = some (.int .i64 (xs.getD j default))
 | [],_,h=>by simp at h
 | x::xs,0,_=>rfl
 | x::xs,j+1,h=>by
  have:=getA (xs:=xs) (j:=j) (by simpa using h)
  show(Value.int .i64 x::encL cI xs)[j+1]? = _
  rw[List.getElem?_cons_succ,this]
  rfl
section
variable {r : Option Nat} {n : Nat} {P : Program} {ρ : Operand → Value} {w0 : World} {L : List Res}
variable {t : Option Tmp} {ty : TypeId} {pos : String} {af : Array Edge} {g : Option (Nat × Bool)} {C : World → Prop}
theorem ru (i:Nat) {xs xs':List Int} {N:Nat} {x y:Operand} {u:TypeId} {b:Nat} {e:TypeId} (hs:szB P u N=true) (hl:xs.length=N) (hl':xs'.length=N) (hL:L[i]? = some (ak b e (encL cI xs))) (hx:ρ x=.pointer (some ⟨b,0,none⟩)) (hy:ρ y=.agg (encL cI xs').toArray) :
  OpY r n P ⟨t,.store u x y,ty,pos,af,g⟩ ρ (fun W=>Ext w0 W L) (fun W=>Ext w0 W (L.set i (ak b e (encL cI xs')))) undef:=by
 have:=yS (r:=r) (n:=n) (t:=t) (ty:=ty) (pos:=pos) (af:=af) (g:=g) (w0:=w0) i (encL cI xs') (szA hs hl') hL (by rw[lenA,lenA];omega) hx hy (allA xs')
 have e1:(encL cI xs).take 0++encL cI xs'++(encL cI xs).drop (0+(encL cI xs').length)=encL cI xs':=by
  rw[List.take_zero,List.nil_append,List.drop_eq_nil_of_le (by rw[lenA,lenA];omega),List.append_nil]
 rw[e1]at this
 exact this
theorem y_indexA {x ix:Operand} {u e:TypeId} {N:Nat} {xs:List Int} {k:IntKind} {i:Int} (hu:P.underlying u=some (.array N e)) (hs:scB P e=true) (hl:xs.length=N) (h0:0≤i) (h1:i<(N:Int)) (hx:ρ x=.agg (encL cI xs).toArray) (hi:ρ ix=.int k i) :
  OpY r n P ⟨t,.index u x ix,ty,pos,af,g⟩ ρ C C (.int .i64 (rdL xs i)) :=
 bm (by intro c h;cases h) (fun W _=>by
  have h2:(encL cI xs)[i.toNat]? = some (.int .i64 (rdL xs i)):=getA (by omega)
  have h3:i.toNat<(encL cI xs).length:=by rw[lenA];omega
  have h4:(encL cI xs)[i.toNat]'h3=.int .i64 (rdL xs i):=by
   rw[List.getElem?_eq_getElem h3]at h2
   exact Option.some.inj h2
  simp[execOp,hx,hi,Instr.index,asIntOf,underlying,hu,kx hs,part,iH hs,h0,h1,h3,h4])
end
section
variable {P : Program} {m : Nat} {tm : Nat → Value} {w0 : World} {L : List Res}
theorem resV_cellA (i:Nat) {x:Tmp} {u:TypeId} {b:Nat} {e:TypeId} {N:Nat} {xs:List Int} (hs:nQ P u N=true) (hl:xs.length=N) (hL:L[i]? = some (ak b e (encL cI xs))) (hx:opv m tm (.tmp x)=.pointer (some ⟨b,0,none⟩)):resV P m tm w0 L (.cell x u) (.agg (encL cI xs).toArray) :=
 cf i (encL cI xs) (aggA hs hl) hL hx (takeA _)
end
open Go.RowKit (Below)
theorem put_sizeU (a:Act) (d:Option Tmp) (v:Value):(a.put d v).tmps.size=a.tmps.size:=by
 cases d with
 | none=>rfl
 | some i=>simp[Act.put]
theorem nf {ops:Array Oper} (vals:Nat→Value) (a0:Act) (S:Nat→Bool):∀m,(stA ops vals a0 S m).tmps.size=a0.tmps.size
 | 0=>rfl
 | m+1=>by
  unfold stA
  split
  ·rw[put_sizeU,nf vals a0 S m]
  ·exact nf vals a0 S m
theorem put_sameU {a b:Act} {d:Option Tmp} {u v:Value} (hs:a.tmps.size=b.tmps.size) (h:a.put d u=a.put d v):b.put d u=b.put d v:=by
 cases d with
 | none=>rfl
 | some i =>
  have h1:a.tmps.setIfInBounds i u=a.tmps.setIfInBounds i v:=congrArg Act.tmps h
  show(⟨b.tmps.setIfInBounds i u,b.defers⟩:Act)=⟨b.tmps.setIfInBounds i v,b.defers⟩
  congr 1
  apply Array.ext_getElem?
  intro j
  have h2:=congrArg (fun t=>t[j]?) h1
  simp only[Array.getElem?_setIfInBounds]at h2 ⊢
  by_cases e:i=j
  ·subst e
   by_cases hl:i<b.tmps.size
   ·simp[hl,hs]at h2 ⊢
    exact h2
   ·simp[hl]
  ·simp[e]
abbrev Xo:=Nat→Option Addr × Nat × Nat × List (Option Addr × Nat × Nat) × Res
abbrev Sd:=Option Nat × Nat × List Bool
structure Dyn where
 val:(Nat→Xo)→Value
 wp:(Nat→Xo)→Res
 made:(Nat→Xo)→List Res
instance:Inhabited Dyn:=⟨⟨fun _=>undef,fun _=>noR,fun _=>[]⟩⟩
def aM:List Res→List Bool→List Res
 | p::L,true::k=>p::aM L k
 | _::L,false::k=>noR::aM L k
 | _,_=>[]
def cg (s:Sd) (d:Dyn) (ξ:Nat→Xo) (L:List Res):List Res:=(match s.1 with|some i=>L.set i (d.wp ξ)|none=>L)++d.made ξ
def qq (ξ:Nat→Xo) (j:Nat) (x:Xo):Nat→Xo:=fun i=>if i=j then x else ξ i
def obQ (w0:World) (j:Nat) (s:Sd) (d:Dyn) (ξ:Nat→Xo) (dst:Option Tmp) (L:List Res) (a:Act):Exit→Act→World→Prop:=fun e a' W =>
 e=.normal∧∃x,a'=a.put dst (d.val (qq ξ j x))∧Ext w0 W (cg s d (qq ξ j x) L)
def obG (r:Option Nat) (n:Nat) (P:Program) (ops:Array Oper) (w0:World) (ξ:Nat→Xo) (j:Nat) (o:Oper) (s:Sd) (d:Dyn) (L:List Res) (a:Act):Prop :=
 (Region.wanted o (yielded ops a.tmps)=true∧∀(L2:List Res) (W:World),Ext w0 W (aM L s.2.2++L2)→o.wpIn (Fw r) n P a W (fun a' W'=>obQ w0 j s d ξ o.dst (aM L s.2.2++L2) a .normal a' W') (obQ w0 j s d ξ o.dst (aM L s.2.2++L2) a)) ∨
 (Region.wanted o (yielded ops a.tmps)=false∧(∀ξ',d.val ξ'=undef)∧s.1=none∧s.2.1=0)
def GW (r:Option Nat) (n:Nat) (P:Program) (ops:Array Oper) (w0:World) (ξ:Nat→Xo) (K:List Res→Act→Prop):Nat→List Oper→List Sd→List Dyn→List Res→Act→Prop
 | _,[],[],[],L,a=>K L a
 | j,o::os,s::ss,d::ds,L,a=>obG r n P ops w0 ξ j o s d L a∧GW r n P ops w0 ξ K (j+1) os ss ds (cg s d ξ L) (a.put o.dst (d.val ξ))
 | _,_,_,_,_,_=>False
def jn (sd:List Sd) (base:Nat):Nat→Nat
 | 0=>base
 | j+1=>jn sd base j+(sd.getD j default).2.1
def wrG (sd:List Sd) (base j i:Nat):Bool:=((sd.getD j default).1==some i)||(decide (jn sd base j≤i)&&decide (i<jn sd base (j+1)))
def dpG (A:List (List Nat)) (j i:Nat):Bool:=(A.getD j []).contains i
def chkG (ops:Array Oper) (A:List (List Nat)) (sd:List Sd) (base:Nat):Bool :=
 decide (sd.length=ops.size)&&(List.range ops.size).all fun j =>
  (match (sd.getD j default).1 with|none=>true|some i=>decide (i<jn sd base j))&&decide ((sd.getD j default).2.2.length=jn sd base j) &&
  ((A.getD j []).all fun i=>match ops[j]? with
   | some o=>o.after.any fun e=>Region.binds .any e&&(e.on==i||dpG A e.on i)
   | none=>false) &&
  ((List.range ops.size).all fun i=>decide (i=j)||(List.range (jn sd base ops.size)).all fun q => !(wrG sd base i q) ||
   ((!(wrG sd base j q)||dpG A j i||dpG A i j)&&(!((sd.getD j default).2.2.getD q false)||(if i<j then dpG A j i else dpG A i j))))
def IndA (A:List (List Nat)):Nat→List Sd→List Dyn→Prop
 | _,[],[]=>True
 | j,s::ss,d::ds=>((∀ξ ξ':Nat→Xo,(∀i,(i=j∨dpG A j i=true)→ξ i=ξ' i)→d.val ξ=d.val ξ'∧d.wp ξ=d.wp ξ'∧d.made ξ=d.made ξ')∧∀ξ,(d.made ξ).length=s.2.1)∧IndA A (j+1) ss ds
 | _,_,_=>False
structure ExtF (w0 W:World) (f:Nat→Option Res):Prop where
 below:Below w0.heap.size w0 W
 all:∀(i:Nat) (p:Res),f i=some p→p.holds W
 new:∀(i:Nat) (p:Res),f i=some p→∀b,p.dom b→w0.heap.size≤b
 sep:∀(i j:Nat) (p q:Res),f i=some p→f j=some q→i≠j→∀b,p.dom b→¬q.dom b
theorem ExtF.of {w0 W:World} {L:List Res} (h:Ext w0 W L):ExtF w0 W (fun i=>L[i]?):=⟨h.below,h.all,h.new,h.sep⟩
theorem ExtF.to {w0 W:World} {L:List Res} (h:ExtF w0 W (fun i=>L[i]?)):Ext w0 W L:=⟨h.below,h.all,h.new,h.sep⟩
theorem ExtF.map {w0 W:World} {f g:Nat→Option Res} (h:ExtF w0 W f) (σ:Nat→Nat) (hg:∀i p,g i=some p→p=noR∨f (σ i)=some p)
  (hj:∀i j p q,g i=some p→g j=some q→i≠j→p=noR∨q=noR∨(f (σ i)=some p∧f (σ j)=some q∧σ i≠σ j)):ExtF w0 W g where
 below:=h.below
 all i p hp:=by
  rcases hg i p hp with rfl|h1
  ·trivial
  ·exact h.all _ _ h1
 new i p hp b hb:=by
  rcases hg i p hp with rfl|h1
  ·exact hb.elim
  ·exact h.new _ _ h1 b hb
 sep i j p q hp hq hne b hb hb':=by
  rcases hj i j p q hp hq hne with rfl|rfl|⟨h1,h2,h3⟩
  ·exact hb.elim
  ·exact hb'.elim
  ·exact h.sep _ _ _ _ h1 h2 h3 b hb hb'
theorem mB:∀(L:List Res) (k:List Bool) (q:Nat),L.length=k.length→(aM L k)[q]? = (L[q]?).map fun p=>if k.getD q false=true then p else noR
 | [],[],q,_=>by simp[aM]
 | p::L,true::k,0,_=>by simp[aM]
 | p::L,false::k,0,_=>by simp[aM]
 | p::L,true::k,q+1,h=>by
  have:=mB L k q (by simpa using h)
  simpa [aM]using this
 | p::L,false::k,q+1,h=>by
  have:=mB L k q (by simpa using h)
  simpa [aM]using this
theorem pp:∀(L:List Res) (k:List Bool),L.length=k.length→(aM L k).length=L.length
 | [],[],_=>rfl
 | p::L,true::k,h=>by simp[aM,pp L k (by simpa using h)]
 | p::L,false::k,h=>by simp[aM,pp L k (by simpa using h)]
section
variable {r : Option Nat} {n : Nat} {P : Program} {ops : Array Oper}
def lx (sd:List Sd) (dy:List Dyn) (ξ:Nat→Xo) (L0:List Res):Nat→List Res
 | 0=>L0
 | j+1=>cg (sd.getD j default) (dy.getD j default) ξ (lx sd dy ξ L0 j)
def vaG (dy:List Dyn) (ξ:Nat→Xo) (j:Nat):Value:=(dy.getD j default).val ξ
theorem gw_spec {l:List Oper} (hops:ops=l.toArray) {sd:List Sd} {dy:List Dyn} {w0:World} {ξ:Nat→Xo} {K:List Res→Act→Prop} {L0:List Res} {a0:Act} (hs:sd.length=l.length) (hd:dy.length=l.length) :
  ∀(c j:Nat),j+c=l.length→GW r n P ops w0 ξ K j (l.drop j) (sd.drop j) (dy.drop j) (lx sd dy ξ L0 j) (stA ops (vaG dy ξ) a0 (fun _=>true) j) →
   (∀i o,j≤i→ops[i]? = some o→obG r n P ops w0 ξ i o (sd.getD i default) (dy.getD i default) (lx sd dy ξ L0 i) (stA ops (vaG dy ξ) a0 (fun _=>true) i))∧K (lx sd dy ξ L0 l.length) (stA ops (vaG dy ξ) a0 (fun _=>true) l.length):=by
 intro c
 induction c with
 | zero =>
  intro j hj h
  have:j=l.length:=by omega
  subst this
  rw[List.drop_length,←hs,List.drop_length,hs,←hd,List.drop_length,hd]at h
  refine⟨fun i o hi ho=>?_,h⟩
  have:i<ops.size:=(Array.getElem?_eq_some_iff.1 ho).1
  rw[hops]at this
  simp at this
  omega
 | succ c ih =>
  intro j hj h
  have h1:j<l.length:=by omega
  rw[List.drop_eq_getElem_cons h1,List.drop_eq_getElem_cons (show j<sd.length by omega),List.drop_eq_getElem_cons (show j<dy.length by omega)]at h
  obtain⟨hob,hrest⟩:=h
  have e1:sd[j]'(by omega)=sd.getD j default:=by simp[show j<sd.length by omega]
  have e2:dy[j]'(by omega)=dy.getD j default:=by simp[show j<dy.length by omega]
  have ho:ops[j]? = some l[j]:=by rw[hops];simp[h1]
  have e3:gl ops j=l[j].dst:=by simp[gl,ho]
  rw[e1,e2]at hob hrest
  have hrest':GW r n P ops w0 ξ K (j+1) (l.drop (j+1)) (sd.drop (j+1)) (dy.drop (j+1)) (lx sd dy ξ L0 (j+1)) (stA ops (vaG dy ξ) a0 (fun _=>true) (j+1)):=by
   have e4:stA ops (vaG dy ξ) a0 (fun _=>true) (j+1)=(stA ops (vaG dy ξ) a0 (fun _=>true) j).put (l[j]).dst ((dy.getD j default).val ξ):=by
    simp[stA,e3,vaG]
   rw[e4]
   exact hrest
  obtain⟨h2,h3⟩:=ih (j+1) (by omega) hrest'
  refine⟨fun i o hi hoi=>?_,h3⟩
  by_cases e:i=j
  ·subst e
   rw[ho]at hoi;cases hoi
   exact hob
  ·exact h2 i o (by omega) hoi
theorem tv {A:List (List Nat)}:∀(sd:List Sd) (dy:List Dyn) (j0:Nat),IndA A j0 sd dy→dy.length=sd.length∧∀j,j<sd.length →
  (∀ξ ξ':Nat→Xo,(∀i,(i=j0+j∨dpG A (j0+j) i=true)→ξ i=ξ' i)→(dy.getD j default).val ξ=(dy.getD j default).val ξ'∧(dy.getD j default).wp ξ=(dy.getD j default).wp ξ'∧(dy.getD j default).made ξ=(dy.getD j default).made ξ')∧∀ξ,((dy.getD j default).made ξ).length=(sd.getD j default).2.1
 | [],[],_,_=>⟨E,fun j hj=>by simp at hj⟩
 | s::ss,d::ds,j0,h=>by
  obtain⟨h1,h2⟩:=tv ss ds (j0+1) h.2
  refine⟨by simp[h1],fun j hj=>?_⟩
  cases j with
  | zero=>exact⟨h.1.1,h.1.2⟩
  | succ j =>
   have:=h2 j (by simpa using hj)
   simpa [Nat.add_assoc,Nat.add_comm 1 j]using this
 | [],_::_,_,h=>h.elim
 | _::_,[],_,h=>h.elim
theorem wpIn_moveG {o:Oper} {a b:Act} {W w0:World} {j:Nat} {s:Sd} {dd:Dyn} {ξ:Nat→Xo} {L:List Res} {K:Act→World→Prop} {Q:Exit→Act→World→Prop} (hs:∀cs x,o.op ≠ .select cs x) (hd:∀c,o.op ≠ .defer c) (hev:∀x∈o.op.operands,a.eval x=b.eval x) (hsz:a.tmps.size=b.tmps.size)
  (h:o.wpIn (Fw r) n P a W (fun a' W'=>obQ w0 j s dd ξ o.dst L a .normal a' W') (obQ w0 j s dd ξ o.dst L a)) (hK:∀x W',Ext w0 W' (cg s dd (qq ξ j x) L)→K (b.put o.dst (dd.val (qq ξ j x))) W'):o.wpIn (Fw r) n P b W K Q:=by
 refine⟨fun _ _=>by cases r <;> trivial,?_⟩
 have h2:=h.2
 have e:o.semAt r b.eval=o.semAt r a.eval:=by
  have e1:execOp b.eval o=execOp a.eval o:=execOp_congr o hs (fun x hx=>(hev x hx).symm)
  cases r with
  | none=>rw[Oper.semAt_none,Oper.semAt_none,e1]
  | some l=>rw[Oper.semAt_some l _ o hd,Oper.semAt_some l _ o hd,e1]
 have e0:(Fw r).round=r:=by cases r <;> rfl
 rw[e0]at h2 ⊢
 rw[e]
 have key:∀u W',obQ w0 j s dd ξ o.dst L a .normal (a.put o.dst u) W'→K (b.put o.dst u) W':=fun u W' hc=>by
  obtain⟨_,x,hv,hE⟩:=hc
  rw[put_sameU hsz hv]
  exact hK x W' hE
 generalize (o.semAt r a.eval).run P W=res at h2 ⊢
 match res,h2 with
 | .ok (.value u) W',h2=>exact key u W' h2
 | .ok .skip W',h2=>exact key undef W' h2
 | .ok (.defer d') W',h2 =>
  obtain⟨_,x,hv,_⟩:=h2
  have h9:=congrArg Act.defers hv
  rw[ja,ja]at h9
  exact absurd h9 (by simp)
 | .ok (.enter f args) W',h2 =>
  refine⟨h2.1,h2.2.mono ?_⟩
  rintro(_|_|_) w hw
  ·exact key _ _ hw
  ·exact absurd hw.1 (by intro h;cases h)
  ·obtain⟨a9,w9,h9⟩:=hw
   exact absurd h9.1 (by intro h;cases h)
 | .ok (.row row args) W',h2 =>
  refine⟨h2.1,?_⟩
  exact RowsIn.mono h2.2 (fun u w hw=>key u w hw)
 | .ok (.round l f tmps assign body) W',h2 =>
  refine⟨h2.1,h2.2.mono ?_⟩
  rintro(_|_|_) w hw
  ·exact key _ _ hw
  ·exact absurd hw.1 (by intro h;cases h)
  ·obtain⟨a9,w9,h9⟩:=hw
   exact absurd h9.1 (by intro h;cases h)
 | .halt (.panic u) W',h2=>exact absurd h2.1 (by intro h;cases h)
end
section
variable {r : Option Nat} {n : Nat} {P : Program} {ops : Array Oper} {Q : Exit → Act → World → Prop} {w0 : World} {sd : List Sd} {dy : List Dyn} {base : Nat} {L0 : List Res} {A : List (List Nat)} {ξ ξ' : Nat → Xo} {S S' : Nat → Bool}
def cu (sd:List Sd) (dy:List Dyn) (base:Nat) (L0:List Res) (ξ:Nat→Xo) (S:Nat→Bool):Nat→Nat→Option Res
 | 0,q=>L0[q]?
 | j+1,q=>if S j=true∧(sd.getD j default).1=some q then some ((dy.getD j default).wp ξ)
   else if S j=true∧jn sd base j≤q∧q<jn sd base (j+1)then((dy.getD j default).made ξ)[q-jn sd base j]?
   else cu sd dy base L0 ξ S j q
theorem ph {j q:Nat}:wrG sd base j q=true↔(sd.getD j default).1=some q∨(jn sd base j≤q∧q<jn sd base (j+1)):=by
 unfold wrG
 simp only[Bool.or_eq_true,Bool.and_eq_true,decide_eq_true_eq,beq_iff_eq]
theorem cu_no {j q:Nat} (h:¬(S j=true∧wrG sd base j q=true)):cu sd dy base L0 ξ S (j+1) q=cu sd dy base L0 ξ S j q:=by
 rw[ph]at h
 simp only[cu]
 rw[if_neg (fun x=>h ⟨x.1,.inl x.2⟩),if_neg (fun x=>h ⟨x.1,.inr x.2⟩)]
theorem rQ {j:Nat}:∀k,j≤k→jn sd base j≤jn sd base k:=fun k h=>by
 induction k with
 | zero =>
  have:j=0:=by omega
  subst this;exact Nat.le_refl _
 | succ k ih =>
  by_cases e:j=k+1
  ·subst e;exact Nat.le_refl _
  ·have:=ih (by omega)
   simp only[jn]
   omega
theorem lx_spec (hb:L0.length=base) {k:Nat} (hwr:∀j i,j<k→(sd.getD j default).1=some i→i<jn sd base j) (hlen:∀j,j<k→((dy.getD j default).made ξ).length=(sd.getD j default).2.1) :
  ∀j,j≤k→(lx sd dy ξ L0 j).length=jn sd base j∧∀q,(lx sd dy ξ L0 j)[q]? = cu sd dy base L0 ξ (fun _=>true) j q:=by
 intro j
 induction j with
 | zero=>intro _;exact⟨hb,fun q=>rfl⟩
 | succ j ih =>
  intro hj
  obtain⟨h1,h2⟩:=ih (by omega)
  have h3:=hlen j (by omega)
  have h4:=hwr j
  have key:∀L:List Res,L.length=jn sd base j→(∀q,L[q]? = if(sd.getD j default).1=some q then some ((dy.getD j default).wp ξ)else cu sd dy base L0 ξ (fun _=>true) j q) →
    (L++(dy.getD j default).made ξ).length=jn sd base (j+1)∧∀q,(L++(dy.getD j default).made ξ)[q]? = cu sd dy base L0 ξ (fun _=>true) (j+1) q:=by
   intro L hL hq
   refine⟨by rw[List.length_append,hL,h3];rfl,fun q=>?_⟩
   simp only[cu,true_and]
   by_cases e:(sd.getD j default).1=some q
   ·have:=h4 q (by omega) e
    rw[if_pos e,List.getElem?_append_left (by omega),hq q,if_pos e]
   ·rw[if_neg e]
    by_cases hlt:q<jn sd base j
    ·rw[if_neg (by omega),List.getElem?_append_left (by omega),hq q,if_neg e]
    ·rw[List.getElem?_append_right (by omega),hL]
     by_cases hlt2:q<jn sd base (j+1)
     ·rw[if_pos ⟨by omega,hlt2⟩]
     ·rw[if_neg (by omega),List.getElem?_eq_none (by rw[h3];simp only[jn]at hlt2;omega),←h2 q,List.getElem?_eq_none (by omega)]
  simp only[lx,cg]
  cases hw:(sd.getD j default).1 with
  | none=>exact key _ h1 (fun q=>by rw[hw,if_neg (by intro h;cases h),h2 q])
  | some i =>
   have hi:=h4 i (by omega) hw
   refine key _ (by rw[List.length_set];exact h1) (fun q=>?_)
   rw[List.getElem?_set,hw,h2 q]
   by_cases e:i=q
   ·subst e
    rw[if_pos E,if_pos (by omega),if_pos E]
   ·rw[if_neg e,if_neg (by intro h;cases h;exact e E)]
theorem cu_lt (hb:L0.length=base) {k:Nat} (hwr:∀j i,j<k→(sd.getD j default).1=some i→i<jn sd base j) :
  ∀j q p,j≤k→cu sd dy base L0 ξ S j q=some p→q<jn sd base j:=by
 intro j
 induction j with
 | zero =>
  intro q p _ h
  have:q<L0.length:=(List.getElem?_eq_some_iff.1 h).1
  simp only[jn];omega
 | succ j ih =>
  intro q p hj h
  have hm:jn sd base j≤jn sd base (j+1):=rQ _ (by omega)
  simp only[cu]at h
  split at h
  ·rename_i h1
   have:=hwr j q (by omega) h1.2
   omega
  ·split at h
   ·rename_i h1
    exact h1.2.2
   ·have:=ih q p (by omega) h
    omega
theorem ra {k q:Nat} (h:∀i,i<k→wrG sd base i q=true→S i=S' i):cu sd dy base L0 ξ S k q=cu sd dy base L0 ξ S' k q:=by
 induction k with
 | zero=>rfl
 | succ k ih =>
  have ih:=ih (fun i hi=>h i (by omega))
  by_cases hw:wrG sd base k q=true
  ·have:=h k (by omega) hw
   simp only[cu,this,ih]
  ·rw[cu_no (fun x=>hw x.2),cu_no (fun x=>hw x.2),ih]
theorem cu_up {j q:Nat}:∀k,j≤k→(∀i,j≤i→i<k→wrG sd base i q=true→S i=false)→cu sd dy base L0 ξ S k q=cu sd dy base L0 ξ S j q:=fun k hk h=>by
 induction k with
 | zero =>
  have:j=0:=by omega
  subst this;rfl
 | succ k ih =>
  by_cases e:j=k+1
  ·subst e;rfl
  ·rw[cu_no (fun x=>by have:=h k (by omega) (by omega) x.2;rw[this]at x;cases x.1)]
   exact ih (by omega) (fun i h1 h2=>h i h1 (by omega))
theorem cu_xi {k q:Nat} (h:∀i,i<k→S i=true→(dy.getD i default).wp ξ=(dy.getD i default).wp ξ'∧(dy.getD i default).made ξ=(dy.getD i default).made ξ'):cu sd dy base L0 ξ S k q=cu sd dy base L0 ξ' S k q:=by
 induction k with
 | zero=>rfl
 | succ k ih =>
  have ih:=ih (fun i hi=>h i (by omega))
  simp only[cu]
  by_cases hS:S k=true
  ·obtain⟨h1,h2⟩:=h k (by omega) hS
   rw[h1,h2,ih]
  ·rw[if_neg (fun x=>hS x.1),if_neg (fun x=>hS x.1),if_neg (fun x=>hS x.1),if_neg (fun x=>hS x.1),ih]
theorem cu_put {j k q:Nat} (hj:j<k) (hS:S j=false) (hc:∀i,j<i→i<k→wrG sd base j q=true→wrG sd base i q=true→S i=false) :
  cu sd dy base L0 ξ (fun i=>S i||i==j) k q=if(sd.getD j default).1=some q then some ((dy.getD j default).wp ξ)
   else if jn sd base j≤q∧q<jn sd base (j+1)then((dy.getD j default).made ξ)[q-jn sd base j]? else cu sd dy base L0 ξ S k q:=by
 by_cases hw:wrG sd base j q=true
 ·rw[cu_up (j:=j+1) k (by omega) (fun i h1 h2 h3=>by
   have:=hc i (by omega) h2 hw h3
   have hne:(i==j)=false:=by simp;omega
   simp[this,hne])]
  simp only[cu,beq_self_eq_true,Bool.or_true,true_and]
  rw[ph]at hw
  split
  ·rfl
  ·rename_i h1
   rw[if_pos (hw.resolve_left h1),if_pos (hw.resolve_left h1)]
 ·have h1:cu sd dy base L0 ξ (fun i=>S i||i==j) k q=cu sd dy base L0 ξ S k q:=ra (fun i hi hwi=>by
   have hne:(i==j)=false:=by
    simp
    intro e
    subst e
    exact hw hwi
   simp[hne])
  rw[h1]
  rw[ph]at hw
  rw[if_neg (fun x=>hw (.inl x)),if_neg (fun x=>hw (.inr x))]
theorem chk_spec (h:chkG ops A sd base=true):sd.length=ops.size∧∀j,j<ops.size →
  (∀i,(sd.getD j default).1=some i→i<jn sd base j)∧(sd.getD j default).2.2.length=jn sd base j ∧
  (∀i o,ops[j]? = some o→dpG A j i=true→∃e∈o.after,Region.binds .any e=true∧(e.on=i∨dpG A e.on i=true)) ∧
  ∀i q,i<ops.size→i≠j→q<jn sd base ops.size→wrG sd base i q=true→(wrG sd base j q=true→dpG A j i=true∨dpG A i j=true)∧((sd.getD j default).2.2.getD q false=true→if i<j then dpG A j i=true else dpG A i j=true):=by
 unfold chkG at h
 simp only[Bool.and_eq_true,decide_eq_true_eq]at h
 refine⟨h.1,fun j hj=>?_⟩
 have h1:=List.all_eq_true.1 h.2 j (List.mem_range.2 hj)
 simp only[Bool.and_eq_true,decide_eq_true_eq]at h1
 obtain⟨⟨⟨h2,h3⟩,h4⟩,h5⟩:=h1
 refine⟨fun i hi=>?_,h3,fun i o ho hd=>?_,fun i q hi hne hq hw=>?_⟩
 ·rw[hi]at h2
  simpa using h2
 ·unfold dpG at hd
  have hm:i∈A.getD j []:=by simpa using hd
  have h6:=List.all_eq_true.1 h4 i hm
  simp only[ho]at h6
  rw[Array.any_eq_true]at h6
  obtain⟨t,ht,h7⟩:=h6
  simp only[Bool.and_eq_true,Bool.or_eq_true,beq_iff_eq]at h7
  exact⟨o.after[t],Array.getElem_mem ht,h7.1,h7.2⟩
 ·have h6:=List.all_eq_true.1 h5 i (List.mem_range.2 hi)
  rw[Bool.or_eq_true,decide_eq_true_eq]at h6
  have h7:=List.all_eq_true.1 (h6.resolve_left hne) q (List.mem_range.2 hq)
  rw[hw]at h7
  simp only[Bool.not_true,Bool.false_or,Bool.and_eq_true,Bool.or_eq_true,Bool.not_eq_true']at h7
  obtain⟨h8,h9⟩:=h7
  refine⟨fun h10=>?_,fun h10=>?_⟩
  ·rcases h8 with(h8|h8)|h8
   ·rw[h10]at h8;cases h8
   ·exact .inl h8
   ·exact .inr h8
  ·have h9:=h9.resolve_left (by rw[h10];simp)
   split
   ·rename_i hlt;rw[if_pos hlt]at h9;exact h9
   ·rename_i hlt;rw[if_neg hlt]at h9;exact h9
theorem dp_closed (hO:iE ops=true) (hA:∀j i o,j<ops.size→ops[j]? = some o→dpG A j i=true→∃e∈o.after,Region.binds .any e=true∧(e.on=i∨dpG A e.on i=true))
  (hcl:∀j oj,ops[j]? = some oj→S j=true→∀e∈oj.after,Region.binds .any e=true→S e.on=true):∀(j i:Nat),j<ops.size→S j=true→dpG A j i=true→S i=true:=by
 intro j
 induction j using Nat.strongRecOn with
 | _ j ih =>
  intro i hj hS hd
  obtain⟨o,ho⟩:∃o,ops[j]? = some o:=⟨_,Array.getElem?_eq_some_iff.2 ⟨hj,E⟩⟩
  obtain⟨e,he,hb,h1⟩:=hA j i o hj ho hd
  have h2:=hcl j o ho hS e he hb
  have h3:=(aV hO ho).2.2.1 e he hb
  rcases h1 with rfl|h1
  ·exact h2
  ·exact ih e.on h3 i (by omega) h2 h1
theorem wp_drawsG {l:List Oper} (A:List (List Nat)) (sd:List Sd) (dy:List Dyn) (base:Nat) (hm:P.follows .mixedOrders=true) (hO:iE l.toArray=true) (hC:chkG l.toArray A sd base=true) (hI:IndA A 0 sd dy) (hb:L0.length=base) {id:Nat} {a0:Act} {W0:World}
  (h0:Ext w0 { W0 with drawn:=W0.drawn+1 } L0)
  (hG:∀ξ,GW r n P l.toArray w0 ξ (fun L a=>∀W,Ext w0 W L→Q .normal a W) 0 l sd dy L0 a0):(Code.region id l.toArray true).wpIn (Fw r) n P Q a0 W0:=by
 refine wpIn_region_any hm ?_
 obtain⟨ops,hops⟩:∃ops,ops=l.toArray:=⟨_,E⟩
 rw[←hops]at hO hC hG ⊢
 obtain⟨hsl,hck⟩:=chk_spec hC
 obtain⟨hdl,hind⟩:=tv sd dy 0 hI
 have hN:ops.size=l.length:=by rw[hops];simp
 obtain⟨k,hk⟩:∃k,k=ops.size:=⟨_,E⟩
 have hwr:∀j i,j<k→(sd.getD j default).1=some i→i<jn sd base j:=fun j i hj=>(hck j (by omega)).1 i
 have hlen:∀ξ j,j<k→((dy.getD j default).made ξ).length=(sd.getD j default).2.1:=fun ξ j hj=>(hind j (by omega)).2 ξ
 have hA:∀j i o,j<ops.size→ops[j]? = some o→dpG A j i=true→∃e∈o.after,Region.binds .any e=true∧(e.on=i∨dpG A e.on i=true):=fun j i o hj=>(hck j hj).2.2.1 i o
 have hlxs:=fun ξ=>lx_spec (ξ:=ξ) hb (k:=k) hwr (hlen ξ)
 have hgw:=fun ξ=>gw_spec (r:=r) (n:=n) (P:=P) (w0:=w0) (ξ:=ξ) (K:=fun L a=>∀W,Ext w0 W L→Q .normal a W) (L0:=L0) (a0:=a0) hops (sd:=sd) (dy:=dy) (by omega) (by omega) l.length 0 (by omega) (by
  rw[List.drop_zero,List.drop_zero,List.drop_zero]
  exact hG ξ)
 have main:∀(c:Nat) (listed:Array Bool) (ξ:Nat→Xo) (W:World),ExtF w0 W (cu sd dy base L0 ξ (fun j=>listed.getD j false) k)→listed.size=k→left listed k=c →
   (∀j oj,ops[j]? = some oj→listed.getD j false=true→∀e∈oj.after,Region.binds .any e=true→listed.getD e.on false=true) →
   wpAnyIn (Fw r) n P .any ops Q c listed (stA ops (vaG dy ξ) a0 (fun j=>listed.getD j false) k) W:=by
  intro c
  induction c with
  | zero =>
   intro listed ξ W hE hsz hc hcl
   have hall:=mT hc
   refine⟨?_,?_⟩
   ·apply List.eq_nil_iff_forall_not_mem.2
    intro i hi
    obtain⟨hun,o,ho,_⟩:=mem_ready.1 hi
    have hi':i<ops.size:=(Array.getElem?_eq_some_iff.1 ho).1
    rw[bN (by omega) true false,hall i (by omega)]at hun
    cases hun
   ·have e1:∀m,m≤k→stA ops (vaG dy ξ) a0 (fun j=>listed.getD j false) m=stA ops (vaG dy ξ) a0 (fun _=>true) m:=by
     intro m
     induction m with
     | zero=>intro _;rfl
     | succ m ih =>
      intro hm
      show(if listed.getD m false=true then _ else _)=(if true=true then _ else _)
      rw[if_pos (hall m (by omega)),if_pos E,ih (by omega)]
    rw[e1 k (Nat.le_refl _)]
    have h3:=(hgw ξ).2 W (by
     refine ExtF.to ?_
     have e2:(fun i=>(lx sd dy ξ L0 l.length)[i]?)=cu sd dy base L0 ξ (fun j=>listed.getD j false) k:=funext fun q=>by
      rw[←hN,←hk,(hlxs ξ k (Nat.le_refl _)).2 q]
      exact ra (fun i hi _=>(hall i hi).symm)
     rw[e2]
     exact hE)
    rw[hk,hN]
    exact h3
  | succ c ih =>
   intro listed ξ W hE hsz hc hcl
   have hrdy:∀j,j<ops.size→listed.getD j false=false→∃i,i∈Region.ready .any ops listed:=by
    intro j
    induction j using Nat.strongRecOn with
    | _ j ihj =>
     intro hj hun
     obtain⟨o,ho⟩:∃o,ops[j]? = some o:=⟨_,Array.getElem?_eq_some_iff.2 ⟨hj,E⟩⟩
     by_cases hall:∀e∈o.after,Region.binds .any e=true→listed.getD e.on false=true
     ·exact⟨j,mem_ready.2 ⟨by rw[bN (by omega) true false];exact hun,o,ho,hall⟩⟩
     ·have:∃e∈o.after,Region.binds .any e=true∧listed.getD e.on false=false:=by
       apply Classical.byContradiction
       intro hno
       exact hall fun e he hb=>by
        cases hl:listed.getD e.on false with
        | true=>rfl
        | false=>exact absurd ⟨e,he,hb,hl⟩ hno
      obtain⟨e,he,hb,hf⟩:=this
      have hlt:=(aV hO ho).2.2.1 e he hb
      exact ihj e.on hlt (by omega) hf
   have hex:∃j,j<k∧listed.getD j false=false:=by
    apply Classical.byContradiction
    intro hno
    have:left listed k=0:=by
     unfold left
     rw[List.length_eq_zero_iff,List.filter_eq_nil_iff]
     intro j hj
     have hj':=List.mem_range.1 hj
     cases hl:listed.getD j false with
     | true=>simp
     | false=>exact absurd ⟨j,hj',hl⟩ hno
    omega
   obtain⟨j1,hj1,hf1⟩:=hex
   obtain⟨i1,hi1⟩:=hrdy j1 (by omega) hf1
   refine⟨fun h=>(by rw[h]at hi1;cases hi1),fun i hi=>?_⟩
   obtain⟨hun,o,ho,hall⟩:=mem_ready.1 hi
   have hiN:i<k:=by rw[hk];exact(Array.getElem?_eq_some_iff.1 ho).1
   have hun':=hun
   rw[bN (by omega) true false]at hun'
   have hl:=kH (by omega) hun' k hiN
   have hfs:(fun j=>(listed.setIfInBounds i true).getD j false)=fun j=>listed.getD j false||j==i:=funext fun j=>bp (by omega)
   have hcl':∀j oj,ops[j]? = some oj→(listed.setIfInBounds i true).getD j false=true→∀e∈oj.after,Region.binds .any e=true→(listed.setIfInBounds i true).getD e.on false=true:=fun j oj hoj hlj e he hb=>by
    rw[bp (by omega)]at hlj ⊢
    by_cases e':j=i
    ·subst e'
     rw[ho]at hoj;cases hoj
     rw[hall e he hb];rfl
    ·have:(j==i)=false:=by simpa using e'
     rw[this,Bool.or_false]at hlj
     rw[hcl j oj hoj hlj e he hb];rfl
   obtain⟨hsel,hdef,haft,hord⟩:=aV hO ho
   have hclos:=dp_closed (S:=fun j=>listed.getD j false) hO hA hcl
   have hready:∀i',dpG A i i'=true→listed.getD i' false=true:=fun i' hd=>by
    obtain⟨e,he,hbd,h1⟩:=hA i i' o (by omega) ho hd
    have h2:=hall e he hbd
    rcases h1 with rfl|h1
    ·exact h2
    ·exact hclos e.on i' (by have:=haft e he hbd;omega) h2 h1
   have hlater:∀j,j<k→dpG A j i=true→listed.getD j false=false:=fun j hj hd=>by
    cases hs:listed.getD j false with
    | false=>rfl
    | true =>
     have h9:listed.getD i false=true:=hclos j i (by omega) hs hd
     rw[hun']at h9;cases h9
   have hxi:∀x j,j<k→listed.getD j false=true→∀i',(i'=0+j∨dpG A (0+j) i'=true)→ξ i'=qq ξ i x i':=fun x j hj hs i' h=>by
    unfold qq
    rw[if_neg]
    intro e
    subst e
    rw[Nat.zero_add]at h
    rcases h with rfl|h
    ·rw[hun']at hs;cases hs
    ·have:=hlater j hj h
     rw[hs]at this;cases this
   have hval:∀x j,j<k→listed.getD j false=true→vaG dy ξ j=vaG dy (qq ξ i x) j:=fun x j hj hs=>((hind j (by omega)).1 _ _ (hxi x j hj hs)).1
   have hcux:∀x q,cu sd dy base L0 ξ (fun j=>listed.getD j false) k q=cu sd dy base L0 (qq ξ i x) (fun j=>listed.getD j false) k q:=fun x q=>cu_xi (fun j hj hs=>((hind j (by omega)).1 _ _ (hxi x j hj hs)).2)
   have hlook:∀j,j<k→listed.getD j false≠decide (j<i)→∀d,gl ops j=some d→¬d∈o.looksAt ops:=by
    intro j hj hne d hd hmem
    obtain⟨oj,hoj⟩:∃oj,ops[j]? = some oj:=⟨_,Array.getElem?_eq_some_iff.2 ⟨by omega,E⟩⟩
    have hdj:oj.dst=some d:=by simpa [gl,hoj]using hd
    rcases Nat.lt_trichotomy j i with h|h|h
    ·have hl:listed.getD j false=false:=by
      cases hl:listed.getD j false with
      | false=>rfl
      | true=>exact absurd (by rw[hl];simp[h]) hne
     rcases hord j oj h hoj with hap|⟨e,he,hb,hon⟩
     ·exact(Oper.apart_spec hap).1 d hdj hmem
     ·have:=hall e he hb
      rw[hon,hl]at this;cases this
    ·subst h
     exact absurd (by rw[hun'];simp) hne
    ·have hl:listed.getD j false=true:=by
      cases hl:listed.getD j false with
      | true=>rfl
      | false=>exact absurd (by rw[hl];simp;omega) hne
     rcases (aV hO hoj).2.2.2 i o h ho with hap|⟨e,he,hb,hon⟩
     ·exact(Oper.apart_spec hap).2.2 d hdj hmem
     ·have:=hcl j oj hoj hl e he hb
      rw[hon,hun']at this;cases this
   have hag:=jx (ops:=ops) (vaG dy ξ) a0 (fun x=>x∈o.looksAt ops) (fun j=>listed.getD j false) (fun j=>decide (j<i)) k hlook
   have hlex:stA ops (vaG dy ξ) a0 (fun j=>decide (j<i)) k=stA ops (vaG dy ξ) a0 (fun _=>true) i:=by
    have h1:∀m,m≤i→stA ops (vaG dy ξ) a0 (fun j=>decide (j<i)) m=stA ops (vaG dy ξ) a0 (fun _=>true) m:=by
     intro m
     induction m with
     | zero=>intro _;rfl
     | succ m ih=>intro hm;simp only[stA];rw[ih (by omega)];simp;omega
    have h2:∀m,i≤m→stA ops (vaG dy ξ) a0 (fun j=>decide (j<i)) m=stA ops (vaG dy ξ) a0 (fun j=>decide (j<i)) i:=by
     intro m
     induction m with
     | zero =>
      intro h
      have:i=0:=by omega
      subst this;rfl
     | succ m ih =>
      intro hm
      by_cases e:i=m+1
      ·rw[e]
      ·simp only[stA]
       rw[if_neg (by simp;omega)]
       exact ih (by omega)
    rw[h2 k (by omega),h1 i (Nat.le_refl _)]
   rw[hlex]at hag
   obtain⟨hev,hwa⟩:=g8 (ops:=ops) (o:=o) (a:=stA ops (vaG dy ξ) a0 (fun j=>listed.getD j false) k) (b:=stA ops (vaG dy ξ) a0 (fun _=>true) i) hag.1
   have hput:∀ξ',(∀j,j<k→listed.getD j false=true→vaG dy ξ j=vaG dy ξ' j)→(stA ops (vaG dy ξ) a0 (fun j=>listed.getD j false) k).put o.dst ((dy.getD i default).val ξ')=stA ops (vaG dy ξ') a0 (fun j=>listed.getD j false||j==i) k:=fun ξ' h=>by
    rw[jf (ops:=ops) (vaG dy ξ') a0 (fun j=>listed.getD j false) i hun' k hiN (fun j h1 h2 h3 d h4 h5=>by
     obtain⟨oj,hoj⟩:∃oj,ops[j]? = some oj:=⟨_,Array.getElem?_eq_some_iff.2 ⟨by omega,E⟩⟩
     have hdj:oj.dst=some d:=by simpa [gl,hoj]using h4
     have hdi:o.dst=some d:=by simpa [gl,ho]using h5
     rcases (aV hO hoj).2.2.2 i o h1 ho with hap|⟨e,he,hb,hon⟩
     ·exact(Oper.apart_spec hap).2.1 d hdi hdj
     ·have:=hcl j oj hoj h3 e he hb
      rw[hon,hun']at this;cases this)]
    have e9:∀m,m≤k→stA ops (vaG dy ξ) a0 (fun j=>listed.getD j false) m=stA ops (vaG dy ξ') a0 (fun j=>listed.getD j false) m:=by
     intro m
     induction m with
     | zero=>intro _;rfl
     | succ m ih =>
      intro hm
      simp only[stA]
      rw[ih (by omega)]
      split
      ·rename_i hs
       rw[h m (by omega) hs]
      ·rfl
    have e8:gl ops i=o.dst:=by simp[gl,ho]
    rw[e9 k (Nat.le_refl _),e8]
    rfl
   have hLk:∀j,j≤k→jn sd base j≤jn sd base k:=fun j hj=>rQ k hj
   rcases (hgw ξ).1 i o (Nat.zero_le _) ho with⟨hw,hob⟩|⟨hw,hv,hn1,hn2⟩
   ·unfold wpOpIn
    simp only[ho]
    rw[hwa,if_pos hw]
    obtain⟨msk,hmsk⟩:∃msk,msk=(sd.getD i default).2.2:=⟨_,E⟩
    obtain⟨LL,hLL⟩:∃LL,LL=lx sd dy ξ L0 i:=⟨_,E⟩
    obtain⟨len,hlenD⟩:∃len,len=jn sd base i:=⟨_,E⟩
    obtain⟨LEN,hLEN⟩:∃LEN,LEN=jn sd base k:=⟨_,E⟩
    have hmlen:msk.length=len:=by rw[hmsk,hlenD];exact(hck i (by omega)).2.1
    have hLlen:LL.length=len:=by rw[hLL,hlenD];exact(hlxs ξ i (by omega)).1
    have hle:len≤LEN:=by rw[hlenD,hLEN];exact hLk i (by omega)
    obtain⟨f,hf⟩:∃f,f=cu sd dy base L0 ξ (fun j=>listed.getD j false) k:=⟨_,E⟩
    have hflt:∀q p,f q=some p→q<LEN:=fun q p h=>by rw[hf]at h;rw[hLEN];exact cu_lt hb hwr k q p (Nat.le_refl _) h
    have hmeq:∀q,q<len→msk.getD q false=true→LL[q]? = f q:=by
     intro q hq hmq
     rw[hLL,hf,(hlxs ξ i (by omega)).2 q]
     have hc4:=fun j (hj:j<ops.size) (hne:j≠i)=>(hck i (by omega)).2.2.2 j q hj hne (by rw[←hk,←hLEN];omega)
     rw[ra (S:=fun _=>true) (S':=fun j=>listed.getD j false) (fun j hj hwj=>by
      have:=(hc4 j (by omega) (by omega) hwj).2 (by rw[←hmsk];exact hmq)
      rw[if_pos hj]at this
      exact(hready j this).symm)]
     refine(cu_up k (by omega) (fun j h1 h2 hwj=>?_)).symm
     by_cases e:j=i
     ·subst e;exact hun'
     ·have:=(hc4 j (by omega) e hwj).2 (by rw[←hmsk];exact hmq)
      rw[if_neg (by omega)]at this
      exact hlater j h2 this
    obtain⟨L2,hL2⟩:∃L2,L2=(List.range LEN).map fun q=>if q<len∧msk.getD q false=true then noR else(f q).getD noR:=⟨_,E⟩
    have hL2len:L2.length=LEN:=by rw[hL2];simp
    have hL2get:∀q,q<LEN→L2[q]? = some (if q<len∧msk.getD q false=true then noR else(f q).getD noR):=fun q hq=>by
     rw[hL2];simp[hq]
    have hMlen:(aM LL msk).length=len:=by rw[pp _ _ (by omega)];exact hLlen
    have hMget:∀q,q<len→msk.getD q false=true→(aM LL msk++L2)[q]? = f q:=fun q hq hmq=>by
     rw[List.getElem?_append_left (by omega),mB _ _ _ (by omega),←hmeq q hq hmq]
     cases LL[q]? with
     | none=>rfl
     | some p=>simp only[Option.map_some];rw[if_pos hmq]
    have hRget:∀q,q<LEN→(aM LL msk++L2)[len+q]? = some (if q<len∧msk.getD q false=true then noR else(f q).getD noR):=fun q hq=>by
     rw[List.getElem?_append_right (by omega),hMlen,show len+q-len=q by omega]
     exact hL2get q hq
    have hcls:∀q p,(aM LL msk++L2)[q]? = some p→p=noR∨(q<len∧msk.getD q false=true∧f q=some p)∨(len≤q∧¬(q-len<len∧msk.getD (q-len) false=true)∧f (q-len)=some p):=by
     intro q p hp
     by_cases hq:q<len
     ·by_cases hmq:msk.getD q false=true
      ·rw[hMget q hq hmq]at hp
       exact .inr (.inl ⟨hq,hmq,hp⟩)
      ·rw[List.getElem?_append_left (by omega),mB _ _ _ (by omega)]at hp
       obtain⟨p0,_,h2⟩:=Option.map_eq_some_iff.1 hp
       rw[if_neg hmq]at h2
       exact .inl h2.symm
     ·have hlt:q-len<LEN:=by
       have:=(List.getElem?_eq_some_iff.1 hp).1
       rw[List.length_append,hMlen,hL2len]at this
       omega
      have h3:=hRget (q-len) hlt
      rw[show len+(q-len)=q by omega,hp]at h3
      have h3:=Option.some.inj h3
      split at h3
      ·exact .inl h3
      ·rename_i h4
       cases hfq:f (q-len)with
       | none=>rw[hfq]at h3;exact .inl h3
       | some p1=>rw[hfq]at h3;exact .inr (.inr ⟨by omega,h4,by rw[h3];rfl⟩)
    have hEx:Ext w0 W (aM LL msk++L2):=by
     refine ExtF.to (hE.map (fun q=>if q<len then q else q-len) (fun q p hp=>?_) (fun q q' p p' hp hp' hne=>?_))
     ·rcases hcls q p hp with h|⟨h1,h2,h3⟩|⟨h1,h2,h3⟩
      ·exact .inl h
      ·rw[if_pos h1,←hf];exact .inr h3
      ·rw[if_neg (by omega),←hf];exact .inr h3
     ·rcases hcls q p hp with h|⟨h1,h2,h3⟩|⟨h1,h2,h3⟩
      ·exact .inl h
      ·rcases hcls q' p' hp' with h' | ⟨h1',h2',h3'⟩|⟨h1',h2',h3'⟩
       ·exact .inr (.inl h')
       ·rw[if_pos h1,if_pos h1',←hf];exact .inr (.inr ⟨h3,h3',hne⟩)
       ·rw[if_pos h1,if_neg (by omega),←hf]
        exact .inr (.inr ⟨h3,h3',fun e=>h2' (by rw[←e];exact⟨h1,h2⟩)⟩)
      ·rcases hcls q' p' hp' with h' | ⟨h1',h2',h3'⟩|⟨h1',h2',h3'⟩
       ·exact .inr (.inl h')
       ·rw[if_neg (by omega),if_pos h1',←hf]
        exact .inr (.inr ⟨h3,h3',fun e=>h2 (by rw[e];exact⟨h1',h2'⟩)⟩)
       ·rw[if_neg (by omega),if_neg (by omega),←hf];exact .inr (.inr ⟨h3,h3',by omega⟩)
    refine wpIn_moveG (j:=i) (s:=sd.getD i default) (dd:=dy.getD i default) (ξ:=ξ) (L:=aM LL msk++L2) (a:=stA ops (vaG dy ξ) a0 (fun _=>true) i) hsel hdef (fun x hx=>(hev x hx).symm) (by rw[nf,nf]) (by
     have:=hob L2 W (by rw[←hLL,←hmsk];exact hEx)
     rw[←hLL,←hmsk]at this
     exact this) ?_
    intro x W' hE'
    rw[hput (qq ξ i x) (hval x)]
    have hnew:ExtF w0 W' (cu sd dy base L0 (qq ξ i x) (fun j=>listed.getD j false||j==i) k):=by
     have hcp:∀q,cu sd dy base L0 (qq ξ i x) (fun j=>listed.getD j false||j==i) k q=_:=fun q=>cu_put (S:=fun j=>listed.getD j false) hiN hun' (fun j h1 h2 h3 h4=>by
      have hq:q<jn sd base ops.size:=by
       rw[←hk]
       rw[ph]at h3
       rcases h3 with h3|h3
       ·have:=hwr i q hiN h3
        have:=hLk i (by omega)
        omega
       ·have:=hLk (i+1) (by omega)
        omega
      rcases ((hck i (by omega)).2.2.2 j q (by omega) (by omega) hq h4).1 h3 with h5|h5
      ·obtain⟨e,he,hbd,h6⟩:=hA i j o (by omega) ho h5
       have h7:=haft e he hbd
       have h8:=hready j h5
       exfalso
       have h9:∀(a b:Nat),a<ops.size→dpG A a b=true→b<a:=by
        intro a
        induction a using Nat.strongRecOn with
        | _ a iha =>
         intro b ha hd
         obtain⟨oa,hoa⟩:∃oa,ops[a]? = some oa:=⟨_,Array.getElem?_eq_some_iff.2 ⟨ha,E⟩⟩
         obtain⟨e,he,hbd,h6⟩:=hA a b oa ha hoa hd
         have h7:=(aV hO hoa).2.2.1 e he hbd
         rcases h6 with rfl|h6
         ·exact h7
         ·have:=iha e.on h7 b (by omega) h6
          omega
       have:=h9 i j (by omega) h5
       omega
      ·exact hlater j h2 h5)
     obtain⟨wr,hwrD⟩:∃wr,wr=(sd.getD i default).1:=⟨_,E⟩
     obtain⟨Lm,hLm⟩:∃Lm,Lm=(match wr with|some i'=>(aM LL msk++L2).set i' ((dy.getD i default).wp (qq ξ i x))|none=>(aM LL msk++L2)):=⟨_,E⟩
     have hwl:∀q,wr=some q→q<len:=fun q h=>by rw[hlenD];exact hwr i q hiN (by rw[←hwrD];exact h)
     have hLmlen:Lm.length=len+LEN:=by
      rw[hLm]
      cases wr <;> simp[hMlen,hL2len]
     have hLmget:∀t,t<len+LEN→Lm[t]? = if wr=some t then some ((dy.getD i default).wp (qq ξ i x))else(aM LL msk++L2)[t]?:=by
      intro t ht
      rw[hLm]
      cases hw9:wr with
      | none=>rw[if_neg (by intro h;cases h)]
      | some i' =>
       simp only[]
       rw[List.getElem?_set]
       by_cases e:i'=t
       ·subst e
        rw[if_pos E,if_pos (by rw[List.length_append,hMlen,hL2len];omega),if_pos E]
       ·rw[if_neg e,if_neg (by intro h;cases h;exact e E)]
     have hE2:Ext w0 W' (Lm++(dy.getD i default).made (qq ξ i x)):=by
      rw[hLm,hwrD];exact hE'
     have hl1:jn sd base (i+1)=len+(sd.getD i default).2.1:=by rw[hlenD];rfl
     refine(ExtF.of hE2).map (fun q=>if wr=some q then q else if len≤q∧q<jn sd base (i+1)then len+LEN+(q-len)else if q<len∧msk.getD q false=true then q else len+q) (fun q p hp=>.inr ?_) (fun q q' p p' hp hp' hne=>.inr (.inr ⟨?_,?_,?_⟩))
     all_goals
      have hget:∀q p,cu sd dy base L0 (qq ξ i x) (fun j=>listed.getD j false||j==i) k q=some p→(Lm++(dy.getD i default).made (qq ξ i x))[if wr=some q then q else if len≤q∧q<jn sd base (i+1)then len+LEN+(q-len)else if q<len∧msk.getD q false=true then q else len+q]? = some p∧q<LEN:=by
       intro q p hp
       rw[hcp q,←hwrD,←hlenD]at hp
       by_cases h1:wr=some q
       ·have:=hwl q h1
        rw[if_pos h1]at hp
        rw[if_pos h1,List.getElem?_append_left (by omega),hLmget q (by omega),if_pos h1]
        exact⟨hp,by omega⟩
       ·rw[if_neg h1]at hp
        rw[if_neg h1]
        by_cases h2:len≤q∧q<jn sd base (i+1)
        ·rw[if_pos h2]at hp
         rw[if_pos h2,List.getElem?_append_right (by omega),hLmlen,show len+LEN+(q-len)-(len+LEN)=q-len by omega]
         have:=hLk (i+1) (by omega)
         exact⟨hp,by omega⟩
        ·rw[if_neg h2,←hcux x q,←hf]at hp
         have hq:=hflt q p hp
         rw[if_neg h2]
         by_cases h3:q<len∧msk.getD q false=true
         ·rw[if_pos h3,List.getElem?_append_left (by omega),hLmget q (by omega),if_neg h1,hMget q h3.1 h3.2]
          exact⟨hp,hq⟩
         ·rw[if_neg h3,List.getElem?_append_left (by omega),hLmget (len+q) (by omega),if_neg (fun h=>by have:=hwl _ h;omega),hRget q hq,if_neg h3,hp]
          exact⟨E,hq⟩
     ·exact(hget q p hp).1
     ·exact(hget q p hp).1
     ·exact(hget q' p' hp').1
     ·have h1:=(hget q p hp).2
      have h2:=(hget q' p' hp').2
      have ht:∀q,((if wr=some q then q else if len≤q∧q<jn sd base (i+1)then len+LEN+(q-len)else if q<len∧msk.getD q false=true then q else len+q)=q∧q<len) ∨
        ((if wr=some q then q else if len≤q∧q<jn sd base (i+1)then len+LEN+(q-len)else if q<len∧msk.getD q false=true then q else len+q)=len+LEN+(q-len)∧len≤q) ∨
        (if wr=some q then q else if len≤q∧q<jn sd base (i+1)then len+LEN+(q-len)else if q<len∧msk.getD q false=true then q else len+q)=len+q:=by
       intro q
       by_cases a1:wr=some q
       ·rw[if_pos a1];exact .inl ⟨E,hwl q a1⟩
       ·rw[if_neg a1]
        by_cases a2:len≤q∧q<jn sd base (i+1)
        ·rw[if_pos a2];exact .inr (.inl ⟨E,a2.1⟩)
        ·rw[if_neg a2]
         by_cases a3:q<len∧msk.getD q false=true
         ·rw[if_pos a3];exact .inl ⟨E,a3.1⟩
         ·rw[if_neg a3];exact .inr (.inr E)
      intro he
      rcases ht q with⟨b1,b2⟩|⟨b1,b2⟩|b1 <;> rcases ht q' with⟨c1,c2⟩|⟨c1,c2⟩|c1 <;> rw[b1,c1]at he <;> omega
    have:=ih (listed.setIfInBounds i true) (qq ξ i x) W' (by rw[hfs];exact hnew) (by simpa using hsz) (by omega) hcl'
    rw[hfs]at this
    exact this
   ·unfold wpOpIn
    simp only[ho]
    rw[hwa,if_neg (by rw[hw];simp)]
    refine⟨fun _ _=>trivial,?_⟩
    have hp:=hput ξ (fun _ _ _=>E)
    rw[hv ξ]at hp
    rw[hp]
    have:=ih (listed.setIfInBounds i true) ξ W (by
     rw[hfs]
     have e7:cu sd dy base L0 ξ (fun j=>listed.getD j false||j==i) k=cu sd dy base L0 ξ (fun j=>listed.getD j false) k:=funext fun q=>ra (fun j hj hwj=>by
      have hne:(j==i)=false:=by
       simp
       intro e
       subst e
       rw[ph,hn1]at hwj
       simp only[jn,hn2]at hwj
       rcases hwj with h|h
       ·cases h
       ·omega
      simp[hne])
     rw[e7]
     exact hE) (by simpa using hsz) (by omega) hcl'
    rw[hfs]at this
    exact this
 have e1:left (Array.replicate ops.size false) k=k:=by
  unfold left
  rw[List.filter_eq_self.2 fun j hj=>?_]
  ·simp
  ·have:=List.mem_range.1 hj
   simp[show j<ops.size by omega]
 have hrep:∀j,(Array.replicate ops.size false).getD j false=false:=fun j=>by
  rw[Array.getD_eq_getD_getElem?,Array.getElem?_replicate]
  split <;> rfl
 have hfin:=main k (Array.replicate ops.size false) (fun _ _=>(none,0,0,[],noR)) _ (by
  have e3:cu sd dy base L0 (fun _ _=>(none,0,0,[],noR)) (fun j=>(Array.replicate ops.size false).getD j false) k=fun i=>L0[i]?:=funext fun q=>cu_up (j:=0) k (Nat.zero_le _) (fun i _ _ _=>hrep i)
  rw[e3]
  exact ExtF.of h0) (by simp[hk]) e1 (fun j oj hoj hl=>by rw[hrep j]at hl;cases hl)
 have e2:∀m,stA ops (vaG dy (fun _ _=>(none,0,0,[],noR))) a0 (fun j=>(Array.replicate ops.size false).getD j false) m=a0:=by
  intro m
  induction m with
  | zero=>rfl
  | succ m ih=>simp only[stA];rw[ih,if_neg (by rw[hrep m];simp)]
 rw[e2 k,hk]at hfin
 exact hfin
end
open Go.RowKit (Below)
section
variable {r : Option Nat} {n : Nat} {P : Program} {ops : Array Oper} {Q : Exit → Act → World → Prop} {w0 : World} {L : List Res} {m : Nat} {tm : Nat → Value} {d : List Deferred} {ξ : Nat → Xo}
variable {t : Tmp} {ty : TypeId} {pos : String} {af : Array Edge} {g : Option (Nat × Bool)} {os : List Oper} {s : Sd} {dd : Dyn} {ss : List Sd} {ds : List Dyn} {j : Nat}
def GX (r:Option Nat) (n:Nat) (P:Program) (ops:Array Oper) (Q:Exit→Act→World→Prop) (w0:World) (ξ:Nat→Xo) (j:Nat) (os:List Oper) (ss:List Sd) (ds:List Dyn) (L:List Res) (m:Nat) (tm:Nat→Value) (d:List Deferred):Prop :=
 GW r n P ops w0 ξ (fun L a=>∀W,Ext w0 W L→Q .normal a W) j os ss ds L (act m tm d)
theorem gI (A:List (List Nat)) (sd:List Sd) (dy:List Dyn) (base:Nat) {id:Nat} {l:List Oper} (hm:P.follows .mixedOrders=true) (hO:iE l.toArray=true) (hC:chkG l.toArray A sd base=true) (hI:IndA A 0 sd dy) (hb:L.length=base)
  (h:∀ξ,GX r n P l.toArray Q w0 ξ 0 l sd dy L m tm d):CX r n P (.region id l.toArray true) Q w0 L m tm d :=
 fun _ hW=>wp_drawsG A sd dy base hm hO hC hI hb hW.drawn h
theorem my (h:EX Q .normal w0 L m tm d):GX r n P ops Q w0 ξ j [] [] [] L m tm d:=h
theorem cW {op:Op} (hw:eW ops m tm ⟨some t,op,ty,pos,af,g⟩=true)
  (hop:∀L2,OX r n P ops (obQ w0 j s dd ξ (some t) (aM L s.2.2++L2) (act m tm d)) w0 (aM L s.2.2++L2) [⟨some t,op,ty,pos,af,g⟩] m tm d)
  (h:GX r n P ops Q w0 ξ (j+1) os ss ds (cg s dd ξ L) m (upd tm t (dd.val ξ)) d):GX r n P ops Q w0 ξ j (⟨some t,op,ty,pos,af,g⟩::os) (s::ss) (dd::ds) L m tm d:=by
 unfold GX GW
 refine⟨.inl ⟨by rw[bJ];exact hw,fun L2 W hW=>?_⟩,?_⟩
 ·have h1:=hop L2 W hW
  unfold OL at h1
  rw[bJ,if_pos hw]at h1
  exact Oper.wpIn_mono (fun a w h=>h) h1
 ·rw[dT]
  exact h
theorem gx_n {op:Op} (hw:eW ops m tm ⟨none,op,ty,pos,af,g⟩=true)
  (hop:∀L2,OX r n P ops (obQ w0 j s dd ξ none (aM L s.2.2++L2) (act m tm d)) w0 (aM L s.2.2++L2) [⟨none,op,ty,pos,af,g⟩] m tm d)
  (h:GX r n P ops Q w0 ξ (j+1) os ss ds (cg s dd ξ L) m tm d):GX r n P ops Q w0 ξ j (⟨none,op,ty,pos,af,g⟩::os) (s::ss) (dd::ds) L m tm d:=by
 unfold GX GW
 refine⟨.inl ⟨by rw[bJ];exact hw,fun L2 W hW=>?_⟩,h⟩
 have h1:=hop L2 W hW
 unfold OL at h1
 rw[bJ,if_pos hw]at h1
 exact Oper.wpIn_mono (fun a w h=>h) h1
theorem az {Lf L':List Res} {v:Value} (x:Xo) (hv:dd.val (qq ξ j x)=v) (hL:cg s dd (qq ξ j x) Lf=L'):EX (obQ w0 j s dd ξ (some t) Lf (act m tm d)) .normal w0 L' m (upd tm t v) d:=fun W hW=>by
 subst hv hL
 exact⟨E,x,(dT m tm d (some t) _).symm,hW⟩
theorem ci {Lf L':List Res} (x:Xo) (hL:cg s dd (qq ξ j x) Lf=L'):EX (obQ w0 j s dd ξ none Lf (act m tm d)) .normal w0 L' m tm d:=fun W hW=>by
 subst hL
 exact⟨E,x,E,hW⟩
end
end Go.Proofs.YthndghnkebboaaaGreat
