import Derived.Test.YtcleeakjghgbdaaGs
import Derived.WalkKit
import Derived.ProofKit
import Derived.OpenShut
import Derived.Carry
import Derived.ChangeOld
import Derived.RangeFuncNested
import Derived.Laws.OwnMore
import Derived.Lib.SliceRun
import Derived.Maps.OwnSet
import Derived.DeepKeys4
import Derived.Maps.Range
import Derived.Laws.Pointers
set_option linter.unusedVariables false
namespace Go.Proofs.Ytcleeakjghgbdaa
open Go.RowKit (Below)
inductive Lf where
 | i (k:IntKind)
 | b
 | sl (ks:List Lf)
def All2 (ok:Lf→Value→Prop):List Lf→List Value→Prop
 | [],[]=>True
 | k::ks,v::vs=>ok k v∧All2 ok ks vs
 | _,_=>False
def Lf.okN (W:World):Nat→Lf→Value→Prop
 | _,.i k,v=>∃n,v=.int k n∧(Lit.int k n).wf=true
 | _,.b,v=>∃x,v=.bool x
 | 0,.sl _,_=>False
 | m+1,.sl ks,v=>∃A n c,v=.slice A n c∧∃css:List (List Value),n=css.length∧n≤maxLen∧Rd W A n c css.flatten∧∀cs∈css,All2 (Lf.okN W m) ks cs
def flatB (P:Program):Nat→TypeId→List Lf→Bool
 | 0,_,_=>false
 | fuel+1,t,ks=>match P.underlying t with
  | some .bool=>match ks with | [.b]=>true|_=>false
  | some (.int k)=>match ks with | [.i k']=>decide (k'=k)|_=>false
  | some (.slice e)=>match ks with | [.sl ks']=>decide (ks'.length=P.cellsOf e)&&flatB P fuel e ks' | _=>false
  | some (.struct fs)=>(List.range ks.length).all (fun i=>fs.toList.any fun f=>decide (f.offset≤i)&&decide (i<f.offset+P.cellsOf f.type)) &&
    fs.toList.all fun f=>flatB P fuel f.type ((ks.drop f.offset).take (P.cellsOf f.type))
  | some (.array n e)=>(List.range ks.length).all (fun i=>(List.range n).any fun j=>decide (j*P.cellsOf e≤i)&&decide (i<j*P.cellsOf e+P.cellsOf e)) &&
    (List.range n).all fun j=>flatB P fuel e ((ks.drop (j*P.cellsOf e)).take (P.cellsOf e))
  | _=>false
theorem gA {α β:Type} {f:α→Option β}:∀{l:List α} {r:List β},l.mapM f=some r→∀x∈l,∃y,f x=some y
 | [],_,_,x,hx=>by cases hx
 | a::l,r,h,x,hx=>by
  rw[List.mapM_cons]at h
  cases ha:f a with
  | none=>rw[ha]at h;cases h
  | some y =>
   rw[ha]at h
   cases hl:l.mapM f with
   | none=>rw[hl]at h;cases h
   | some r' =>
    rcases List.mem_cons.1 hx with rfl|hx
    ·exact⟨y,ha⟩
    ·exact gA hl x hx
theorem io {α:Type} {l:List α} {o n i:Nat} (h1:o≤i) (h2:i<o+n):((l.drop o).take n)[i-o]? = l[i]?:=by
 rw[List.getElem?_take,if_pos (by omega),List.getElem?_drop]
 congr 1
 omega
theorem listed {α:Type} {Q:Nat→α→Prop}:∀(n:Nat),(∀i,i<n→∃x,Q i x)→∃l:List α,l.length=n∧∀i x,l[i]? = some x→Q i x
 | 0,_=>⟨[],E,fun i x h=>by simp at h⟩
 | n+1,h=>by
  obtain⟨l,hl,hq⟩:=listed n (fun i hi=>h i (by omega))
  obtain⟨x,hx⟩:=h n (by omega)
  refine⟨l++[x],by simp[hl],fun i y hy=>?_⟩
  rcases Nat.lt_or_ge i l.length with hlt|hge
  ·rw[List.getElem?_append_left hlt]at hy;exact hq i y hy
  ·rw[List.getElem?_append_right hge]at hy
   by_cases e:i-l.length=0
   ·rw[e]at hy
    have hyx:x=y:=by simpa using hy
    subst hyx
    have:i=n:=by omega
    rw[this];exact hx
   ·rw[List.getElem?_eq_none (by simp;omega)]at hy;cases hy
theorem jp {α:Type} {C:Nat→α→Prop} {sz:Nat}:∀(css:List (List α)) (o:Nat),(∀i cs,css[i]? = some cs→cs.length=sz∧∀q v,cs[q]? = some v→C (o+(i*sz+q)) v)→∀j v,css.flatten[j]? = some v→C (o+j) v
 | [],_,_,j,v,h=>by simp at h
 | cs::css,o,hh,j,v,h=>by
  obtain⟨hl,hc⟩:=hh 0 cs E
  rw[List.flatten_cons]at h
  rcases Nat.lt_or_ge j cs.length with hlt|hge
  ·rw[List.getElem?_append_left hlt]at h
   have:=hc j v h
   rw[Nat.zero_mul,Nat.zero_add]at this
   exact this
  ·rw[List.getElem?_append_right hge]at h
   have:=jp css (o+sz) (fun i cs' hi=>by
    obtain⟨h1,h2⟩:=hh (i+1) cs' hi
    refine⟨h1,fun q v hq=>?_⟩
    have:=h2 q v hq
    rw[Nat.add_mul,Nat.one_mul]at this
    rw[show o+sz+(i*sz+q)=o+(i*sz+sz+q) by omega]
    exact this) (j-cs.length) v h
   rw[show o+sz+(j-cs.length)=o+j by omega]at this
   exact this
theorem All2.of {ok:Lf→Value→Prop}:∀{ks:List Lf} {vs:List Value},vs.length=ks.length→(∀(i:Nat) (k:Lf),ks[i]? = some k→∃v,vs[i]? = some v∧ok k v)→All2 ok ks vs
 | [],[],_,_=>trivial
 | [],_::_,h,_=>by simp at h
 | _::_,[],h,_=>by simp at h
 | k::ks,v::vs,h,hh=>by
  obtain⟨u,hu,hok⟩:=hh 0 k E
  have:v=u:=by simpa using hu
  subst this
  exact⟨hok,All2.of (by simpa using h) (fun i k hk=>by simpa using hh (i+1) k (by simpa using hk))⟩
theorem jU {H:Type} {enc:TypeId × Value→H} {P:Program} {w:World} {base:Nat} {sp:Nat→Bool} {held:Bool}:∀(fl m fuel:Nat) (t:TypeId) (ks:List Lf) (cs:List Value) (x:DataW H × List MemPlace),fl≤m→flatB P fl t ks=true→DataW.trod enc P w base sp held fuel t cs=some x →
  ∀(i:Nat) (k:Lf),ks[i]? = some k→∃v,cs[i]? = some v∧Lf.okN w m k v:=by
 intro fl
 induction fl with
 | zero=>intro m fuel t ks cs x _ h;cases h
 | succ fl ih =>
  intro m fuel t ks cs x hm h ht i k hk
  cases m with
  | zero=>omega
  | succ m =>
  cases fuel with
  | zero=>cases ht
  | succ fuel =>
   unfold flatB at h
   unfold DataW.trod at ht
   cases hu:P.underlying t with
   | none=>rw[hu]at h;cases h
   | some d =>
    rw[hu]at h ht
    cases d with
    | bool =>
     match ks,h with
     | [.b],_ =>
     cases i with
     | succ i=>simp at hk
     | zero =>
      obtain rfl:Lf.b=k:=by simpa using hk
      match cs,ht with
      | [.bool b],_=>exact⟨.bool b,E,b,E⟩
    | int q =>
     match ks,h with
     | [.i q0],h =>
     obtain rfl:=of_decide_eq_true h
     cases i with
     | succ i=>simp at hk
     | zero =>
      obtain rfl:Lf.i q0=k:=by simpa using hk
      match cs,ht with
      | [.int q' n],ht =>
       simp only at ht
       split at ht
       ·rename_i hc
        obtain⟨rfl,hw⟩:=hc
        exact⟨.int q' n,E,n,E,hw⟩
       ·cases ht
    | slice e =>
     match ks,h with
     | [.sl ks'],h =>
     simp only[Bool.and_eq_true,decide_eq_true_eq]at h
     obtain⟨hsz,hf⟩:=h
     cases i with
     | succ i=>simp at hk
     | zero =>
      obtain rfl:Lf.sl ks'=k:=by simpa using hk
      match cs,ht with
      | [.slice none 0 0],_=>exact⟨_,E,none,0,0,E,[],E,Nat.zero_le _,⟨fun j v hj=>by simp at hj,Nat.le_refl _⟩,fun cs hc=>by cases hc⟩
      | [.slice (some a) len cap],ht =>
       simp only at ht
       split at ht
       ·rename_i hc
        obtain⟨hb,hlc,hcm⟩:=hc
        cases hmm:((List.range len).mapM fun i=>(w.cells? base (a.add (i*P.cellsOf e)) (P.cellsOf e)).bind (DataW.trod enc P w base sp held fuel e))with
        | none=>rw[hmm]at ht;cases ht
        | some els =>
         obtain⟨css,hlen,hcss⟩:=listed (Q:=fun i cs=>(∃y,DataW.trod enc P w base sp held fuel e cs=some y)∧w.cells? base (a.add (i*P.cellsOf e)) (P.cellsOf e)=some cs) len (fun i hi=>by
          obtain⟨y,hy⟩:=gA hmm i (List.mem_range.2 hi)
          cases hcc:w.cells? base (a.add (i*P.cellsOf e)) (P.cellsOf e)with
          | none=>rw[hcc]at hy;cases hy
          | some cs=>rw[hcc]at hy;exact⟨cs,⟨y,hy⟩,E⟩)
         have hall:∀(i:Nat) (cs:List Value),css[i]? = some cs→cs.length=P.cellsOf e∧∀q v,cs[q]? = some v→w.cell? (a.add (0+(i*P.cellsOf e+q)))=some v:=fun i cs hi=>by
          obtain⟨_,hcc⟩:=hcss i cs hi
          obtain⟨_,h1,h2⟩:=World.cells?_some hcc
          refine⟨h1,fun q v hq=>?_⟩
          have hlt:q<P.cellsOf e:=by rw[←h1];exact(List.getElem?_eq_some_iff.1 hq).1
          have:=h2 q hlt
          rw[hq,Addr.add_add]at this
          rw[Nat.zero_add]
          exact this
         refine⟨_,E,some a,len,cap,E,css,hlen.symm,Nat.le_trans hlc hcm,⟨fun j v hj=>?_,hlc⟩,fun cs hc=>?_⟩
         ·have:=jp (C:=fun k v=>w.cell? (a.add k)=some v) css 0 hall j v hj
          simp only[Nat.zero_add]at this
          have h0:0<css.flatten.length:=by
           have:=(List.getElem?_eq_some_iff.1 hj).1
           omega
          have t0:=jp (C:=fun k v=>w.cell? (a.add k)=some v) css 0 hall 0 _ (List.getElem?_eq_getElem h0)
          obtain⟨b,off,spot⟩:=a
          have hspot:spot=none:=World.cell?_spot (by simpa [Addr.add]using t0)
          subst hspot
          exact⟨b,off,E,by simpa [Addr.add_lit]using this⟩
         ·obtain⟨i,hi⟩:=List.getElem?_of_mem hc
          obtain⟨⟨y,hy⟩,_⟩:=hcss i cs hi
          exact All2.of (by rw[(hall i cs hi).1,hsz]) (ih m fuel e ks' cs y (by omega) hf hy)
       ·cases ht
    | struct fs =>
     simp only[Bool.and_eq_true]at h
     obtain⟨hc,hf⟩:=h
     have hi:i<ks.length:=(List.getElem?_eq_some_iff.1 hk).1
     obtain⟨f,hfm,hfi⟩:=List.any_eq_true.1 (List.all_eq_true.1 hc i (List.mem_range.2 hi))
     simp only[Bool.and_eq_true,decide_eq_true_eq]at hfi
     have hff:=List.all_eq_true.1 hf f hfm
     simp only at ht
     split at ht
     ·cases hmm:(fs.toList.mapM fun f=>DataW.trod enc P w base sp held fuel f.type ((cs.drop f.offset).take (P.cellsOf f.type)))with
      | none=>rw[hmm]at ht;cases ht
      | some ys =>
       obtain⟨y,hy⟩:=gA hmm f hfm
       obtain⟨v,hv,hok⟩:=ih (m+1) fuel f.type _ _ y (by omega) hff hy (i-f.offset) k (by rw[io hfi.1 hfi.2];exact hk)
       rw[io hfi.1 hfi.2]at hv
       exact⟨v,hv,hok⟩
     ·cases ht
    | array n e =>
     simp only[Bool.and_eq_true]at h
     obtain⟨hc,hf⟩:=h
     have hi:i<ks.length:=(List.getElem?_eq_some_iff.1 hk).1
     obtain⟨j,hjm,hji⟩:=List.any_eq_true.1 (List.all_eq_true.1 hc i (List.mem_range.2 hi))
     simp only[Bool.and_eq_true,decide_eq_true_eq]at hji
     have hff:=List.all_eq_true.1 hf j hjm
     simp only at ht
     split at ht
     ·cases hmm:((List.range n).mapM fun i=>DataW.trod enc P w base sp held fuel e ((cs.drop (i*P.cellsOf e)).take (P.cellsOf e)))with
      | none=>rw[hmm]at ht;cases ht
      | some ys =>
       obtain⟨y,hy⟩:=gA hmm j hjm
       obtain⟨v,hv,hok⟩:=ih (m+1) fuel e _ _ y (by omega) hff hy (i-j*P.cellsOf e) k (by rw[io hji.1 hji.2];exact hk)
       rw[io hji.1 hji.2]at hv
       exact⟨v,hv,hok⟩
     ·cases ht
    | _=>cases h
theorem All2.inv {ok:Lf→Value→Prop} {k:Lf} {ks:List Lf} {vs:List Value} (h:All2 ok (k::ks) vs):∃v us,vs=v::us∧ok k v∧All2 ok ks us:=by
 cases vs with
 | nil=>exact h.elim
 | cons v us=>exact⟨v,us,E,h.1,h.2⟩
theorem All2.inv0 {ok:Lf→Value→Prop} {vs:List Value} (h:All2 ok [] vs):vs=[]:=by
 cases vs with
 | nil=>rfl
 | cons v us=>exact h.elim
theorem okN_i {W:World} {m:Nat} {k:IntKind} {v:Value} (h:Lf.okN W m (.i k) v):∃n,v=.int k n∧(Lit.int k n).wf=true:=by cases m <;> exact h
theorem okN_b {W:World} {m:Nat} {v:Value} (h:Lf.okN W m .b v):∃x,v=.bool x:=by cases m <;> exact h
def isAggB (P:Program) (t:TypeId):Bool:=match P.underlying t with
 | some (.struct _)=>true
 | some (.array _ _)=>true
 | _=>false
theorem open_flat {H:Type} {enc:TypeId × Value→H} {P:Program} {W:World} {base:Nat} {sp:Nat→Bool} {held:Bool} {r:Reach} {b0:Nat} {t:TypeId} {v:Value} {d:DataW H} {ps:List MemPlace} (ks:List Lf) (hf:flatB P 8 t ks=true) (ha:isAggB P t=true) (hsz:P.cellsOf t=ks.length)
  (hval:Value.okWide P W r b0 t v) (hd:DataW.Trod enc P W base sp held t v d ps):∃vs:List Value,v=.agg vs.toArray∧All2 (Lf.okN W 8) ks vs:=by
 obtain⟨cs,rfl,hcs⟩:∃cs,v=.agg cs∧cs.size=P.cellsOf t:=by
  unfold Value.okWide at hval
  unfold isAggB at ha
  split at ha
  ·rename_i hu
   rw[hu]at hval
   obtain⟨cs,h1,h2,_⟩:=hval
   exact⟨cs,h1,h2⟩
  ·rename_i hu
   rw[hu]at hval
   obtain⟨cs,h1,h2,_⟩:=hval
   exact⟨cs,h1,h2⟩
  ·cases ha
 obtain⟨fuel,hfu⟩:=hd
 refine⟨cs.toList,E,All2.of (by simp[hcs,hsz]) (jU 8 8 fuel t ks _ _ (Nat.le_refl _) hf hfu)⟩
theorem open_sl {H:Type} {enc:TypeId × Value→H} {P:Program} {W:World} {base:Nat} {sp:Nat→Bool} {held:Bool} {r:Reach} {b0:Nat} {t e:TypeId} {v:Value} {d:DataW H} {ps:List MemPlace} (ks:List Lf) (hu:P.underlying t=some (.slice e)) (hf:flatB P 8 t [.sl ks]=true)
  (hval:Value.okWide P W r b0 t v) (hd:DataW.Trod enc P W base sp held t v d ps):Lf.okN W 8 (.sl ks) v:=by
 obtain⟨a,len,cap,rfl⟩:=Go.WideShapes.okWide_slice hu hval
 obtain⟨fuel,hfu⟩:=hd
 obtain⟨v,hv,hok⟩:=jU 8 8 fuel t _ _ _ (Nat.le_refl _) hf hfu 0 _ E
 simp[Value.cells]at hv
 subst hv
 exact hok
theorem rows_with {α:Type} {cells:α→List Value} {ok:List Value→Prop} {R:α→Prop} (h:∀cs,ok cs→∃x,cells x=cs∧R x):∀(css:List (List Value)),(∀cs∈css,ok cs)→∃xs:List α,css.length=xs.length∧css.flatten=aL cells xs∧∀x∈xs,R x
 | [],_=>⟨[],E,E,fun x h=>by cases h⟩
 | cs::css,hh=>by
  obtain⟨x,rfl,hx⟩:=h cs (hh cs (List.mem_cons_self ..))
  obtain⟨xs,h1,h2,h3⟩:=rows_with h css (fun c hc=>hh c (List.mem_cons_of_mem _ hc))
  refine⟨x::xs,by simp[h1],by simp[aL]at h2 ⊢;exact h2,fun y hy=>?_⟩
  rcases List.mem_cons.1 hy with rfl|hy
  ·exact hx
  ·exact h3 y hy
theorem rg_i64 {n:Int} (h:(Lit.int .i64 n).wf=true):aU n:=Go.bounds_i64 h
open Go.RowKit (Below)
section
variable {w0 : World} {L : List Res}
def gk (L:List Res) (S:List Nat):Res where
 dom b:=∃(j:Nat) (p:Res),j∉S∧L[j]? = some p∧p.dom b
 holds W:=(∀(j:Nat) (p:Res),j∉S→L[j]? = some p→p.holds W)∧∀(j k:Nat) (p q:Res),j∉S→k∉S→L[j]? = some p→L[k]? = some q→j≠k→∀b,p.dom b→¬q.dom b
 loc W W' h hs hh:=⟨fun j p hj hp=>p.loc W W' (fun b hb=>h b ⟨j,p,hj,hp,hb⟩) hs (hh.1 j p hj hp),hh.2⟩
 inb W hh b hb:=by
  obtain⟨j,p,hj,hp,hd⟩:=hb
  exact p.inb W (hh.1 j p hj hp) b hd
def noR:Res where
 dom _:=False
 holds _:=True
 loc _ _ _ _ _:=trivial
 inb _ _ _ hb:=hb.elim
theorem Ext.rest {W W3:World} {i:Nat} {X:List Res} (h:Ext w0 W (gk L [i]::X)) (hb:Below w0.heap.size w0 W3) (hR:(gk L [i]).holds W3):Ext w0 W3 (L.set i noR):=by
 have hget:∀(k:Nat) (q:Res),(L.set i noR)[k]? = some q→q=noR∨(k∉[i]∧L[k]? = some q):=by
  intro k q hq
  rw[List.getElem?_set]at hq
  by_cases e:i=k
  ·subst e
   rw[if_pos E]at hq
   split at hq
   ·cases hq;exact .inl E
   ·cases hq
  ·rw[if_neg e]at hq
   exact .inr ⟨by simp;exact fun e'=>e e'.symm,hq⟩
 refine⟨hb,fun k q hq=>?_,fun k q hq b hd=>?_,fun k l q q' hq hq' hne b hd hd'=>?_⟩
 ·rcases hget k q hq with rfl|⟨h1,h2⟩
  ·trivial
  ·exact hR.1 k q h1 h2
 ·rcases hget k q hq with rfl|⟨h1,h2⟩
  ·exact hd.elim
  ·exact h.new 0 _ E b ⟨k,q,h1,h2,hd⟩
 ·rcases hget k q hq with rfl|⟨h1,h2⟩
  ·exact hd.elim
  ·rcases hget l q' hq' with rfl|⟨h3,h4⟩
   ·exact hd'.elim
   ·exact hR.2 k l q q' h1 h3 h2 h4 hne b hd hd'
end
section
variable {r : Option Nat} {n : Nat} {P : Program} {ops : Array Oper} {Q : Exit → Act → World → Prop} {w0 : World} {L L' : List Res} {m : Nat} {tm : Nat → Value} {d : List Deferred}
variable {t : Tmp} {ty : TypeId} {pos : String} {af : Array Edge} {g : Option (Nat × Bool)} {rest : List Oper}
theorem fM {f:FuncId} {fn:Func} {c:Code} {vs:List Value} {W:World} {R:Ending→World→Prop} (hf:P.funcs[f]? = some fn) (hb:fn.body=some c) (hn:fn.ntmps=m) (hl:vs.length≤m) (hW:Ext w0 W L)
  (h:CX none 8 P c (bodyPost P fn R) w0 L m (fun i=>(vs[i]?).getD undef) []):Calls P f vs.toArray W R:=by
 refine j5 (r:=none) (n:=8) (callsIn_of_wp hf hb trivial ?_ E)
 rw[gU _ _ (by rw[hn];simpa using hl),hn]
 have:=h W hW
 simpa using this
end
section
variable {r : Option Nat} {n : Nat} {P : Program} {ρ : Operand → Value} {w0 : World} {L L' : List Res}
variable {t : Option Tmp} {ty : TypeId} {pos : String} {af : Array Edge} {g : Option (Nat × Bool)} {C C' : World → Prop}
theorem kQ {W:World} {A:Option Addr} {l c:Nat} {e u:TypeId} (hu:P.underlying u=some (.slice e)):(Op.equalIn 10000 u (.slice A l c) (.slice none 0 0)).run P W=.ok A.isNone W:=by
 have h1:(underlying u).run P W=.ok (.slice e) W:=by simp[underlying,hu]
 unfold Op.equalIn
 simp only[Sem.run_bind,h1,Result.andThen_ok]
 cases A <;> rfl
theorem y_eqnil {x y:Operand} {A:Option Addr} {l c:Nat} {e u u':TypeId} (hu:P.underlying u=some (.slice e)) (hx:ρ x=.slice A l c) (hy:ρ y=.slice none 0 0):OpY r n P ⟨t,.binOp .eql u x y u',ty,pos,af,g⟩ ρ C C (.bool A.isNone) :=
 aI (by intro c h;cases h) (fun W _=>by
  have:=kQ (W:=W) (A:=A) (l:=l) (c:=c) hu
  simp[execOp,hx,hy,go_sem,binOp,Op.equal,Op.maxDepth,this])
end
open Go.RowKit (Below)
section
variable {r : Option Nat} {n : Nat} {P : Program} {Q : Exit → Act → World → Prop} {w0 : World} {L : List Res} {m : Nat} {tm : Nat → Value} {d : List Deferred}
end
open Go.RowKit (Below)
section
variable {w0 : World} {L : List Res}
theorem k7 {W:World} {A:Option Addr} {c:Nat} {e:TypeId} {sz n k:Nat} {cs:List Value} (h:(bR A c e sz n cs).holds W) (hk:k≤n) (h0:A=none→k=0):(bR A c e sz k (cs.take (k*sz))).holds W:=by
 obtain⟨h1,h2⟩:=h
 have hks:k*sz≤n*sz:=Nat.mul_le_mul_right _ hk
 refine⟨by rw[List.length_take,h1];omega,?_⟩
 rcases h2 with⟨h2,h3⟩|⟨g,cap,cur,hv,hb,hg,h3,h4,h5,h6⟩
 ·simp only[Value.slice.injEq]at h2
  obtain⟨rfl,_,rfl⟩:=h2
  have:=h0 E
  subst this
  exact .inl ⟨E,E⟩
 ·simp only[Value.slice.injEq]at hv
  obtain⟨rfl,_,rfl⟩:=hv
  refine .inr ⟨g,c,cur,E,hb,hg,by omega,h4,h5,?_⟩
  rw[←h6,List.take_take,Nat.min_eq_left hks]
theorem Ext.tell {W:World} (h:Ext w0 W L) (i:Nat) {p q:Res} (hp:L[i]? = some p) (hq:p.holds W→q.holds W) (hd:∀b,q.dom b→p.dom b):Ext w0 W (L.set i q) :=
 h.set hp q (hq (h.all i p hp)) E E E (Nat.le_refl _) (fun _ _ _=>E) (fun b hb=>.inl (hd b hb))
end
section
variable {r : Option Nat} {n : Nat} {P : Program} {ρ : Operand → Value} {w0 : World} {L : List Res}
variable {t : Option Tmp} {ty : TypeId} {pos : String} {af : Array Edge} {g : Option (Nat × Bool)}
variable {A : Option Addr} {k c : Nat} {cs : List Value}
theorem slOf_inv {u e:TypeId} {sz:Nat} (hs:kK P u=some (e,sz)):P.underlying u=some (.slice (P.elem u))∧∀W,(Go.sizeOf (P.elem u)).run P W=.ok sz W:=by
 unfold kK at hs
 cases hu:P.underlying u with
 | none=>rw[hu]at hs;cases hs
 | some d =>
  rw[hu]at hs
  cases d with
  | slice e' =>
   simp only[]at hs
   cases hinf:P.info? e' with
   | none=>rw[hinf]at hs;cases hs
   | some inf =>
    rw[hinf]at hs
    simp only[Option.map_some,Option.some.injEq,Prod.mk.injEq]at hs
    obtain⟨rfl,rfl⟩:=hs
    have e1:P.elem u=e':=by simp[Program.elem,hu]
    exact⟨by rw[e1],fun W=>by rw[e1];simp[Go.sizeOf,typeInfo,hinf]⟩
  | _=>cases hs
theorem la {x b:Operand} {u e:TypeId} {sz:Nat} {q:IntKind} {hi:Int} (hs:kK P u=some (e,sz)) (h0:0≤hi) (h2:hi≤k) (hR:RdL w0 L A k c cs) (hx:ρ x=.slice A k c) (hb:ρ b=.int q hi) :
  OpY r n P ⟨t,.slice u x none (some b) none,ty,pos,af,g⟩ ρ (fun W=>Ext w0 W L) (fun W=>Ext w0 W L) (.slice A hi.toNat c) :=
 aI (by intro c h;cases h) (fun W hW=>by
  obtain⟨hu',hsz⟩:=slOf_inv hs
  have hcap:=(hR W hW).cap
  have h3:hi≤(c:Int):=by omega
  simp only[execOp,hx,hb,Option.map_some,Option.map_none,Sem.run_bind,run_sliceAt_slice W u _ _ _ _ hu',run_slice_h W u A k c hu' q hi h0 h3,hsz,Result.andThen_ok,sliced]
  have e1:(if c=0 then A else Option.map (fun x=>x.add (0*sz)) A)=A:=by
   split
   ·rfl
   ·cases A <;> simp[Addr.add]
  rw[e1]
  rfl)
theorem gI {α:Type} {xs:List α} {n:Nat} {hi:Int} (h2:hi≤(n:Int)) (hn:n=xs.length):hi.toNat=(xs.take hi.toNat).length:=by rw[List.length_take,←hn];omega
end
section
variable {r : Option Nat} {n : Nat} {P : Program} {ops : Array Oper} {Q : Exit → Act → World → Prop} {w0 : World} {L : List Res} {m : Nat} {tm : Nat → Value} {d : List Deferred}
variable {t : Tmp} {ty : TypeId} {pos : String} {af : Array Edge} {g : Option (Nat × Bool)} {l rest : List Oper}
theorem dt (i:Nat) {α:Type} {cells:α→List Value} {xs ys:List α} {x y:Operand} {u e:TypeId} {A B:Option Addr} {c c' k q:Nat} {sz by':Nat} {z:Value} (hu:P.underlying u=some (.slice e)) (hz:bg P e=some z) (hb:eC P e z sz by'=true)
  (hL:L[i]? = some (bR A c e sz k (aL cells xs))) (hx:opv m tm x=.slice A k c) (hy:opv m tm y=.slice B q c') (hR:RdL w0 L B q c' (aL cells ys)) (hn:(aL cells ys).length=q*sz) (h1:((aL cells ys).all (·.oneCell'))=true) (hg:(k+q)*by'≤140737488355328)
  (hw:cZ ops m tm ⟨some t,.call ⟨.builtin .append,#[x,y],#[u,u]⟩,ty,pos,af,g⟩=true)
  (h:∀A' c',OX r n P ops Q w0 (L.set i (bR A' c' e sz (k+q) (aL cells (xs++ys)))) rest m (upd tm t (.slice A' (k+q) c')) d) :
  OX r n P ops Q w0 L (⟨some t,.call ⟨.builtin .append,#[x,y],#[u,u]⟩,ty,pos,af,g⟩::rest) m tm d:=by
 rcases Nat.eq_zero_or_pos q with hq|hq
 ·subst hq
  have hys:aL cells ys=[]:=by
   have:=hn
   rw[Nat.zero_mul]at this
   exact List.eq_nil_of_length_eq_zero this
  refine fS hw (by intro c h;cases h) fun W hW=>?_
  obtain⟨inf,hinf,hzz⟩:∃inf,P.info? e=some inf∧inf.zero=some z:=by
   unfold bg at hz
   cases hi:P.info? e with
   | none=>rw[hi]at hz;cases hz
   | some inf=>rw[hi]at hz;exact⟨inf,E,hz⟩
  have hcap:=(kd (hW.mem hL)).cap
  have hrun:(Builtin.append_ #[u,u] ty #[.slice A k c,.slice B 0 c']).run P W=.ok (.slice A k c) W:=by
   cases A <;> cases B <;> simp[Builtin.append_,run_underlying hu,sizeOf,typeInfo,hinf,Builtin.lenOf,Builtin.firstCells,hcap,storeCells,loadCells,loadCellsFrom]
  refine⟨_,W,_,?_,?_,h A c⟩
  ·simp only[execOp,resolve,invoke,builtin]
   simp[hx,hy,hrun]
  ·have e1:aL cells (xs++ys)=aL cells xs:=by rw[←kr,hys,List.append_nil]
   rw[e1,Nat.add_zero]
   have e2:L.set i (bR A c e sz k (aL cells xs))=L:=by
    obtain⟨hi,he⟩:=List.getElem?_eq_some_iff.1 hL
    rw[←he,List.set_getElem_self]
   rw[e2]
   exact hW
 ·exact kB i hu hz hb hL hx hy hq hR hn h1 hg hw h
end
def rawR (v:Value):Option (DataW Value × List MemPlace):=some (.held v,[])
structure KeyE (P:Program) (kt:TypeId) {κ:Type} (ek:κ→Value) (ok:κ→Bool):Prop where
 keyed:Maps.Keyed P kt
 tot:∀x,ok x=true→∃l,keyOf P kt (ek x)=some l
 inj:∀x y,ek x=ek y→x=y
def mapV (P:Program) (kt:TypeId) {κ β:Type} [DecidableEq κ] (ek:κ→Value) (ok:κ→Bool) (ev:β→Value) (z:β) (b:Nat) (m:List (κ × β)):Res where
 dom c:=c=b
 holds W:=∃D:DataW Value,W.ownsMap P kt rawR b m.length D∧Maps.IsMap D∧(∀x l,ok x=true→keyOf P kt (ek x)=some l→D.atKey l (.held (ev z))=.held (ev (bi z m x))∧Maps.has D l=bI m x)∧∀l,Maps.has D l=true→∃x,ok x=true∧keyOf P kt (ek x)=some l
 loc W W' h _ hh:=by
  obtain⟨D,⟨es,clock,hb,h1⟩,h2⟩:=hh
  exact⟨D,⟨es,clock,(h b E).trans hb,h1⟩,h2⟩
 inb W h c hc:=by
  obtain⟨D,h1,_⟩:=h
  have hc':c=b:=hc
  rw[hc']
  exact h1.lt
theorem Cy.mapV {B:Nat} {P:Program} {kt:TypeId} {κ β:Type} [DecidableEq κ] {ek:κ→Value} {ok:κ→Bool} {ev:β→Value} {z:β} {b:Nat} {m:List (κ × β)} (h:b<B):Cy B (mapV P kt ek ok ev z b m):=fun W c _ hc=>by
 have hc':c=b:=hc
 exact .inl (by omega)
theorem mapV.later {P:Program} {kt:TypeId} {κ β:Type} [DecidableEq κ] {ek:κ→Value} {ok:κ→Bool} {ev:β→Value} {z:β} {b:Nat} {m:List (κ × β)} {W W':World} (h:(mapV P kt ek ok ev z b m).holds W) (hb:Below W.heap.size W W'):(mapV P kt ek ok ev z b m).holds W' :=
 (mapV P kt ek ok ev z b m).loc W W' (fun c hc=>by
  have hc':c=b:=hc
  obtain⟨D,h1,_⟩:=h
  rw[hc']
  exact hb.block b h1.lt) hb.size h
def MpL (w0:World) (L:List Res) (p:Res):Prop:=∀W,Ext w0 W L→p.holds W
theorem MpL.own {w0:World} {L:List Res} {p:Res} (i:Nat) (h:L[i]? = some p):MpL w0 L p:=fun _ hW=>hW.mem h
theorem MpL.arg {w0:World} {L:List Res} {P:Program} {kt:TypeId} {κ β:Type} [DecidableEq κ] {ek:κ→Value} {ok:κ→Bool} {ev:β→Value} {z:β} {b:Nat} {m:List (κ × β)} (h:(mapV P kt ek ok ev z b m).holds w0):MpL w0 L (mapV P kt ek ok ev z b m):=fun _ hW=>mapV.later h hW.below
def kI (x:Int):Value:=.int .i64 x
theorem keyE_int {P:Program} {kt:TypeId} (hk:P.underlying kt=some (.int .i64)):KeyE P kt kI ki :=
 ⟨Maps.int_keyed hk,fun x h=>⟨_,keyI hk h⟩,fun x y h=>by cases h;rfl⟩
section
variable {r : Option Nat} {n : Nat} {P : Program} {ρ : Operand → Value} {w0 : World} {L : List Res}
variable {t : Option Tmp} {ty : TypeId} {pos : String} {af : Array Edge} {g : Option (Nat × Bool)}
variable {κ β : Type} [DecidableEq κ] {ek : κ → Value} {ok : κ → Bool} {ev : β → Value} {z : β}
theorem jD {kt et mt b:Nat} {m:List (κ × β)} {x y:Operand} {k:κ} (hM:MpL w0 L (mapV P kt ek ok ev z b m)) (K:KeyE P kt ek ok) (hm:P.underlying mt=some (.map kt et)) (hz:bg P et=some (ev z))
  (hx:ρ x=.map (some b)) (hy:ρ y=ek k) (hr:ok k=true) :
  OpY r n P ⟨t,.lookup mt x y false,ty,pos,af,g⟩ ρ (fun W=>Ext w0 W L) (fun W=>Ext w0 W L) (ev (bi z m k)) :=
 aI (by intro c h;cases h) (fun W hW=>by
  obtain⟨D,h1,_,h3,_⟩:=hM W hW
  obtain⟨l,hl⟩:=K.tot k hr
  obtain⟨v,ps,hrun,hv⟩:=h1.lookup K.keyed hm (zero_run hz) (zd:=.held (ev z)) (zp:=[]) E hl
  rw[(h3 k l hr hl).1]at hv
  have:v=ev (bi z m k):=by
   have:=Option.some.inj hv
   simp only[Prod.mk.injEq,DataW.held.injEq]at this
   exact this.1
  subst this
  simp[execOp,hx,hy,hrun])
theorem lg (i:Nat) {kt et mt b:Nat} {m:List (κ × β)} {x y u:Operand} {k:κ} {v:β} (hL:L[i]? = some (mapV P kt ek ok ev z b m)) (K:KeyE P kt ek ok) (hm:P.underlying mt=some (.map kt et))
  (hx:ρ x=.map (some b)) (hy:ρ y=ek k) (hv:ρ u=ev v) (hr:ok k=true∧m.length<1000000000) :
  OpY r n P ⟨t,.mapUpdate mt x y u,ty,pos,af,g⟩ ρ (fun W=>Ext w0 W L) (fun W=>Ext w0 W (L.set i (mapV P kt ek ok ev z b ((k,v)::m)))) undef :=
 gE (by intro c h;cases h) (fun W hW=>by
  obtain⟨D,h1,h2,h3,h4⟩:=hW.mem hL
  obtain⟨l,hl⟩:=K.tot k hr.1
  obtain⟨W',hrun,hown,hg⟩:=h1.update K.keyed hm (by simp only[maxLen];omega) (val:=ev v) (d:=.held (ev v)) (ps:=[]) hl E
  refine⟨W',by simp[execOp,hx,hy,hv,hrun],?_⟩
  refine hW.set hL (mapV P kt ek ok ev z b ((k,v)::m)) ⟨_,hown,h2.put _ _,fun q l' hq hl'=>?_,fun l' hl'=>?_⟩ hg.os hg.tape hg.output hg.size (fun c hc hn=>hg.block c hc (fun e=>hn (by cases e;rfl))) (fun c hc=>.inl hc)
  rotate_left
  ·by_cases e:l'=l
   ·exact⟨k,hr.1,by rw[e];exact hl⟩
   ·rw[Maps.has_put_other e]at hl'
    exact h4 l' hl'
  unfold bi bI
  by_cases e:k=q
  ·subst e
   have e2:l'=l:=by rw[hl]at hl';exact(Option.some.inj hl').symm
   subst e2
   rw[Maps.atKey_put_same h2 (K.keyed.key hl),Maps.has_put_same h2 (K.keyed.key hl)]
   simp
  ·have hne:l'≠l:=fun e2=>e (K.inj k q (K.keyed.inj hl (e2▸hl')))
   rw[Maps.atKey_put_other hne,Maps.has_put_other hne,(h3 q l' hq hl').1,(h3 q l' hq hl').2]
   simp[e])
end
section
variable {r : Option Nat} {n : Nat} {P : Program} {ops : Array Oper} {Q : Exit → Act → World → Prop} {w0 : World} {L : List Res} {m : Nat} {tm : Nat → Value} {d : List Deferred}
variable {t : Tmp} {ty : TypeId} {pos : String} {af : Array Edge} {g : Option (Nat × Bool)} {l rest : List Oper}
theorem jZ (kt:TypeId) {κ β:Type} [DecidableEq κ] (ek:κ→Value) (ok:κ→Bool) (ev:β→Value) (z:β) {mt:TypeId} (hw:cZ ops m tm ⟨some t,.makeMap mt none,ty,pos,af,g⟩=true)
  (h:∀b,OX r n P ops Q w0 (L++[mapV P kt ek ok ev z b []]) rest m (upd tm t (.map (some b))) d):OX r n P ops Q w0 L (⟨some t,.makeMap mt none,ty,pos,af,g⟩::rest) m tm d :=
 fS hw (by intro c h;cases h) fun W hW=>by
  refine⟨_,W.alloc (.map #[] 0),_,?_,?_,h W.heap.size⟩
  ·simp[execOp,Instr.makeMap,newObj]
   rfl
  ·have h7:Ext w0 (W.alloc (.map #[] 0)) L:=hW.keep (hW.below.alloc hW.size _) (by simp) (fun i p hp b hd=>Below.heap_alloc W _ b (p.inb W (hW.all i p hp) b hd))
   refine h7.snoc (p:=mapV P kt ek ok ev z W.heap.size []) ⟨_,World.ownsMap_made W P kt _,⟨_,E⟩,fun x _ _ _=>⟨E,E⟩,fun l hl=>by cases hl⟩ (fun b hb=>?_) (fun i q hq b hb hb'=>?_)
   ·have hb':b=W.heap.size:=hb
    have:=hW.size
    omega
   ·have hb'':b=W.heap.size:=hb'
    have:=q.inb W (hW.all i q hq) _ hb
    omega
end
section
variable {r : Option Nat} {n : Nat} {P : Program} {ρ : Operand → Value} {w0 : World} {L : List Res}
variable {t : Option Tmp} {ty : TypeId} {pos : String} {af : Array Edge} {g : Option (Nat × Bool)}
end
theorem rd_none {W:World} {n c sz:Nat} {α:Type} {cells:α→List Value} {xs:List α} (h:Rd W none n c (aL cells xs)) (hc:∀x,(cells x).length=sz) (hp:0<sz):xs=[]:=by
 cases xs with
 | nil=>rfl
 | cons x xs =>
  have hl:0<(aL cells (x::xs)).length:=by rw[eL hc E];exact Nat.mul_pos (Nat.succ_pos _) hp
  obtain⟨b,o,e,_⟩:=h.cell 0 (aL cells (x::xs))[0] (by simp[hl])
  cases e
section
variable {r : Option Nat} {n : Nat} {P : Program} {ops : Array Oper} {Q : Exit → Act → World → Prop} {w0 : World} {L : List Res} {m : Nat} {tm : Nat → Value} {d : List Deferred}
variable {t : Tmp} {ty : TypeId} {pos : String} {af : Array Edge} {g : Option (Nat × Bool)} {l rest : List Oper}
theorem iV {α:Type} (cells:α→List Value) {u e:TypeId} {z:Value} {sz by':Nat} (hu:P.underlying u=some (.slice e)) (hz:bg P e=some z) (_hb:eC P e z sz by'=true)
  (hw:cZ ops m tm ⟨some t,.buildSlice u 0 #[],ty,pos,af,g⟩=true)
  (h:∀b,OX r n P ops Q w0 (L++[bR (some ⟨b,0,none⟩) 0 e sz 0 (aL cells [])]) rest m (upd tm t (.slice (some ⟨b,0,none⟩) 0 0)) d) :
  OX r n P ops Q w0 L (⟨some t,.buildSlice u 0 #[],ty,pos,af,g⟩::rest) m tm d :=
 fS hw (by intro c h;cases h) fun W hW=>by
  obtain⟨inf,hinf,hzz⟩:∃inf,P.info? e=some inf∧inf.zero=some z:=by
   unfold bg at hz
   cases hi:P.info? e with
   | none=>rw[hi]at hz;cases hz
   | some inf=>rw[hi]at hz;exact⟨inf,E,hz⟩
  have hu1:(underlying u).run P W=.ok (.slice e) W:=by simp[underlying,hu]
  have hsz:(Go.sizeOf e).run P W=.ok inf.size W:=by simp[Go.sizeOf,typeInfo,hinf]
  have hb:(Instr.buildSlice u 0 #[]).run P W=.ok (.slice (some ⟨W.heap.size,0,none⟩) 0 0) (W.alloc (.cells #[] e)):=by
   simp[Instr.buildSlice,hu1,Result.andThen_ok,hsz,Instr.fill,newRow]
   rw[show(Array.range 0) = #[] by simp[Array.range]]
   simp
  refine⟨_,W.alloc (.cells #[] e),_,?_,?_,h W.heap.size⟩
  ·simp only[execOp,Sem.run_bind,List.map_toArray,List.map_nil,hb]
   rfl
  ·have hk:(bR (some ⟨W.heap.size,0,none⟩) 0 e sz 0 (aL cells [])).holds (W.alloc (.cells #[] e)):=by
    have:=World.ownsRow_lit (base:=0) (e:=e) (size:=sz) W #[] 0 (Nat.zero_le _) (Nat.zero_le _) (by simp)
    exact this
   have h7:Ext w0 (W.alloc (.cells #[] e)) L:=hW.keep (hW.below.alloc hW.size _) (by simp) (fun i p hp b hd=>Below.heap_alloc W _ b (p.inb W (hW.all i p hp) b hd))
   refine h7.snoc hk (fun b hb=>?_) (fun i q hq b hb hb'=>?_)
   ·obtain⟨a,ha,rfl⟩:=hb
    cases ha
    exact hW.size
   ·obtain⟨a,ha,rfl⟩:=hb'
    cases ha
    have:=q.inb W (hW.all i q hq) _ hb
    exact absurd this (Nat.lt_irrefl _)
theorem Ext.mv {W:World} (h:Ext w0 W L) (i j:Nat) (_hij:i≠j) {q:Res} (hq:L[j]? = some q):Ext w0 W ((L.set j noR).set i q):=by
 have hget:∀(k:Nat) (s:Res),((L.set j noR).set i q)[k]? = some s→(k=i∧s=q)∨s=noR∨(k≠i∧k≠j∧L[k]? = some s):=by
  intro k s hk
  rw[List.getElem?_set]at hk
  by_cases e:i=k
  ·subst e
   rw[if_pos E]at hk
   split at hk
   ·cases hk;exact .inl ⟨E,E⟩
   ·cases hk
  ·rw[if_neg e,List.getElem?_set]at hk
   by_cases e2:j=k
   ·subst e2
    rw[if_pos E]at hk
    split at hk
    ·cases hk;exact .inr (.inl E)
    ·cases hk
   ·rw[if_neg e2]at hk
    exact .inr (.inr ⟨fun h=>e h.symm,fun h=>e2 h.symm,hk⟩)
 refine⟨h.below,fun k s hk=>?_,fun k s hk b hb=>?_,fun k l s s' hk hl hne b hb hb'=>?_⟩
 ·rcases hget k s hk with⟨_,rfl⟩|rfl|⟨_,_,h3⟩
  ·exact h.all j _ hq
  ·trivial
  ·exact h.all k _ h3
 ·rcases hget k s hk with⟨_,rfl⟩|rfl|⟨_,_,h3⟩
  ·exact h.new j _ hq b hb
  ·exact hb.elim
  ·exact h.new k _ h3 b hb
 ·rcases hget k s hk with⟨a1,rfl⟩|rfl|⟨a1,a2,a3⟩
  ·rcases hget l s' hl with⟨b1,rfl⟩|rfl|⟨b1,b2,b3⟩
   ·exact hne (a1.trans b1.symm)
   ·exact hb'.elim
   ·exact h.sep j l _ _ hq b3 (fun e=>b2 e.symm) b hb hb'
  ·exact hb.elim
  ·rcases hget l s' hl with⟨b1,rfl⟩|rfl|⟨b1,b2,b3⟩
   ·exact h.sep k j _ _ a3 hq a2 b hb hb'
   ·exact hb'.elim
   ·exact h.sep k l _ _ a3 b3 hne b hb hb'
theorem ex_mv {e:Exit} (i j:Nat) (hij:i≠j) {q:Res} (hq:L[j]? = some q) (h:EX Q e w0 ((L.set j noR).set i q) m tm d):EX Q e w0 L m tm d:=fun W hW=>h W (hW.mv i j hij hq)
end
section
variable {r : Option Nat} {n : Nat} {P : Program} {ρ : Operand → Value} {C : World → Prop}
variable {t : Option Tmp} {ty : TypeId} {pos : String} {af : Array Edge} {g : Option (Nat × Bool)}
end
section
variable {r : Option Nat} {n : Nat} {P : Program} {ρ : Operand → Value} {C : World → Prop}
variable {t : Option Tmp} {ty : TypeId} {pos : String} {af : Array Edge} {g : Option (Nat × Bool)}
end
section
variable {P : Program} {w0 : World} {L : List Res} {m : Nat} {tm : Nat → Value}
end
section
variable {r : Option Nat} {n : Nat} {P : Program} {ρ : Operand → Value} {C : World → Prop} {w0 : World} {L : List Res}
variable {t : Option Tmp} {ty : TypeId} {pos : String} {af : Array Edge} {g : Option (Nat × Bool)}
theorem bE {x:Operand} {b o:Nat} (hx:ρ x=.pointer (some ⟨b,o,none⟩)):OpY r n P ⟨t,.nilCheck x,ty,pos,af,g⟩ ρ C C (.pointer (some ⟨b,o,none⟩)) :=
 aI (by intro c h;cases h) (fun W _=>by simp[execOp,hx])
theorem RdL.under {R:Res} {A:Option Addr} {k c:Nat} {cs:List Value} (h:∀W2,Below w0.heap.size w0 W2→R.holds W2→Rd W2 A k c cs):RdL w0 (R::L) A k c cs:=fun W hW=>h W hW.below (hW.mem (i:=0) E)
end
open Go.RowKit (Below)
section
variable {r : Option Nat} {n : Nat} {P : Program} {ops : Array Oper} {Q : Exit → Act → World → Prop}
def fG (Q:Exit→Act→World→Prop):Exit→Act→World→Prop:=fun e a w=>e=.normal∧Q .normal a w
theorem sink {fr:List Nat} {k:Nat} (hkN:k≤ops.size)
  (hT:k=ops.size∨(List.range k).all (fun i=>fr.contains i||(List.range (k+1)).any fun j=>decide (i<j)&&tailB.Region.waitsB ops j i)=true∧((List.range ops.size).all fun t=>decide (t≤k)||tailB.Region.waitsB ops t (t-1))=true) :
  ∀(listed:Array Bool),listed.size=ops.size→(∀j oj,ops[j]? = some oj→listed.getD j false=true→∀e∈oj.after,Region.binds .any e=true→listed.getD e.on false=true) →
   (∀t,k≤t→t<ops.size→listed.getD t false=false)→(∀i,i∈fr→listed.getD i false=true)→∀(d i:Nat),k-i=d→i<k→listed.getD i false=false→∀t,k≤t→t∉Region.ready .any ops listed:=by
 have hchain:∀t,k<t→t<ops.size→tailB.Region.waitsB ops t (t-1)=true:=fun t h1 h2=>by
  rcases hT with hT|hT
  ·omega
  ·have:=List.all_eq_true.1 hT.2 t (List.mem_range.2 h2)
   simp only[Bool.or_eq_true,decide_eq_true_eq]at this
   rcases this with h|h
   ·omega
   ·exact h
 intro listed hsz hcl htl hfr d
 induction d using Nat.strongRecOn with
 | _ d ih =>
  intro i hd hi hun t ht hr
  obtain⟨htu,ot,hot,hall⟩:=mem_ready.1 hr
  have htlt:t<ops.size:=(Array.getElem?_eq_some_iff.1 hot).1
  have hT':(List.range k).all (fun i=>fr.contains i||(List.range (k+1)).any fun j=>decide (i<j)&&tailB.Region.waitsB ops j i)=true:=by
   rcases hT with hT|hT
   ·omega
   ·exact hT.1
  by_cases htk:t=k
  ·subst htk
   have h1:=List.all_eq_true.1 hT' i (List.mem_range.2 hi)
   rw[Bool.or_eq_true]at h1
   have h1:=h1.resolve_left (fun hc=>by
    have:=hfr i (by simpa using hc)
    rw[hun]at this;cases this)
   obtain⟨j,hj,hj2⟩:=List.any_eq_true.1 h1
   simp only[Bool.and_eq_true,decide_eq_true_eq]at hj2
   obtain⟨oj,hoj,e,he,hb,hon⟩:=db hj2.2
   have hjle:j≤t:=by have:=List.mem_range.1 hj;omega
   by_cases hjt:j=t
   ·subst hjt
    rw[hot]at hoj;cases hoj
    have h2:=hall e he hb
    rw[hon,hun]at h2;cases h2
   ·cases hlj:listed.getD j false with
    | true =>
     have h2:=hcl j oj hoj hlj e he hb
     rw[hon,hun]at h2;cases h2
    | false=>exact ih (t-j) (by omega) j E (by omega) hlj t (Nat.le_refl _) hr
  ·obtain⟨oj,hoj,e,he,hb,hon⟩:=db (hchain t (by omega) htlt)
   rw[hot]at hoj;cases hoj
   have h2:=hall e he hb
   rw[hon,htl (t-1) (by omega) (by omega)]at h2;cases h2
theorem jN {l:List Oper} (hops:ops=l.toArray) (fr:List Nat) {k:Nat} (hO:eE ops=true) (hkN:k≤ops.size)
  (hT:k=ops.size∨(List.range k).all (fun i=>fr.contains i||(List.range (k+1)).any fun j=>decide (i<j)&&tailB.Region.waitsB ops j i)=true∧((List.range ops.size).all fun t=>decide (t≤k)||tailB.Region.waitsB ops t (t-1))=true)
  {a0:Act} {vals:Nat→Value} {acts:Nat→Act} {C:World→Prop} (hst:∀m,acts m=stA ops vals a0 (fun _=>true) m)
  (hvals:∀(j:Nat) (o:Oper),j<k→j∉fr→ops[j]? = some o→(Region.wanted o (yielded ops (acts j).tmps)=true∧OpY r n P o (acts j).eval C C (vals j))∨(Region.wanted o (yielded ops (acts j).tmps)=false∧vals j=undef))
  (hK:∀W,C W→OL r n P ops (fG Q) (l.drop k) (acts k) W) :
  ∀(c:Nat) (listed:Array Bool) (W:World),C W→listed.size=ops.size→left listed k=c →
   (∀j oj,ops[j]? = some oj→listed.getD j false=true→∀e∈oj.after,Region.binds .any e=true→listed.getD e.on false=true) →
   (∀t,k≤t→t<ops.size→listed.getD t false=false)→(∀i,i∈fr→listed.getD i false=true) →
   wpAnyIn (Fw r) n P .any ops (fG Q) (c+(ops.size-k)) listed (stA ops vals a0 (fun j=>listed.getD j false) k) W:=by
 have hchain:∀t,k<t→t<ops.size→tailB.Region.waitsB ops t (t-1)=true:=fun t h1 h2=>by
  rcases hT with hT|hT
  ·omega
  ·have:=List.all_eq_true.1 hT.2 t (List.mem_range.2 h2)
   simp only[Bool.or_eq_true,decide_eq_true_eq]at this
   rcases this with h|h
   ·omega
   ·exact h
 -- while an operation of the first k is still to come,no later one comes up
 have hsink:∀(listed:Array Bool),listed.size=ops.size→(∀j oj,ops[j]? = some oj→listed.getD j false=true→∀e∈oj.after,Region.binds .any e=true→listed.getD e.on false=true) →
   (∀t,k≤t→t<ops.size→listed.getD t false=false)→(∀i,i∈fr→listed.getD i false=true)→∀(d i:Nat),k-i=d→i<k→listed.getD i false=false→∀t,k≤t→t∉Region.ready .any ops listed:=by
  intro listed hsz hcl htl hfr d
  induction d using Nat.strongRecOn with
  | _ d ih =>
   intro i hd hi hun t ht hr
   obtain⟨htu,ot,hot,hall⟩:=mem_ready.1 hr
   have htlt:t<ops.size:=(Array.getElem?_eq_some_iff.1 hot).1
   have hT':(List.range k).all (fun i=>fr.contains i||(List.range (k+1)).any fun j=>decide (i<j)&&tailB.Region.waitsB ops j i)=true:=by
    rcases hT with hT|hT
    ·omega
    ·exact hT.1
   by_cases htk:t=k
   ·subst htk
    have h1:=List.all_eq_true.1 hT' i (List.mem_range.2 hi)
    rw[Bool.or_eq_true]at h1
    have h1:=h1.resolve_left (fun hc=>by
     have:=hfr i (by simpa using hc)
     rw[hun]at this;cases this)
    obtain⟨j,hj,hj2⟩:=List.any_eq_true.1 h1
    simp only[Bool.and_eq_true,decide_eq_true_eq]at hj2
    obtain⟨oj,hoj,e,he,hb,hon⟩:=db hj2.2
    have hjle:j≤t:=by have:=List.mem_range.1 hj;omega
    by_cases hjt:j=t
    ·subst hjt
     rw[hot]at hoj;cases hoj
     have h2:=hall e he hb
     rw[hon,hun]at h2;cases h2
    ·cases hlj:listed.getD j false with
     | true =>
      have h2:=hcl j oj hoj hlj e he hb
      rw[hon,hun]at h2;cases h2
     | false=>exact ih (t-j) (by omega) j E (by omega) hlj t (Nat.le_refl _) hr
   ·obtain⟨oj,hoj,e,he,hb,hon⟩:=db (hchain t (by omega) htlt)
    rw[hot]at hoj;cases hoj
    have h2:=hall e he hb
    rw[hon,htl (t-1) (by omega) (by omega)]at h2;cases h2
 intro c
 induction c with
 | zero =>
  intro listed W hC hsz hc hcl htl hfr
  have hall:=gS hc
  have hs:stA ops vals a0 (fun j=>listed.getD j false) k=acts k:=by
   rw[hst k]
   have:∀m,m≤k→stA ops vals a0 (fun j=>listed.getD j false) m=stA ops vals a0 (fun _=>true) m:=by
    intro m
    induction m with
    | zero=>intro _;rfl
    | succ m ih=>intro hm;simp only[stA,ih (show m≤k by omega),hall m (by omega)]
   exact this k (Nat.le_refl _)
  rw[hs,Nat.zero_add]
  exact kf hops hO hchain _ k listed _ W E (Nat.le_refl _) hkN hsz (fun j hj=>by
   by_cases h:j<k
   ·rw[hall j h];simp[h]
   ·rw[htl j (by omega) hj];simp[h]) (hK W hC)
 | succ c ih =>
  intro listed W hC hsz hc hcl htl hfr
  -- one of the first k is still to come
  have hex:∃i,i<k∧listed.getD i false=false:=by
   apply Classical.byContradiction
   intro hno
   have:left listed k=0:=by
    unfold left
    rw[List.filter_eq_nil_iff.2 fun j hj=>?_]
    ·rfl
    ·have hj':=List.mem_range.1 hj
     cases hl:listed.getD j false with
     | true=>simp
     | false=>exact absurd ⟨j,hj',hl⟩ hno
   omega
  obtain⟨i0,hi0,hun0⟩:=hex
  have hrdy:∀j,j<ops.size→listed.getD j false=false→∃i,i∈Region.ready .any ops listed:=by
   intro j
   induction j using Nat.strongRecOn with
   | _ j ihj =>
    intro hj hun
    obtain⟨o,ho⟩:∃o,ops[j]? = some o:=⟨_,Array.getElem?_eq_some_iff.2 ⟨hj,E⟩⟩
    by_cases hall:∀e∈o.after,Region.binds .any e=true→listed.getD e.on false=true
    ·exact⟨j,mem_ready.2 ⟨by rw[bG (by omega) true false];exact hun,o,ho,hall⟩⟩
    ·have:∃e∈o.after,Region.binds .any e=true∧listed.getD e.on false=false:=by
      apply Classical.byContradiction
      intro hno
      exact hall fun e he hb=>by
       cases hl:listed.getD e.on false with
       | true=>rfl
       | false=>exact absurd ⟨e,he,hb,hl⟩ hno
     obtain⟨e,he,hb,hf⟩:=this
     have hlt:=(aJ hO ho).2.2.1 e he hb
     exact ihj e.on hlt (by omega) hf
  obtain⟨i1,hi1⟩:=hrdy i0 (by omega) hun0
  rw[show c+1+(ops.size-k)=(c+(ops.size-k))+1 by omega]
  refine⟨fun h=>(by rw[h]at hi1;cases hi1),fun i hi=>?_⟩
  obtain⟨hun,o,ho,hall⟩:=mem_ready.1 hi
  have hlt:i<ops.size:=(Array.getElem?_eq_some_iff.1 ho).1
  have hik:i<k:=by
   rcases Nat.lt_or_ge i k with h|h
   ·exact h
   ·exact absurd hi (hsink listed hsz hcl htl hfr _ i0 E hi0 hun0 i h)
  rw[bG (by omega) true false]at hun
  obtain⟨hsel,hdef,_,hord⟩:=aJ hO ho
  -- what it looks at is as in the text's order
  have hlook:∀j,j<k→(listed.getD j false)≠decide (j<i)→∀d,dr ops j=some d→¬d∈o.looksAt ops:=by
   intro j hj hne d hd hmem
   obtain⟨oj,hoj⟩:∃oj,ops[j]? = some oj:=⟨_,Array.getElem?_eq_some_iff.2 ⟨by omega,E⟩⟩
   have hdj:oj.dst=some d:=by simpa [dr,hoj]using hd
   rcases Nat.lt_trichotomy j i with h|h|h
   ·-- not listed,yet the operation is ready: it does not wait for it
    have hl:listed.getD j false=false:=by
     cases hl:listed.getD j false with
     | false=>rfl
     | true=>exact absurd (by rw[hl];simp[h]) hne
    rcases hord j oj h hoj with hap|⟨e,he,hb,hon⟩
    ·exact(Oper.apart_spec hap).1 d hdj hmem
    ·have:=hall e he hb
     rw[hon,hl]at this;cases this
   ·subst h
    exact absurd (by rw[hun];simp) hne
   ·have hl:listed.getD j false=true:=by
     cases hl:listed.getD j false with
     | true=>rfl
     | false=>exact absurd (by rw[hl];simp;omega) hne
    rcases (aJ hO hoj).2.2.2 i o h ho with hap|⟨e,he,hb,hon⟩
    ·exact(Oper.apart_spec hap).2.2 d hdj hmem
    ·have:=hcl j oj hoj hl e he hb
     rw[hon,hun]at this;cases this
  have hag:=eY (ops:=ops) vals a0 (fun x=>x∈o.looksAt ops) (fun j=>listed.getD j false) (fun j=>decide (j<i)) k hlook
  have hlex:stA ops vals a0 (fun j=>decide (j<i)) k=acts i:=by
   rw[hst i]
   have h1:∀m,m≤i→stA ops vals a0 (fun j=>decide (j<i)) m=stA ops vals a0 (fun _=>true) m:=by
    intro m
    induction m with
    | zero=>intro _;rfl
    | succ m ih=>intro hm;simp only[stA];rw[ih (by omega)];simp;omega
   have h2:∀m,i≤m→stA ops vals a0 (fun j=>decide (j<i)) m=stA ops vals a0 (fun j=>decide (j<i)) i:=by
    intro m
    induction m with
    | zero =>
     intro h
     have:i=0:=by omega
     subst this;rfl
    | succ m ih =>
     intro hm
     by_cases e:i=m+1
     ·rw[e]
     ·simp only[stA]
      rw[if_neg (by simp;omega)]
      exact ih (by omega)
   rw[h2 k (by omega),h1 i (Nat.le_refl _)]
  rw[hlex]at hag
  obtain⟨hev,hwa⟩:=dV (ops:=ops) (o:=o) (a:=stA ops vals a0 (fun j=>listed.getD j false) k) (b:=acts i) hag.1
  have hins:stA ops vals a0 (fun j=>(listed.setIfInBounds i true).getD j false) k=(stA ops vals a0 (fun j=>listed.getD j false) k).put o.dst (vals i):=by
   have e1:(fun j=>(listed.setIfInBounds i true).getD j false)=fun j=>listed.getD j false||j==i:=funext fun j=>a4 (by omega)
   rw[e1,eU (ops:=ops) vals a0 (fun j=>listed.getD j false) i hun k hik (fun j h1 h2 hS d hd he=>?_)]
   ·congr 1
    simp[dr,ho]
   ·obtain⟨oj,hoj⟩:∃oj,ops[j]? = some oj:=⟨_,Array.getElem?_eq_some_iff.2 ⟨by omega,E⟩⟩
    have hdj:oj.dst=some d:=by simpa [dr,hoj]using hd
    have hdi:o.dst=some d:=by simpa [dr,ho]using he
    rcases (aJ hO hoj).2.2.2 i o h1 ho with hap|⟨e,he,hb,hon⟩
    ·exact(Oper.apart_spec hap).2.1 d hdi hdj
    ·have:=hcl j oj hoj hS e he hb
     rw[hon,hun]at this;cases this
  have hgo:∀W',C W'→wpAnyIn (Fw r) n P .any ops (fG Q) (c+(ops.size-k)) (listed.setIfInBounds i true) ((stA ops vals a0 (fun j=>listed.getD j false) k).put o.dst (vals i)) W':=fun W' hC'=>by
   rw[←hins]
   have hl:=gb (by omega) hun k hik
   refine ih _ W' hC' (by simpa using hsz) (by omega) (fun j oj hoj hlj e he hb=>?_) (fun t h1 h2=>?_) (fun i' hi'=>by rw[a4 (by omega),hfr i' hi'];rfl)
   ·rw[a4 (by omega)]at hlj ⊢
    by_cases e':j=i
    ·subst e'
     rw[ho]at hoj;cases hoj
     rw[hall e he hb];rfl
    ·have:(j==i)=false:=by simpa using e'
     rw[this,Bool.or_false]at hlj
     rw[hcl j oj hoj hlj e he hb];rfl
   ·rw[a4 (by omega),htl t h1 h2]
    simp;omega
  unfold wpOpIn
  simp only[ho]
  rcases hvals i o hik (fun hfi=>by rw[hfr i hfi]at hun;cases hun) ho with⟨hw,hy⟩|⟨hw,hv⟩
  ·rw[hwa,if_pos hw]
   refine d6 (gT hsel hdef (fun x hx=>(hev x hx).symm) hy) hC ?_
   exact hgo
  ·rw[hwa,if_neg (by rw[hw];simp)]
   refine⟨fun _ _=>trivial,?_⟩
   have:=hgo W hC
   rwa [hv]at this
end
section
variable {r : Option Nat} {n : Nat} {P : Program} {Q : Exit → Act → World → Prop} {w0 : World} {L : List Res} {m : Nat} {tm : Nat → Value} {d : List Deferred}
theorem jW (h:EX Q .normal w0 L m tm d):EX (fG Q) .normal w0 L m tm d:=fun W hW=>⟨E,h W hW⟩
end
open Go.RowKit (Below)
section
variable {r : Option Nat} {n : Nat} {P : Program} {ops : Array Oper} {Q : Exit → Act → World → Prop}
theorem i7 {k:Nat} (hO:eE ops=true) (hkN:k≤ops.size) {a0:Act} {vals:Nat→Value} {acts:Nat→Act} {C:World→Prop} (hst:∀m,acts m=stA ops vals a0 (fun _=>true) m)
  {listed:Array Bool} {W:World} (hC:C W) (hsz:listed.size=ops.size)
  (hcl:∀j oj,ops[j]? = some oj→listed.getD j false=true→∀e∈oj.after,Region.binds .any e=true→listed.getD e.on false=true)
  {i:Nat} {o:Oper} (hik:i<k) (hun:listed.getD i true=false) (ho:ops[i]? = some o) (hall:∀e∈o.after,Region.binds .any e=true→listed.getD e.on false=true)
  (hvals:(Region.wanted o (yielded ops (acts i).tmps)=true∧OpY r n P o (acts i).eval C C (vals i))∨(Region.wanted o (yielded ops (acts i).tmps)=false∧vals i=undef)) {K:Act→World→Prop}
  (hK:∀W',C W'→K (stA ops vals a0 (fun j=>(listed.setIfInBounds i true).getD j false) k) W') :
  wpOpIn (Fw r) n P ops (fG Q) i K (stA ops vals a0 (fun j=>listed.getD j false) k) W:=by
 rw[bG (by omega) true false]at hun
 obtain⟨hsel,hdef,_,hord⟩:=aJ hO ho
 -- what it looks at is as in the text's order
 have hlook:∀j,j<k→(listed.getD j false)≠decide (j<i)→∀d,dr ops j=some d→¬d∈o.looksAt ops:=by
  intro j hj hne d hd hmem
  obtain⟨oj,hoj⟩:∃oj,ops[j]? = some oj:=⟨_,Array.getElem?_eq_some_iff.2 ⟨by omega,E⟩⟩
  have hdj:oj.dst=some d:=by simpa [dr,hoj]using hd
  rcases Nat.lt_trichotomy j i with h|h|h
  ·-- not listed,yet the operation is ready: it does not wait for it
   have hl:listed.getD j false=false:=by
    cases hl:listed.getD j false with
    | false=>rfl
    | true=>exact absurd (by rw[hl];simp[h]) hne
   rcases hord j oj h hoj with hap|⟨e,he,hb,hon⟩
   ·exact(Oper.apart_spec hap).1 d hdj hmem
   ·have:=hall e he hb
    rw[hon,hl]at this;cases this
  ·subst h
   exact absurd (by rw[hun];simp) hne
  ·have hl:listed.getD j false=true:=by
    cases hl:listed.getD j false with
    | true=>rfl
    | false=>exact absurd (by rw[hl];simp;omega) hne
   rcases (aJ hO hoj).2.2.2 i o h ho with hap|⟨e,he,hb,hon⟩
   ·exact(Oper.apart_spec hap).2.2 d hdj hmem
   ·have:=hcl j oj hoj hl e he hb
    rw[hon,hun]at this;cases this
 have hag:=eY (ops:=ops) vals a0 (fun x=>x∈o.looksAt ops) (fun j=>listed.getD j false) (fun j=>decide (j<i)) k hlook
 have hlex:stA ops vals a0 (fun j=>decide (j<i)) k=acts i:=by
  rw[hst i]
  have h1:∀m,m≤i→stA ops vals a0 (fun j=>decide (j<i)) m=stA ops vals a0 (fun _=>true) m:=by
   intro m
   induction m with
   | zero=>intro _;rfl
   | succ m ih=>intro hm;simp only[stA];rw[ih (by omega)];simp;omega
  have h2:∀m,i≤m→stA ops vals a0 (fun j=>decide (j<i)) m=stA ops vals a0 (fun j=>decide (j<i)) i:=by
   intro m
   induction m with
   | zero =>
    intro h
    have:i=0:=by omega
    subst this;rfl
   | succ m ih =>
    intro hm
    by_cases e:i=m+1
    ·rw[e]
    ·simp only[stA]
     rw[if_neg (by simp;omega)]
     exact ih (by omega)
  rw[h2 k (by omega),h1 i (Nat.le_refl _)]
 rw[hlex]at hag
 obtain⟨hev,hwa⟩:=dV (ops:=ops) (o:=o) (a:=stA ops vals a0 (fun j=>listed.getD j false) k) (b:=acts i) hag.1
 have hins:stA ops vals a0 (fun j=>(listed.setIfInBounds i true).getD j false) k=(stA ops vals a0 (fun j=>listed.getD j false) k).put o.dst (vals i):=by
  have e1:(fun j=>(listed.setIfInBounds i true).getD j false)=fun j=>listed.getD j false||j==i:=funext fun j=>a4 (by omega)
  rw[e1,eU (ops:=ops) vals a0 (fun j=>listed.getD j false) i hun k hik (fun j h1 h2 hS d hd he=>?_)]
  ·congr 1
   simp[dr,ho]
  ·obtain⟨oj,hoj⟩:∃oj,ops[j]? = some oj:=⟨_,Array.getElem?_eq_some_iff.2 ⟨by omega,E⟩⟩
   have hdj:oj.dst=some d:=by simpa [dr,hoj]using hd
   have hdi:o.dst=some d:=by simpa [dr,ho]using he
   rcases (aJ hO hoj).2.2.2 i o h1 ho with hap|⟨e,he,hb,hon⟩
   ·exact(Oper.apart_spec hap).2.1 d hdi hdj
   ·have:=hcl j oj hoj hS e he hb
    rw[hon,hun]at this;cases this
 have hgo:∀W',C W'→K ((stA ops vals a0 (fun j=>listed.getD j false) k).put o.dst (vals i)) W':=fun W' hC'=>by
  rw[←hins]
  exact hK W' hC'
 unfold wpOpIn
 simp only[ho]
 rcases hvals with⟨hw,hy⟩|⟨hw,hv⟩
 ·rw[hwa,if_pos hw]
  refine d6 (gT hsel hdef (fun x hx=>(hev x hx).symm) hy) hC ?_
  exact hgo
 ·rw[hwa,if_neg (by rw[hw];simp)]
  refine⟨fun _ _=>trivial,?_⟩
  have:=hgo W hC
  rwa [hv]at this
def QWg (ops:Array Oper) (Y:Oper→(Operand→Value)→Value→Prop) (K:Act→Prop):List Oper→Act→Prop
 | [],a=>K a
 | o::rest,a=>if Region.wanted o (yielded ops a.tmps)then ∃v,Y o a.eval v∧QWg ops Y K rest (a.put o.dst v)else QWg ops Y K rest (a.put o.dst undef)
theorem jm {Y:Oper→(Operand→Value)→Value→Prop} {K:Act→Prop}:∀(l:List Oper) (i0:Nat) (a:Act),(∀j,j<l.length→l[j]? = ops[i0+j]?)→QWg ops Y K l a →
  ∃(vals:Nat→Value) (acts:Nat→Act),acts 0=a∧(∀j,acts (j+1)=(acts j).put (dr ops (i0+j)) (vals j)) ∧
   (∀j o,j<l.length→ops[i0+j]? = some o→(Region.wanted o (yielded ops (acts j).tmps)=true∧Y o (acts j).eval (vals j))∨(Region.wanted o (yielded ops (acts j).tmps)=false∧vals j=undef)) ∧
   K (acts l.length)
 | [],i0,a,_,h=>by
  have hK:K a:=h
  exact⟨fun _=>undef,fun j=>Nat.rec a (fun j b=>b.put (dr ops (i0+j)) undef) j,E,fun _=>E,(fun j o hj=>by simp at hj),hK⟩
 | o::rest,i0,a,hl,h=>by
  have ho:ops[i0]? = some o:=by simpa using(hl 0 (by simp)).symm
  have hl':∀j,j<rest.length→rest[j]? = ops[i0+1+j]?:=fun j hj=>by
   have:=hl (j+1) (by simp;omega)
   simpa [Nat.add_assoc,Nat.add_comm 1 j]using this
  have hdst:dr ops i0=o.dst:=by simp[dr,ho]
  have key:∃v,((Region.wanted o (yielded ops a.tmps)=true∧Y o a.eval v)∨(Region.wanted o (yielded ops a.tmps)=false∧v=undef))∧QWg ops Y K rest (a.put o.dst v):=by
   unfold QWg at h
   by_cases hw:Region.wanted o (yielded ops a.tmps)=true
   ·rw[if_pos hw]at h
    obtain⟨v,h1,h2⟩:=h
    exact⟨v,.inl ⟨hw,h1⟩,h2⟩
   ·rw[if_neg hw]at h
    exact⟨undef,.inr ⟨by simpa using hw,E⟩,h⟩
  obtain⟨v,hv,hq⟩:=key
  obtain⟨vals,acts,h0,h1,h2,h3⟩:=jm rest (i0+1) _ hl' hq
  refine⟨fun|0=>v|j+1=>vals j,fun|0=>a|j+1=>acts j,E,?_,?_,h3⟩
  ·intro j
   cases j with
   | zero=>show acts 0=a.put (dr ops (i0+0)) v;rw[h0,Nat.add_zero,hdst]
   | succ j=>show acts (j+1)=(acts j).put (dr ops (i0+(j+1))) (vals j);rw[h1 j];simp[Nat.add_assoc,Nat.add_comm 1 j]
  ·intro j o' hj ho'
   cases j with
   | zero =>
    have:o'=o:=by rw[Nat.add_zero,ho]at ho';cases ho';rfl
    subst this
    exact hv
   | succ j=>exact h2 j o' (by simpa using hj) (by simpa [Nat.add_assoc,Nat.add_comm 1 j]using ho')
def kO (ops:Array Oper) (k:Nat):Bool:=match ops[k]? with
 | some ⟨some _,.alloc _,_,_,af,none⟩=>af.all fun e => !Region.binds .any e
 | _=>false
theorem lC {l:List Oper} (k:Nat) (hm:P.follows .mixedOrders=true) (hO:eE l.toArray=true) (hT:tailB l.toArray (k+1)=true) (hA:kO l.toArray k=true) {id:Nat} {a0:Act} {W0 w0:World} {L:List Res}
  (h0:Ext w0 { W0 with drawn:=W0.drawn+1 } L)
  (hq:QWg l.toArray (fun o ρ v=>∀L2,OpY r n P o ρ (fun W=>Ext w0 W (L++L2)) (fun W=>Ext w0 W (L++L2)) v) (fun a'=>∀d e ty pos af,l[k]? = some ⟨some d,.alloc e,ty,pos,af,none⟩ →
   ∃z,bg P e=some z∧∀b W,Ext w0 W (L++[ac b e z.cells.toList])→OL r n P l.toArray (fG Q) (l.drop (k+1)) (a'.put (some d) (.pointer (some ⟨b,0,none⟩))) W) (l.take k) a0):(Code.region id l.toArray true).wpIn (Fw r) n P Q a0 W0:=by
 refine wpIn_mono (Q:=fG Q) ?_ (fun e a w h=>by obtain⟨rfl,h⟩:=h;exact h)
 refine wpIn_region_any hm ?_
 obtain⟨ops,hops⟩:∃ops,ops=l.toArray:=⟨_,E⟩
 rw[←hops]at hO hT hA hq ⊢
 unfold tailB at hT
 simp only[Bool.and_eq_true,Bool.or_eq_true,decide_eq_true_eq]at hT
 obtain⟨hkN,hT⟩:=hT
 have hkk:k<ops.size:=by omega
 obtain⟨dd,e,ty,pos,af,hok,haf⟩:∃d e ty pos af,ops[k]? = some ⟨some d,.alloc e,ty,pos,af,none⟩∧∀x∈af,Region.binds .any x=false:=by
  unfold kO at hA
  split at hA
  ·rename_i d e ty pos af ho
   exact⟨d,e,ty,pos,af,ho,fun x hx=>by simpa using Array.all_eq_true'.1 hA x hx⟩
  ·cases hA
 have hlen:(l.take k).length=k:=by rw[hops]at hkk;simp at hkk;simp;omega
 obtain⟨vals,acts,ha0,hacts,hvals,hK⟩:=jm (l.take k) 0 a0 (fun j hj=>by
  rw[hlen]at hj
  rw[hops];simp[hj]) hq
 rw[hlen]at hvals hK
 simp only[Nat.zero_add]at hacts hvals
 obtain⟨z,hz,hK⟩:=hK dd e ty pos af (by rw[hops]at hok;simpa using hok)
 obtain⟨inf,hinf,hzz⟩:∃inf,P.info? e=some inf∧inf.zero=some z:=by
  unfold bg at hz
  cases hi:P.info? e with
  | none=>rw[hi]at hz;cases hz
  | some inf=>rw[hi]at hz;exact⟨inf,E,hz⟩
 have hst:∀m,acts m=stA ops vals a0 (fun _=>true) m:=by
  intro m
  induction m with
  | zero=>exact ha0
  | succ m ih=>rw[hacts m,ih];simp[stA]
 have hfr0:(k+1)=ops.size∨(List.range (k+1)).all (fun i=>[k].contains i||(List.range (k+1+1)).any fun j=>decide (i<j)&&tailB.Region.waitsB ops j i)=true∧((List.range ops.size).all fun t=>decide (t≤k+1)||tailB.Region.waitsB ops t (t-1))=true:=by
  rcases hT with h|h
  ·exact .inl h
  ·refine .inr ⟨?_,h.2⟩
   rw[List.all_eq_true]at *
   intro i hi
   rw[h.1 i hi,Bool.or_true]
 have hfr1:(k+1)=ops.size∨(List.range (k+1)).all (fun i=>([]:List Nat).contains i||(List.range (k+1+1)).any fun j=>decide (i<j)&&tailB.Region.waitsB ops j i)=true∧((List.range ops.size).all fun t=>decide (t≤k+1)||tailB.Region.waitsB ops t (t-1))=true:=by
  rcases hT with h|h
  ·exact .inl h
  ·refine .inr ⟨?_,h.2⟩
   rw[List.all_eq_true]at *
   intro i hi
   rw[h.1 i hi,Bool.or_true]
 have hsink:=sink (fr:=[]) hkN hfr1
 have main:∀(c:Nat) (listed:Array Bool) (W:World),Ext w0 W L→listed.size=ops.size→left listed k=c →
   (∀j oj,ops[j]? = some oj→listed.getD j false=true→∀e∈oj.after,Region.binds .any e=true→listed.getD e.on false=true) →
   (∀t,k≤t→t<ops.size→listed.getD t false=false) →
   wpAnyIn (Fw r) n P .any ops (fG Q) (c+(ops.size-k)) listed (stA ops vals a0 (fun j=>listed.getD j false) k) W:=by
  intro c
  induction c using Nat.strongRecOn with
  | _ c ih =>
  intro listed W hC hsz hc hcl htl
  have hunk:listed.getD k false=false:=htl k (Nat.le_refl _) hkk
  have hrk:k∈Region.ready .any ops listed:=mem_ready.2 ⟨by rw[bG (by omega) true false];exact hunk,_,hok,fun x hx hb=>by rw[haf x hx]at hb;cases hb⟩
  rw[show c+(ops.size-k)=(c+(ops.size-(k+1)))+1 by omega]
  refine⟨fun h=>(by rw[h]at hrk;cases hrk),fun i hi=>?_⟩
  rcases Nat.lt_trichotomy i k with hik|hik|hik
  ·obtain⟨hun,o,ho,hall⟩:=mem_ready.1 hi
   have hun':=hun
   rw[bG (by omega) true false]at hun'
   have hl:=gb (by omega) hun' k hik
   refine i7 (r:=r) (C:=fun W=>Ext w0 W L) hO (by omega) hst hC hsz hcl hik hun ho hall ?_ (fun W' hC'=>?_)
   ·rcases hvals i o hik ho with⟨h1,h2⟩|h1
    ·refine .inl ⟨h1,?_⟩
     have:=h2 []
     rw[List.append_nil]at this
     exact this
    ·exact .inr h1
   ·have:=ih (left (listed.setIfInBounds i true) k) (by omega) (listed.setIfInBounds i true) W' hC' (by simpa using hsz) E (fun j oj hoj hlj e he hb=>by
     rw[a4 (by omega)]at hlj ⊢
     by_cases e':j=i
     ·subst e'
      rw[ho]at hoj;cases hoj
      rw[hall e he hb];rfl
     ·have:(j==i)=false:=by simpa using e'
      rw[this,Bool.or_false]at hlj
      rw[hcl j oj hoj hlj e he hb];rfl) (fun t h1 h2=>by
     rw[a4 (by omega),htl t h1 h2]
     simp;omega)
    rw[show left (listed.setIfInBounds i true) k+(ops.size-k)=c+(ops.size-(k+1)) by omega]at this
    exact this
  ·subst hik
   unfold wpOpIn
   simp only[hok]
   rw[if_pos (show Region.wanted (⟨some dd,.alloc e,ty,pos,af,none⟩:Oper) _=true from E)]
   refine⟨fun _ _=>by cases r <;> trivial,?_⟩
   have hrun:((⟨some dd,.alloc e,ty,pos,af,none⟩:Oper).semAt (Fw r).round (stA ops vals a0 (fun j=>listed.getD j false) i).eval).run P W=.ok (.value (.pointer (some ⟨W.heap.size,0,none⟩))) (W.alloc (.cells z.cells e)):=by
    have e0:(Fw r).round=r:=by cases r <;> rfl
    rw[e0,cr (by intro c h;cases h)]
    simp only[execOp,Instr.alloc,zeroValue,typeInfo,newVar,newRow]
    simp[hinf,hzz]
   rw[hrun]
   have hW2:Ext w0 (W.alloc (.cells z.cells e)) (L++[ac W.heap.size e z.cells.toList]):=by
    have:=hC.alloc (.cells z.cells e)
    simpa [ac]using this
   generalize hb0:W.heap.size=b at hW2 hrun
   show wpAnyIn (Fw r) n P .any ops (fG Q) _ _ _ _
   have hvb:∀m,m≤i→stA ops (fun j=>if j=i then .pointer (some ⟨b,0,none⟩)else vals j) a0 (fun _=>true) m=acts m:=by
    intro m
    induction m with
    | zero=>intro _;exact ha0.symm
    | succ m ihm=>intro hm;rw[hacts m,←ihm (by omega)];simp[stA];rw[if_neg (by omega)]
   have hvl:∀m,m≤i→stA ops (fun j=>if j=i then .pointer (some ⟨b,0,none⟩)else vals j) a0 (fun j=>(listed.setIfInBounds i true).getD j false) m=stA ops vals a0 (fun j=>listed.getD j false) m:=by
    intro m
    induction m with
    | zero=>intro _;rfl
    | succ m ihm =>
     intro hm
     simp only[stA]
     rw[ihm (by omega),a4 (by omega),if_neg (show ¬m=i by omega)]
     have:(m==i)=false:=by simp;omega
     rw[this,Bool.or_false]
   have hli:(listed.setIfInBounds i true).getD i false=true:=by rw[a4 (by omega)];simp
   have hdi:dr ops i=some dd:=by simp[dr,hok]
   have:=jN (r:=r) (n:=n) (P:=P) (Q:=Q) hops [i] (k:=i+1) hO hkN hfr0 (a0:=a0) (vals:=fun j=>if j=i then .pointer (some ⟨b,0,none⟩)else vals j)
    (acts:=stA ops (fun j=>if j=i then .pointer (some ⟨b,0,none⟩)else vals j) a0 (fun _=>true)) (C:=fun W=>Ext w0 W (L++[ac b e z.cells.toList])) (fun _=>E)
    (fun j o hj hne ho=>by
     have hji:j<i:=by
      have:j≠i:=fun h=>hne (by simp[h])
      omega
     rw[hvb j (by omega)]
     simp only[if_neg (show ¬j=i by omega)]
     rcases hvals j o hji ho with⟨h1,h2⟩|h1
     ·exact .inl ⟨h1,h2 _⟩
     ·exact .inr h1)
    (fun W' hW'=>by
     have e9:stA ops (fun j=>if j=i then .pointer (some ⟨b,0,none⟩)else vals j) a0 (fun _=>true) (i+1)=(acts i).put (some dd) (.pointer (some ⟨b,0,none⟩)):=by
      simp only[stA]
      rw[hvb i (Nat.le_refl _),hdi]
      simp
     rw[e9]
     exact hK b W' hW')
    c (listed.setIfInBounds i true) _ hW2 (by simpa using hsz) (by
     rw[←hc]
     unfold left
     rw[List.range_succ,List.filter_append,List.length_append,List.filter_cons_of_neg (by rw[hli];simp)]
     simp only[List.filter_nil,List.length_nil,Nat.add_zero]
     congr 1
     exact List.filter_congr fun j hj=>by
      have:=List.mem_range.1 hj
      rw[a4 (by omega)]
      have:(j==i)=false:=by simp;omega
      rw[this,Bool.or_false])
    (fun j oj hoj hlj e' he hb=>by
     rw[a4 (by omega)]at hlj ⊢
     by_cases e2:j=i
     ·subst e2
      rw[hok]at hoj;cases hoj
      rw[haf e' he]at hb;cases hb
     ·have:(j==i)=false:=by simpa using e2
      rw[this,Bool.or_false]at hlj
      rw[hcl j oj hoj hlj e' he hb];rfl)
    (fun t h1 h2=>by
     rw[a4 (by omega),htl t (by omega) h2]
     simp;omega)
    (fun j hj=>by rw[List.mem_singleton.1 hj];exact hli)
   have e9:stA ops (fun j=>if j=i then .pointer (some ⟨b,0,none⟩)else vals j) a0 (fun j=>(listed.setIfInBounds i true).getD j false) (i+1)=(stA ops vals a0 (fun j=>listed.getD j false) i).put (some dd) (.pointer (some ⟨b,0,none⟩)):=by
    simp only[stA]
    rw[hvl i (Nat.le_refl _),hdi,hli]
    simp
   rw[e9]at this
   exact this
  ·exact absurd hi (hsink listed hsz hcl (fun t h1 h2=>htl t (by omega) h2) (fun i hi=>absurd hi List.not_mem_nil) _ k E (by omega) hunk i hik)
 have hfin:=main (left (Array.replicate ops.size false) k) (Array.replicate ops.size false) _ h0 (by simp) E (fun j oj hoj hl=>by
  have:j<ops.size:=(Array.getElem?_eq_some_iff.1 hoj).1
  simp[this]at hl) (fun t _ h=>by simp[h])
 have e1:left (Array.replicate ops.size false) k+(ops.size-k)=ops.size:=by
  have:left (Array.replicate ops.size false) k=k:=by
   unfold left
   rw[List.filter_eq_self.2 fun j hj=>?_]
   ·simp
   ·have:=List.mem_range.1 hj
    simp[show j<ops.size by omega]
  omega
 have e2:stA ops vals a0 (fun j=>(Array.replicate ops.size false).getD j false) k=a0:=by
  have:∀m,m≤k→stA ops vals a0 (fun j=>(Array.replicate ops.size false).getD j false) m=a0:=by
   intro m
   induction m with
   | zero=>intro _;rfl
   | succ m ih=>intro hm;simp only[stA];rw[ih (by omega)];simp[show m<ops.size by omega]
  exact this k (Nat.le_refl _)
 rw[e1,e2]at hfin
 exact hfin
end
section
variable {r : Option Nat} {n : Nat} {P : Program} {ops : Array Oper} {Q : Exit → Act → World → Prop} {w0 : World} {L : List Res} {m : Nat} {tm : Nat → Value} {d : List Deferred}
variable {t : Tmp} {ty : TypeId} {pos : String} {af : Array Edge} {g : Option (Nat × Bool)} {l rest : List Oper}
def AX (r:Option Nat) (n:Nat) (P:Program) (ops:Array Oper) (Q:Exit→Act→World→Prop) (w0:World) (L:List Res) (k:Nat) (all:List Oper) (l:List Oper) (m:Nat) (tm:Nat→Value) (d:List Deferred):Prop :=
 QWg ops (fun o ρ v=>∀L2,OpY r n P o ρ (fun W=>Ext w0 W (L++L2)) (fun W=>Ext w0 W (L++L2)) v) (fun a'=>∀d e ty pos af,all[k]? = some ⟨some d,.alloc e,ty,pos,af,none⟩ →
   ∃z,bg P e=some z∧∀b W,Ext w0 W (L++[ac b e z.cells.toList])→OL r n P ops (fG Q) (all.drop (k+1)) (a'.put (some d) (.pointer (some ⟨b,0,none⟩))) W) l (act m tm d)
theorem jK (k:Nat) {id:Nat} {l:List Oper} (hm:P.follows .mixedOrders=true) (hO:eE l.toArray=true) (hT:tailB l.toArray (k+1)=true) (hA:kO l.toArray k=true)
  (h:AX r n P l.toArray Q w0 L k l (l.take k) m tm d):CX r n P (.region id l.toArray true) Q w0 L m tm d :=
 fun _ hW=>lC k hm hO hT hA hW.drawn h
theorem il {k:Nat} {all:List Oper} {op:Op} {v:Value} (hw:cZ ops m tm ⟨some t,op,ty,pos,af,g⟩=true) (hy:∀L2,OpY r n P ⟨some t,op,ty,pos,af,g⟩ (opv m tm) (fun W=>Ext w0 W (L++L2)) (fun W=>Ext w0 W (L++L2)) v)
  (h:AX r n P ops Q w0 L k all rest m (upd tm t v) d):AX r n P ops Q w0 L k all (⟨some t,op,ty,pos,af,g⟩::rest) m tm d:=by
 unfold AX QWg
 rw[a7,if_pos hw,bW]
 refine⟨v,hy,?_⟩
 rw[cj]
 exact h
theorem ax_nil {k:Nat} {all:List Oper} {e:TypeId} {z:Value} (hk:all[k]? = some ⟨some t,.alloc e,ty,pos,af,none⟩) (hz:bg P e=some z)
  (h:∀b,OX r n P ops (fG Q) w0 (L++[ac b e z.cells.toList]) (all.drop (k+1)) m (upd tm t (.pointer (some ⟨b,0,none⟩))) d):AX r n P ops Q w0 L k all [] m tm d:=by
 unfold AX QWg
 intro d' e' ty' pos' af' hk'
 rw[hk]at hk'
 simp only[Option.some.injEq,Oper.mk.injEq,Op.alloc.injEq,and_true]at hk'
 obtain⟨rfl,rfl,_,_,_⟩:=hk'
 refine⟨z,hz,fun b W hW=>?_⟩
 rw[cj]
 exact h b W hW
end
open Go.RowKit (Below)
abbrev Hd:=Option Addr × Nat × Nat
theorem rdL_snd {α β:Type} [Inhabited α] [Inhabited β] {ys:List (α × β)} {xs:List β} (h:ys.map Prod.snd=xs) (i:Int):(rdL ys i).2=rdL xs i:=by
 subst h
 unfold rdL
 rw[List.getD_eq_getElem?_getD,List.getD_eq_getElem?_getD,List.getElem?_map]
 cases ys[i.toNat]? <;> rfl
theorem ly {α:Type} [Inhabited α] {xs:List α} {i:Int} (h0:0≤i) (h1:i<(xs.length:Int)):rdL xs i∈xs:=by
 unfold rdL
 rw[List.getD_eq_getElem?_getD,List.getElem?_eq_getElem (show i.toNat<xs.length by omega)]
 exact List.getElem_mem _
section
variable {β γ : Type} {sel : β → List γ} {ic : γ → List Value}
structure NestP (sel:β→List γ) (ys:List (Hd × β)) (xs:List β):Prop where
 eq:ys.map Prod.snd=xs
 ln:∀y∈ys,y.1.2.1=(sel y.2).length
structure NestW (W:World) (sel:β→List γ) (ic:γ→List Value) (ys:List (Hd × β)) (xs:List β):Prop where
 p:NestP sel ys xs
 inn:∀y∈ys,Rd W y.1.1 y.1.2.1 y.1.2.2 (aL ic (sel y.2))
structure NestL (w0:World) (L:List Res) (sel:β→List γ) (ic:γ→List Value) (ys:List (Hd × β)) (xs:List β):Prop where
 p:NestP sel ys xs
 inn:∀y∈ys,RdL w0 L y.1.1 y.1.2.1 y.1.2.2 (aL ic (sel y.2))
variable {w0 W : World} {L : List Res} {ys : List (Hd × β)} {xs : List β}
theorem NestL.arg (h:NestW w0 sel ic ys xs):NestL w0 L sel ic ys xs:=⟨h.p,fun y hy=>RdL.arg (h.inn y hy)⟩
theorem NestL.at (h:NestL w0 L sel ic ys xs) (W:World) (hW:Ext w0 W L):NestW W sel ic ys xs:=⟨h.p,fun y hy=>h.inn y hy W hW⟩
theorem NestW.later {W':World} (h:NestW W sel ic ys xs) (hb:Below W.heap.size W W'):NestW W' sel ic ys xs:=⟨h.p,fun y hy=>(h.inn y hy).later hb⟩
theorem NestP.hn {n:Nat} (h:NestP sel ys xs) (hn:n=xs.length):n=ys.length:=by rw[hn,←h.eq,List.length_map]
variable [Inhabited β] [Inhabited γ]
omit [Inhabited γ] in
theorem NestP.snd (h:NestP sel ys xs) (i:Int):(rdL ys i).2=rdL xs i:=rdL_snd h.eq i
omit [Inhabited γ] in
theorem NestP.len (h:NestP sel ys xs) {i:Int} (h0:0≤i) (h1:i<(xs.length:Int)):(rdL ys i).1.2.1=(sel (rdL xs i)).length:=by
 have hl:xs.length=ys.length:=h.hn E
 rw[←h.snd i]
 exact h.ln _ (ly h0 (by omega))
end
open Go.RowKit (Below)
section
variable {r : Option Nat} {n : Nat} {P : Program} {Q : Exit → Act → World → Prop} {w0 : World} {L : List Res} {m : Nat} {tm : Nat → Value} {d : List Deferred}
end
section
variable {κ β : Type} [DecidableEq κ]
end
section
variable {r : Option Nat} {n : Nat} {P : Program} {ops : Array Oper} {Q : Exit → Act → World → Prop} {w0 : World} {L : List Res} {m : Nat} {tm : Nat → Value} {d : List Deferred}
variable {t : Tmp} {ty : TypeId} {pos : String} {af : Array Edge} {g : Option (Nat × Bool)} {rest : List Oper}
variable {κ β : Type} [DecidableEq κ] {kt : TypeId} {ek : κ → Value} {ok : κ → Bool} {ev : β → Value} {z : β}
end
section
variable {r : Option Nat} {n : Nat} {P : Program} {ρ : Operand → Value} {w0 : World} {L : List Res}
variable {t : Option Tmp} {ty : TypeId} {pos : String} {af : Array Edge} {g : Option (Nat × Bool)}
variable {κ β : Type} [DecidableEq κ] {kt : TypeId} {ek : κ → Value} {ok : κ → Bool} {ev : β → Value} {z : β}
end
open Go.RowKit (Below)
section
variable {w0 : World} {L : List Res}
theorem Ext.rot {W:World} {p:Res} (h:Ext w0 W (p::L)):Ext w0 W (L++[p]):=by
 have hg:∀(k:Nat) (q:Res),(L++[p])[k]? = some q→∃j,(p::L)[j]? = some q∧(k<L.length→j=k+1)∧(L.length≤k→j=0∧k=L.length):=by
  intro k q hq
  rcases Nat.lt_or_ge k L.length with hk|hk
  ·rw[List.getElem?_append_left hk]at hq
   exact⟨k+1,by simpa using hq,fun _=>E,fun h'=>by omega⟩
  ·rw[List.getElem?_append_right hk]at hq
   have:k-L.length=0:=by
    cases hkk:k-L.length with
    | zero=>rfl
    | succ z=>rw[hkk]at hq;simp at hq
   rw[this]at hq
   exact⟨0,by simpa using hq,fun h'=>by omega,fun _=>⟨E,by omega⟩⟩
 refine⟨h.below,fun k q hq=>?_,fun k q hq=>?_,fun k l q q' hq hq' hne=>?_⟩
 ·obtain⟨j,hj,_⟩:=hg k q hq;exact h.all j q hj
 ·obtain⟨j,hj,_⟩:=hg k q hq;exact h.new j q hj
 ·obtain⟨j,hj,a1,a2⟩:=hg k q hq
  obtain⟨i,hi,b1,b2⟩:=hg l q' hq'
  refine h.sep j i q q' hj hi (fun e=>hne ?_)
  rcases Nat.lt_or_ge k L.length with hk|hk <;> rcases Nat.lt_or_ge l L.length with hl|hl
  ·have:=a1 hk;have:=b1 hl;omega
  ·have:=a1 hk;have:=(b2 hl).1;omega
  ·have:=(a2 hk).1;have:=b1 hl;omega
  ·have:=(a2 hk).2;have:=(b2 hl).2;omega
theorem Ext.tail {W:World} {p:Res} (h:Ext w0 W (p::L)):Ext w0 W L:=by
 have:=h.rot.take L.length
 rw[List.take_left]at this
 exact this
end
section
variable {r : Option Nat} {n : Nat} {P : Program} {Q : Exit → Act → World → Prop} {w0 : World} {L : List Res} {m : Nat} {tm : Nat → Value} {d : List Deferred}
end
section
variable {P : Program} {Q : Exit → Act → World → Prop} {w0 : World} {L : List Res} {m : Nat} {tm : Nat → Value} {d : List Deferred}
variable {ops : Array Oper} {t : Tmp} {ty : TypeId} {pos : String} {af : Array Edge} {g : Option (Nat × Bool)} {rest : List Oper}
end
open Go.RowKit (Below)
section
variable {r : Option Nat} {n : Nat} {P : Program} {ρ : Operand → Value} {w0 : World} {L : List Res}
variable {t : Option Tmp} {ty : TypeId} {pos : String} {af : Array Edge} {g : Option (Nat × Bool)} {C : World → Prop}
theorem j9 {f:Fn} {first caps:List Operand} (us vs:List Value) (hf:first.map ρ=us) (hc:caps.map ρ=vs):OpY r n P ⟨t,.makeFunc f first.toArray caps.toArray,ty,pos,af,g⟩ ρ C C (.func f us.toArray vs.toArray) :=
 aI (by intro c h;cases h) (fun W _=>by
  subst hf hc
  simp[execOp,Instr.makeFunc])
theorem kl {f:FuncId} {x:Operand} {xs:List Operand} {us:Array TypeId} {fst caps:List Value} (vs:List Value) {v:Value} (hf:cx P f=true) (hx:ρ x=.func (.func f) fst.toArray caps.toArray) (ha:xs.map ρ=vs)
  (h:∀W,Ext w0 W L→Calls P f (fst++(vs++caps)).toArray W fun e W'=>e=.returned v∧Ext W W' []) :
  OpY r n P ⟨t,.call ⟨.value x,xs.toArray,us⟩,ty,pos,af,g⟩ ρ (fun W=>Ext w0 W L) (fun W=>Ext w0 W L) v:=fun W hW=>by
 rw[cr (by intro c h;cases h)]
 subst ha
 have e:(execOp ρ ⟨t,.call ⟨.value x,xs.toArray,us⟩,ty,pos,af,g⟩).run P W=.ok (.enter f (fst++(xs.map ρ++caps)).toArray) W:=by
  simp[execOp,resolve,hx,Deferred.ofValue,invoke,f5 hf]
 rw[e]
 refine(h W hW).mono ?_
 rintro e W' ⟨rfl,hx⟩
 exact⟨E,hW.below' hx.below⟩
end
section
variable {w0 : World} {L : List Res}
theorem Ext.split {W:World} (h:Ext w0 W L) (i:Nat) {p:Res} (hp:L[i]? = some p) (p1 p2:Res) (h1:p.holds W→p1.holds W∧p2.holds W) (hd1:∀b,p1.dom b→p.dom b) (hd2:∀b,p2.dom b→p.dom b) (hs:p.holds W→∀b,p1.dom b→¬p2.dom b):Ext w0 W (L.set i p1++[p2]):=by
 have hh:=h.mem hp
 have h2:=h.tell i hp (q:=p1) (fun hh=>(h1 hh).1) hd1
 refine h2.snoc (h1 hh).2 (fun b hb=>h.new i p hp b (hd2 b hb)) (fun j q hq b hb hb'=>?_)
 rw[List.getElem?_set]at hq
 by_cases e:i=j
 ·subst e
  rw[if_pos E]at hq
  split at hq
  ·cases hq;exact hs hh b hb hb'
  ·cases hq
 ·rw[if_neg e]at hq
  exact h.sep j i q p hq hp (fun e'=>e e'.symm) b hb (hd2 b hb')
end
def gn:Hd:=(none,0,0)
section
variable {κ γ : Type} [DecidableEq κ]
structure HsOk (hs:List (κ × Hd)) (vs:List (κ × List γ)):Prop where
 len:hs.length=vs.length
 eq:∀k,(bi gn hs k).2.1=(bi [] vs k).length
theorem HsOk.nil:HsOk ([]:List (κ × Hd)) ([]:List (κ × List γ)):=⟨E,fun _=>E⟩
theorem HsOk.cons {hs:List (κ × Hd)} {vs:List (κ × List γ)} {k:κ} {h:Hd} {v:List γ} (ho:HsOk hs vs) (hv:h.2.1=v.length):HsOk ((k,h)::hs) ((k,v)::vs):=by
 refine⟨by simp[ho.len],fun q=>?_⟩
 unfold bi
 split
 ·exact hv
 ·exact ho.eq q
def rowsX (e:TypeId) (sz:Nat) (ic:γ→List Value) (hs:List (κ × Hd)) (vs:List (κ × List γ)) (X:κ→Prop):Res where
 dom c:=∃k,¬X k∧(bR (bi gn hs k).1 (bi gn hs k).2.2 e sz (bi gn hs k).2.1 (aL ic (bi [] vs k))).dom c
 holds W:=(∀k,¬X k→(bR (bi gn hs k).1 (bi gn hs k).2.2 e sz (bi gn hs k).2.1 (aL ic (bi [] vs k))).holds W) ∧
  ∀k k',¬X k→¬X k'→k≠k'→∀c,(bR (bi gn hs k).1 (bi gn hs k).2.2 e sz (bi gn hs k).2.1 (aL ic (bi [] vs k))).dom c→¬(bR (bi gn hs k').1 (bi gn hs k').2.2 e sz (bi gn hs k').2.1 (aL ic (bi [] vs k'))).dom c
 loc W W' h hs hh:=⟨fun k hk=>Res.loc _ W W' (fun b hb=>h b ⟨k,hk,hb⟩) hs (hh.1 k hk),hh.2⟩
 inb W hh b hb:=by
  obtain⟨k,hk,hb⟩:=hb
  exact Res.inb _ W (hh.1 k hk) b hb
def rowsS (e:TypeId) (sz:Nat) (ic:γ→List Value) (hs:List (κ × Hd)) (vs:List (κ × List γ)):Res:=rowsX e sz ic hs vs (fun _=>False)
variable {w0 : World} {L : List Res} {e : TypeId} {sz : Nat} {ic : γ → List Value} {hs : List (κ × Hd)} {vs : List (κ × List γ)}
theorem RdL.rows (ho:HsOk hs vs) (i:Nat) (hL:L[i]? = some (rowsS e sz ic hs vs)) (k:κ):RdL w0 L (bi gn hs k).1 (bi [] vs k).length (bi gn hs k).2.2 (aL ic (bi [] vs k)):=fun W hW =>
 ho.eq k▸kd ((hW.mem hL).1 k (fun h=>h))
end
section
variable {r : Option Nat} {n : Nat} {P : Program} {ops : Array Oper} {Q : Exit → Act → World → Prop} {w0 : World} {L : List Res} {m : Nat} {tm : Nat → Value} {d : List Deferred}
variable {t : Tmp} {ty : TypeId} {pos : String} {af : Array Edge} {g : Option (Nat × Bool)} {l rest : List Oper}
variable {κ γ : Type} [DecidableEq κ] {ek : κ → Value} {ok : κ → Bool} {e : TypeId} {sz : Nat} {ic : γ → List Value} {hs : List (κ × Hd)} {vs : List (κ × List γ)}
section
variable {ρ : Operand → Value} {t' : Option Tmp}
end
end
def nextC:List Nat→List Int→Option (List Int)
 | k::ks,x::c=>match nextC ks c with
  | some c'=>some (x::c')
  | none=>if x+1=(k:Int)then none else some ((x+1)::List.replicate ks.length 0)
 | _,_=>none
structure Odo (ks:List Nat) (l:List (List Int)):Prop where
 first:l[0]? = some (List.replicate ks.length 0)
 step:∀i a,l[i]? = some a→l[i+1]? = nextC ks a
section
variable {κ β γ : Type} [DecidableEq κ]
theorem e5 (z v:β) (k q:κ) (m:List (κ × β)):bi z ((k,v)::m) q=if k=q then v else bi z m q:=rfl
theorem dH (v:β) (k q:κ) (m:List (κ × β)):bI ((k,v)::m) q=if k=q then true else bI m q:=rfl
theorem lH {z:β} {m:List (κ × β)} {q:κ} (h:bI m q=false):bi z m q=z:=by
 induction m with
 | nil=>rfl
 | cons p m ih =>
  obtain⟨k,v⟩:=p
  rw[dH]at h
  rw[e5]
  by_cases e:k=q
  ·rw[if_pos e]at h;cases h
  ·rw[if_neg e]at h ⊢;exact ih h
theorem gt (z:β) (c:κ→Bool) (m:List (κ × β)) (q:κ):bi z (m.filter fun p=>c p.1) q=if c q=true then bi z m q else z:=by
 induction m with
 | nil=>simp[bi]
 | cons p m ih =>
  obtain⟨k,v⟩:=p
  by_cases hc:c k=true
  ·rw[show((k,v)::m).filter (fun p=>c p.1)=(k,v)::m.filter (fun p=>c p.1) by simp[hc],e5,e5,ih]
   by_cases e:k=q
   ·subst e;rw[if_pos E,if_pos hc,if_pos E]
   ·rw[if_neg e,if_neg e]
  ·rw[show((k,v)::m).filter (fun p=>c p.1)=m.filter (fun p=>c p.1) by simp[hc],ih,e5]
   by_cases e:k=q
   ·subst e;rw[if_neg hc,if_neg hc]
   ·rw[if_neg e]
theorem gr (c:κ→Bool) (m:List (κ × β)) (q:κ):bI (m.filter fun p=>c p.1) q=(c q&&bI m q):=by
 induction m with
 | nil=>simp[bI]
 | cons p m ih =>
  obtain⟨k,v⟩:=p
  by_cases hc:c k=true
  ·rw[show((k,v)::m).filter (fun p=>c p.1)=(k,v)::m.filter (fun p=>c p.1) by simp[hc],dH,dH,ih]
   by_cases e:k=q
   ·subst e;simp[hc]
   ·rw[if_neg e,if_neg e]
  ·rw[show((k,v)::m).filter (fun p=>c p.1)=m.filter (fun p=>c p.1) by simp[hc],ih,dH]
   by_cases e:k=q
   ·subst e;simp[hc]
   ·rw[if_neg e]
def lr (m:List (κ × β)) (k:κ):List (κ × β):=m.filter fun p => !decide (p.1=k)
theorem mget_del (z:β) (m:List (κ × β)) (k q:κ):bi z (lr m k) q=if q=k then z else bi z m q:=by
 unfold lr
 rw[gt z (fun x => !decide (x=k))]
 by_cases e:q=k <;> simp[e]
theorem mhas_del (m:List (κ × β)) (k q:κ):bI (lr m k) q=(!decide (q=k)&&bI m q):=by
 unfold lr
 rw[gr (fun x => !decide (x=k))]
def i4 (v:γ) (M:List (κ × β)) (m:List (κ × γ)):List (κ × γ):=(M.map fun p=>(p.1,v))++m
theorem kz (z v:γ) (M:List (κ × β)) (m:List (κ × γ)) (q:κ):bi z (i4 v M m) q=if bI M q=true then v else bi z m q:=by
 unfold i4
 induction M with
 | nil=>simp[bI]
 | cons p M ih =>
  obtain⟨k,w⟩:=p
  rw[List.map_cons,List.cons_append,e5,ih,dH]
  by_cases e:k=q
  ·simp[e]
  ·rw[if_neg e,if_neg e]
theorem ky (v:γ) (M:List (κ × β)) (m:List (κ × γ)) (q:κ):bI (i4 v M m) q=(bI M q||bI m q):=by
 unfold i4
 induction M with
 | nil=>simp[bI]
 | cons p M ih =>
  obtain⟨k,w⟩:=p
  rw[List.map_cons,List.cons_append,dH,ih,dH]
  by_cases e:k=q
  ·simp[e]
  ·rw[if_neg e,if_neg e]
def diffV (M:List (κ × β)) (m:List (κ × γ)):List (κ × γ):=m.filter fun p => !bI M p.1
end
def SortedI (l:List Int):Prop:=l.Pairwise (fun a b=>a≤b)
def StrictI (l:List Int):Prop:=l.Pairwise (fun a b=>a<b)
theorem StrictI.sorted {l:List Int} (h:StrictI l):SortedI l:=h.imp (fun h=>by omega)
open Go.RowKit (Below)
section
variable {κ β γ : Type} [DecidableEq κ]
variable {P : Program} {kt : TypeId} {ek : κ → Value} {ok : κ → Bool} {ev : β → Value} {z : β} {b : Nat}
end
section
variable {r : Option Nat} {n : Nat} {P : Program} {ρ : Operand → Value} {w0 : World} {L : List Res}
variable {ty : TypeId} {pos : String} {af : Array Edge} {g : Option (Nat × Bool)}
variable {κ β : Type} [DecidableEq κ] {kt : TypeId} {ek : κ → Value} {ok : κ → Bool} {ev : β → Value} {z : β}
end
section
variable {r : Option Nat} {n : Nat} {P : Program} {ops : Array Oper} {Q : Exit → Act → World → Prop} {w0 : World} {L : List Res} {m : Nat} {tm : Nat → Value} {d : List Deferred}
variable {ty : TypeId} {pos : String} {af : Array Edge} {g : Option (Nat × Bool)} {rest : List Oper} {e : Exit}
variable {κ β : Type} [DecidableEq κ] {kt : TypeId} {ek : κ → Value} {ok : κ → Bool} {ev : β → Value} {z : β}
end
section
variable {P : Program} {κ β : Type} [DecidableEq κ] {kt : TypeId} {ek : κ → Value} {ok : κ → Bool} {ev : β → Value} {z : β}
end
section
variable {r : Option Nat} {n : Nat} {P : Program} {ops : Array Oper} {Q : Exit → Act → World → Prop} {w0 : World} {L : List Res} {m : Nat} {tm : Nat → Value} {d : List Deferred}
variable {t : Tmp} {ty : TypeId} {pos : String} {af : Array Edge} {g : Option (Nat × Bool)} {rest : List Oper} {e : Exit}
variable {κ β : Type} [DecidableEq κ] {kt : TypeId} {ek : κ → Value} {ok : κ → Bool} {ev : β → Value} {z : β}
end
section
variable {r : Option Nat} {n : Nat} {P : Program} {ρ : Operand → Value} {w0 : World} {L : List Res}
variable {t : Option Tmp} {ty : TypeId} {pos : String} {af : Array Edge} {g : Option (Nat × Bool)}
variable {κ β : Type} [DecidableEq κ] {kt : TypeId} {ek : κ → Value} {ok : κ → Bool} {ev : β → Value} {z : β}
end
section
variable {κ β γ : Type} [DecidableEq κ] {ok : κ → Bool}
structure UnionI (ok:κ→Bool) (z v:γ) (M:List (κ × β)) (m0:List (κ × γ)) (s:Nat × (κ→Bool) × List (κ × γ)):Prop where
 len:s.2.2.length+s.1≤m0.length+M.length
 val:∀q,ok q=true→bi z s.2.2 q=(if(bI M q && !s.2.1 q)=true then v else bi z m0 q)∧bI s.2.2 q=(bI M q && !s.2.1 q||bI m0 q)
theorem UnionI.start {z v:γ} {M:List (κ × β)} {m0:List (κ × γ)} {k:Nat} (hk:k≤M.length):UnionI ok z v M m0 (k,(fun y=>bI M y),m0) :=
 ⟨by simp;omega,fun q _=>by simp⟩
theorem UnionI.step {z v:γ} {M:List (κ × β)} {m0:List (κ × γ)} {s:Nat × (κ→Bool) × List (κ × γ)} (h:UnionI ok z v M m0 s) {y:κ} {k:Nat} (hy:ok y=true) (hM:bI M y=true) (hk:k<s.1) :
  UnionI ok z v M m0 (k,(fun q=>s.2.1 q && !decide (q=y)),(y,v)::s.2.2):=by
 refine⟨by have:=h.len;simp only[List.length_cons];omega,fun q hq=>?_⟩
 obtain⟨h1,h2⟩:=h.val q hq
 simp only[e5,dH,h1,h2]
 by_cases e:y=q
 ·subst e
  simp[hM]
 ·have e':¬q=y:=fun h=>e h.symm
  simp[e,e']
theorem UnionI.done {z v:γ} {M:List (κ × β)} {m0:List (κ × γ)} {s:Nat × (κ→Bool) × List (κ × γ)} (h:UnionI ok z v M m0 s) (hno:∀y,ok y=true→s.2.1 y=false):∀q,ok q=true→bi z s.2.2 q=bi z (i4 v M m0) q∧bI s.2.2 q=bI (i4 v M m0) q:=fun q hq=>by
 obtain⟨h1,h2⟩:=h.val q hq
 rw[kz,ky,h1,h2,hno q hq]
 simp
structure DiffI (ok:κ→Bool) (z:γ) (M:List (κ × β)) (m0:List (κ × γ)) (s:Nat × (κ→Bool) × List (κ × γ)):Prop where
 val:∀q,ok q=true→bi z s.2.2 q=(if(bI M q && !s.2.1 q)=true then z else bi z m0 q)∧bI s.2.2 q=(!(bI M q && !s.2.1 q)&&bI m0 q)
theorem DiffI.start {z:γ} {M:List (κ × β)} {m0:List (κ × γ)} {k:Nat}:DiffI ok z M m0 (k,(fun y=>bI M y),m0):=⟨fun q _=>by simp⟩
theorem DiffI.step {z:γ} {M:List (κ × β)} {m0:List (κ × γ)} {s:Nat × (κ→Bool) × List (κ × γ)} (h:DiffI ok z M m0 s) {y:κ} {k:Nat} (hy:ok y=true) (hM:bI M y=true) :
  DiffI ok z M m0 (k,(fun q=>s.2.1 q && !decide (q=y)),lr s.2.2 y):=by
 refine⟨fun q hq=>?_⟩
 obtain⟨h1,h2⟩:=h.val q hq
 simp only[mget_del,mhas_del,h1,h2]
 by_cases e:q=y
 ·subst e;simp[hM]
 ·simp[e]
theorem DiffI.done {z:γ} {M:List (κ × β)} {m0:List (κ × γ)} {s:Nat × (κ→Bool) × List (κ × γ)} (h:DiffI ok z M m0 s) (hno:∀y,ok y=true→s.2.1 y=false):∀q,ok q=true→bi z s.2.2 q=bi z (diffV M m0) q∧bI s.2.2 q=bI (diffV M m0) q:=fun q hq=>by
 obtain⟨h1,h2⟩:=h.val q hq
 unfold diffV
 rw[gt z (fun x => !bI M x),gr (fun x => !bI M x),h1,h2,hno q hq]
 cases bI M q <;> simp
structure DropI (ok:κ→Bool) (z:β) (c:κ→Bool) (M:List (κ × β)) (s:Nat × (κ→Bool) × List (κ × β)):Prop where
 val:∀q,ok q=true→bi z s.2.2 q=(if(bI M q && !s.2.1 q&&c q)=true then z else bi z M q)∧bI s.2.2 q=(!(bI M q && !s.2.1 q&&c q)&&bI M q)
theorem DropI.start {z:β} {c:κ→Bool} {M:List (κ × β)} {k:Nat}:DropI ok z c M (k,(fun y=>bI M y),M):=⟨fun q _=>by simp⟩
theorem DropI.keep {z:β} {c:κ→Bool} {M:List (κ × β)} {s:Nat × (κ→Bool) × List (κ × β)} (h:DropI ok z c M s) {y:κ} {k:Nat} (hc:c y=false):DropI ok z c M (k,(fun q=>s.2.1 q && !decide (q=y)),s.2.2):=by
 refine⟨fun q hq=>?_⟩
 obtain⟨h1,h2⟩:=h.val q hq
 simp only[h1,h2]
 by_cases e:q=y
 ·subst e;simp[hc]
 ·simp[e]
theorem DropI.done {z:β} {c:κ→Bool} {M:List (κ × β)} {s:Nat × (κ→Bool) × List (κ × β)} (h:DropI ok z c M s) (hno:∀y,ok y=true→s.2.1 y=false):∀q,ok q=true→bi z s.2.2 q=bi z (M.filter fun p => !c p.1) q∧bI s.2.2 q=bI (M.filter fun p => !c p.1) q:=fun q hq=>by
 obtain⟨h1,h2⟩:=h.val q hq
 rw[gt z (fun x => !c x),gr (fun x => !c x),h1,h2,hno q hq]
 cases hm:bI M q with
 | true=>cases c q <;> simp
 | false=>rw[lH hm];cases c q <;> simp
structure CollI (ok:κ→Bool) (M:List (κ × Bool)) (s:Nat × (κ→Bool) × List κ):Prop where
 len:s.2.2.length+s.1≤M.length
 nd:s.2.2.Nodup
 val:∀q,q∈s.2.2↔ok q=true∧bI M q=true∧s.2.1 q=false∧bi false M q=true
theorem CollI.start {M:List (κ × Bool)} {k:Nat} (hk:k≤M.length):CollI ok M (k,(fun y=>bI M y),[]) :=
 ⟨by simpa using hk,List.Pairwise.nil,fun q=>by
  simp only[List.not_mem_nil,false_iff]
  intro h
  rw[h.2.1]at h
  exact absurd h.2.2.1 (by simp)⟩
theorem CollI.keep {M:List (κ × Bool)} {s:Nat × (κ→Bool) × List κ} (h:CollI ok M s) {y:κ} {k:Nat} (hk:k<s.1) (hv:bi false M y=false):CollI ok M (k,(fun q=>s.2.1 q && !decide (q=y)),s.2.2):=by
 refine⟨by have:=h.len;simp only;omega,h.nd,fun q=>?_⟩
 rw[h.val q]
 by_cases e:q=y
 ·subst e;simp[hv]
 ·simp[e]
end
open Go.RowKit (Below)
section
variable {β γ : Type} {sel : β → List γ} {ic : γ → List Value} {wb : World} {Hb Hb' : World → Prop}
def Pv (ic:γ→List Value) (wb:World) (Hb:World→Prop) (h:Hd) (cs:List γ):Prop:=∀W,Below wb.heap.size wb W→Hb W→Rd W h.1 h.2.1 h.2.2 (aL ic cs)
def PvL (sel:β→List γ) (ic:γ→List Value) (wb:World) (Hb:World→Prop) (ys:List (Hd × β)):Prop:=∀y∈ys,Pv ic wb Hb y.1 (sel y.2)
theorem Pv.nil {cs:List γ} (h:cs=[]):Pv ic wb Hb (none,0,0) cs:=fun _ _ _=>Rd.nil (by subst h;rfl)
theorem Pv.cut {cells:γ→List Value} {sz:Nat} (hc:∀x,(cells x).length=sz) {A:Option Addr} {n c:Nat} {xs:List γ} {lo hi:Int} (_h0:0≤lo) (h1:lo≤hi) (h2:hi≤(n:Int)) (_hn:n=xs.length) (hp:Pv cells wb Hb (A,n,c) xs) :
  Pv cells wb Hb ((if c=lo.toNat then A else A.map (fun x=>x.add (lo.toNat*sz))),hi.toNat-lo.toNat,c-lo.toNat) ((xs.drop lo.toNat).take (hi.toNat-lo.toNat)):=fun W hb hh=>by
 have:=(hp W hb hh).cut (sz:=sz) (l:=lo.toNat) (h:=hi.toNat) (by omega) (by show hi.toNat≤n;omega)
 rw[e6 hc,gy hc]at this
 exact this
theorem Pv.mono {h:Hd} {cs:List γ} (hp:Pv ic wb Hb h cs) (hi:∀W,Below wb.heap.size wb W→Hb' W→Hb W):Pv ic wb Hb' h cs:=fun W hb hh=>hp W hb (hi W hb hh)
theorem PvL.mono {ys:List (Hd × β)} (hp:PvL sel ic wb Hb ys) (hi:∀W,Below wb.heap.size wb W→Hb' W→Hb W):PvL sel ic wb Hb' ys:=fun y hy=>(hp y hy).mono hi
theorem PvL.nil:PvL sel ic wb Hb []:=fun y hy=>by cases hy
theorem PvL.cons {y:Hd × β} {ys:List (Hd × β)} (h1:Pv ic wb Hb y.1 (sel y.2)) (h2:PvL sel ic wb Hb ys):PvL sel ic wb Hb (y::ys):=fun z hz=>by
 rcases List.mem_cons.1 hz with rfl|hz
 ·exact h1
 ·exact h2 z hz
theorem PvL.set {y:Hd × β} {ys:List (Hd × β)} (j:Nat) (h:PvL sel ic wb Hb ys) (hv:Pv ic wb Hb y.1 (sel y.2)):PvL sel ic wb Hb (ys.set j y):=fun z hz=>by
 rcases List.mem_or_eq_of_mem_set hz with hz|rfl
 ·exact h z hz
 ·exact hv
theorem NestP.nil:NestP sel ([]:List (Hd × β)) []:=⟨E,fun y hy=>by cases hy⟩
theorem NestP.zip {ys:List (Hd × β)} {xs:List β} (h:NestP sel ys xs):ys=(ys.map Prod.fst).zip xs:=by
 rw[←h.eq]
 clear h
 induction ys with
 | nil=>rfl
 | cons y ys ih =>
  rw[List.map_cons,List.map_cons,List.zip_cons_cons,←ih]
theorem NestP.cons {y:Hd × β} {ys:List (Hd × β)} {xs:List β} (h1:y.1.2.1=(sel y.2).length) (h2:NestP sel ys xs):NestP sel (y::ys) (y.2::xs):=⟨by simp[h2.eq],fun z hz=>by
 rcases List.mem_cons.1 hz with rfl|hz
 ·exact h1
 ·exact h2.ln z hz⟩
theorem NestP.set {y:Hd × β} {ys:List (Hd × β)} {xs:List β} (j:Nat) (h:NestP sel ys xs) (hv:y.1.2.1=(sel y.2).length) {x:β} (hx:y.2=x):NestP sel (ys.set j y) (xs.set j x):=⟨by rw[List.map_set,h.eq,hx],fun z hz=>by
 rcases List.mem_or_eq_of_mem_set hz with hz|rfl
 ·exact h.ln z hz
 ·exact hv⟩
variable [Inhabited β] [Inhabited γ]
omit [Inhabited γ] in
theorem PvL.get {ys:List (Hd × β)} {xs:List β} (h:PvL sel ic wb Hb ys) (hP:NestP sel ys xs) {i:Int} (h0:0≤i) (h1:i<(xs.length:Int)):Pv ic wb Hb ((rdL ys i).1.1,(sel (rdL xs i)).length,(rdL ys i).1.2.2) (sel (rdL xs i)):=by
 have hl:xs.length=ys.length:=hP.hn E
 have h2:=hP.len h0 h1
 have h3:=h _ (ly (xs:=ys) h0 (by omega))
 rw[hP.snd i]at h3
 intro W hb hh
 have h4:=h3 W hb hh
 rw[h2]at h4
 exact h4
end
section
variable {w0 : World} {L : List Res}
theorem Ext.addNo {W:World} (h:Ext w0 W L):Ext w0 W (L++[noR]):=h.snoc (p:=noR) trivial (fun b hb=>hb.elim) (fun i q _ b _ hb=>hb.elim)
theorem Ext.pickL {W:World} (h:Ext w0 W L) (is:List Nat) {ps:List Res} (hnd:decide is.Nodup=true) (hp:is.map (fun i=>L[i]?)=ps.map some):Ext w0 W ps:=by
 have hnd:=of_decide_eq_true hnd
 have hget:∀(k:Nat) (s:Res),ps[k]? = some s→∃i,is[k]? = some i∧L[i]? = some s:=by
  intro k s hk
  have h1:(ps.map some)[k]? = some (some s):=by rw[List.getElem?_map,hk];rfl
  rw[←hp,List.getElem?_map]at h1
  cases hi:is[k]? with
  | none=>rw[hi]at h1;cases h1
  | some i=>rw[hi]at h1;exact⟨i,E,by simpa using h1⟩
 refine⟨h.below,fun k s hk=>?_,fun k s hk=>?_,fun k l s s' hk hl hne=>?_⟩
 ·obtain⟨i,_,h2⟩:=hget k s hk;exact h.all i s h2
 ·obtain⟨i,_,h2⟩:=hget k s hk;exact h.new i s h2
 ·obtain⟨i,h1,h2⟩:=hget k s hk
  obtain⟨j,h3,h4⟩:=hget l s' hl
  refine h.sep i j s s' h2 h4 (fun e=>?_)
  subst e
  obtain⟨a1,a2⟩:=List.getElem?_eq_some_iff.1 h1
  obtain⟨b1,b2⟩:=List.getElem?_eq_some_iff.1 h3
  have hpw:=List.pairwise_iff_getElem.1 hnd
  rcases Nat.lt_trichotomy k l with h5|h5|h5
  ·exact hpw k l a1 b1 h5 (a2.trans b2.symm)
  ·exact hne h5
  ·exact hpw l k b1 a1 h5 (b2.trans a2.symm)
end
section
variable {r : Option Nat} {n : Nat} {P : Program} {ops : Array Oper} {Q : Exit → Act → World → Prop} {w0 : World} {L : List Res} {m : Nat} {tm : Nat → Value} {d : List Deferred} {l : List Oper} {e : Exit}
end
section
variable {r : Option Nat} {n : Nat} {P : Program} {ρ : Operand → Value} {w0 : World} {L : List Res}
variable {t : Option Tmp} {ty : TypeId} {pos : String} {af : Array Edge} {g : Option (Nat × Bool)}
variable {A : Option Addr} {k c : Nat} {cs : List Value}
end
section
variable {β γ : Type} {sel : β → List γ} {ic : γ → List Value} {wb : World} {Hb : World → Prop}
theorem PvL.sub {ys zs:List (Hd × β)} (h:PvL sel ic wb Hb ys) (hs:∀y∈zs,y∈ys):PvL sel ic wb Hb zs:=fun y hy=>h y (hs y hy)
theorem NestP.take {ys:List (Hd × β)} {xs:List β} (k:Nat) (h:NestP sel ys xs):NestP sel (ys.take k) (xs.take k):=⟨by rw[List.map_take,h.eq],fun y hy=>h.ln y (List.mem_of_mem_take hy)⟩
theorem NestP.drop {ys:List (Hd × β)} {xs:List β} (k:Nat) (h:NestP sel ys xs):NestP sel (ys.drop k) (xs.drop k):=⟨by rw[List.map_drop,h.eq],fun y hy=>h.ln y (List.mem_of_mem_drop hy)⟩
end
section
variable {r : Option Nat} {n : Nat} {P : Program} {ops : Array Oper} {Q : Exit → Act → World → Prop} {w0 : World} {L : List Res} {m : Nat} {tm : Nat → Value} {d : List Deferred}
variable {t : Tmp} {ty : TypeId} {pos : String} {af : Array Edge} {g : Option (Nat × Bool)} {rest : List Oper}
end
section
variable {r : Option Nat} {n : Nat} {P : Program} {ρ : Operand → Value} {w0 : World} {L : List Res}
variable {t : Option Tmp} {ty : TypeId} {pos : String} {af : Array Edge} {g : Option (Nat × Bool)}
end
open Go.RowKit (Below)
def Foc (L:List Res):List Nat→List Res→Prop
 | [],[]=>True
 | i::is,p::ps=>L[i]? = some p∧Foc L is ps
 | _,_=>False
def jM:List Res→List Nat→List Res→List Res
 | L,i::is,p::ps=>jM (L.set i p) is ps
 | L,_,_=>L
theorem Foc.c1 {L:List Res} {i:Nat} {p:Res} (h:L[i]? = some p):Foc L [i] [p]:=⟨h,trivial⟩
theorem Foc.c2 {L:List Res} {i j:Nat} {p q:Res} (h:L[i]? = some p) (h2:L[j]? = some q):Foc L [i,j] [p,q]:=⟨h,h2,trivial⟩
theorem Foc.len {L:List Res}:∀{is:List Nat} {ps:List Res},Foc L is ps→ps.length=is.length
 | [],[],_=>rfl
 | i::is,p::ps,h=>by simp[h.2.len]
 | [],p::ps,h=>h.elim
 | i::is,[],h=>h.elim
theorem Foc.get {L:List Res}:∀{is:List Nat} {ps:List Res},Foc L is ps→∀(j:Nat) (p:Res),ps[j]? = some p→∃i,is[j]? = some i∧L[i]? = some p
 | [],[],_,j,p,h=>by simp at h
 | i::is,p::ps,h,0,q,hq=>by
  simp at hq
  subst hq
  exact⟨i,E,h.1⟩
 | i::is,p::ps,h,j+1,q,hq=>by
  obtain⟨k,h1,h2⟩:=h.2.get j q (by simpa using hq)
  exact⟨k,by simpa using h1,h2⟩
theorem ir:∀(is:List Nat) (ps:List Res) (L:List Res),(jM L is ps).length=L.length
 | i::is,p::ps,L=>by
  show(jM (L.set i p) is ps).length=_
  rw[ir is ps,List.length_set]
 | [],_,_=>by unfold jM;rfl
 | _::_,[],_=>by unfold jM;rfl
theorem ke:∀(is:List Nat) (ps:List Res) (L:List Res) (k:Nat) (q:Res),ps.length=is.length→(jM L is ps)[k]? = some q→(∃j:Nat,is[j]? = some k∧ps[j]? = some q)∨(k∉is∧L[k]? = some q)
 | i::is,p::ps,L,k,q,hl,h=>by
  change (jM (L.set i p) is ps)[k]? = some q at h
  rcases ke is ps (L.set i p) k q (by simpa using hl) h with⟨j,h1,h2⟩|⟨h1,h2⟩
  ·exact .inl ⟨j+1,by simpa using h1,by simpa using h2⟩
  ·rw[List.getElem?_set]at h2
   by_cases e:i=k
   ·subst e
    rw[if_pos E]at h2
    split at h2
    ·exact .inl ⟨0,E,h2⟩
    ·cases h2
   ·rw[if_neg e]at h2
    refine .inr ⟨?_,h2⟩
    rw[List.mem_cons]
    rintro(e' | e')
    ·exact e e'.symm
    ·exact h1 e'
 | [],[],L,k,q,_,h=>.inr ⟨by simp,by unfold jM at h;exact h⟩
 | [],_::_,_,_,_,hl,_=>by simp at hl
 | _::_,[],_,_,_,hl,_=>by simp at hl
theorem nd_ne {is:List Nat} (h:is.Nodup) {j k:Nat} {a b:Nat} (hj:is[j]? = some a) (hk:is[k]? = some b) (hne:j≠k):a≠b:=by
 obtain⟨h1,rfl⟩:=List.getElem?_eq_some_iff.1 hj
 obtain⟨h2,rfl⟩:=List.getElem?_eq_some_iff.1 hk
 rw[List.Nodup,List.pairwise_iff_getElem]at h
 rcases Nat.lt_or_gt_of_ne hne with h3|h3
 ·exact h j k h1 h2 h3
 ·exact(h k j h2 h1 h3).symm
section
variable {w0 : World} {L : List Res}
theorem Ext.focusL {W:World} (h:Ext w0 W L) {is:List Nat} {ps:List Res} (hF:Foc L is ps) (nd:is.Nodup):Ext w0 W (gk L is::ps) where
 below:=h.below
 all k q hq:=by
  cases k with
  | zero=>cases hq;exact⟨fun j p _ hp=>h.all j p hp,fun j k p q _ _ hp hq hne=>h.sep j k p q hp hq hne⟩
  | succ k=>obtain⟨i,_,hi⟩:=hF.get k q (by simpa using hq);exact h.all i q hi
 new k q hq b hb:=by
  cases k with
  | zero=>cases hq;obtain⟨j,p',_,hp',hd⟩:=hb;exact h.new j p' hp' b hd
  | succ k=>obtain⟨i,_,hi⟩:=hF.get k q (by simpa using hq);exact h.new i q hi b hb
 sep k l q q' hq hq' hne b hb hb':=by
  cases k with
  | zero =>
   cases l with
   | zero=>exact hne E
   | succ l =>
    cases hq
    obtain⟨i,hi1,hi⟩:=hF.get l q' (by simpa using hq')
    obtain⟨j,p',hj,hp',hd⟩:=hb
    exact h.sep j i _ _ hp' hi (fun e=>hj (e▸List.mem_of_getElem? hi1)) b hd hb'
  | succ k =>
   obtain⟨i,hi1,hi⟩:=hF.get k q (by simpa using hq)
   cases l with
   | zero =>
    cases hq'
    obtain⟨j,p',hj,hp',hd⟩:=hb'
    exact h.sep i j _ _ hi hp' (fun e=>hj (e▸List.mem_of_getElem? hi1)) b hb hd
   | succ l =>
    obtain⟨i',hi1',hi'⟩:=hF.get l q' (by simpa using hq')
    exact h.sep i i' _ _ hi hi' (nd_ne nd hi1 hi1' (fun e=>hne (by rw[e]))) b hb hb'
theorem Ext.unfocusL {W W2:World} (h:Ext w0 W L) {is:List Nat} {ps ps' X:List Res} (hF:Foc L is ps) (nd:is.Nodup) (hl:ps'.length=is.length) (h2:Ext w0 W2 (gk L is::(ps'++X))):Ext w0 W2 (jM L is ps'++X):=by
 have hA:∀(j:Nat) (q:Res),ps'[j]? = some q→(gk L is::(ps'++X))[j+1]? = some q:=fun j q hq=>by
  rw[List.getElem?_cons_succ,List.getElem?_append_left (List.getElem?_eq_some_iff.1 hq).1]
  exact hq
 have hC:∀(j:Nat) (q:Res),X[j]? = some q→(gk L is::(ps'++X))[ps'.length+j+1]? = some q:=fun j q hq=>by
  rw[List.getElem?_cons_succ,List.getElem?_append_right (by omega),Nat.add_sub_cancel_left]
  exact hq
 have hget:∀(k:Nat) (q:Res),(jM L is ps'++X)[k]? = some q→(∃j:Nat,is[j]? = some k∧ps'[j]? = some q)∨(k∉is∧L[k]? = some q)∨(L.length≤k∧X[k-L.length]? = some q):=by
  intro k q hq
  by_cases hk:k<L.length
  ·rw[List.getElem?_append_left (by rw[ir];exact hk)]at hq
   rcases ke is ps' L k q hl hq with h3|h3
   ·exact .inl h3
   ·exact .inr (.inl h3)
  ·rw[List.getElem?_append_right (by rw[ir];omega),ir]at hq
   exact .inr (.inr ⟨by omega,hq⟩)
 have hr:∀(k:Nat) (q:Res) (b:Nat),k∉is→L[k]? = some q→q.dom b→(gk L is).dom b:=fun k q b hk hq hb=>⟨k,q,hk,hq,hb⟩
 refine⟨h2.below,fun k q hq=>?_,fun k q hq b hb=>?_,fun k l q q' hq hq' hne b hb hb'=>?_⟩
 ·rcases hget k q hq with⟨j,_,h4⟩|⟨h3,h4⟩|⟨h3,h4⟩
  ·exact h2.all _ q (hA j q h4)
  ·exact(h2.all 0 _ E).1 k q h3 h4
  ·exact h2.all _ q (hC _ q h4)
 ·rcases hget k q hq with⟨j,_,h4⟩|⟨h3,h4⟩|⟨h3,h4⟩
  ·exact h2.new _ q (hA j q h4) b hb
  ·exact h.new k q h4 b hb
  ·exact h2.new _ q (hC _ q h4) b hb
 ·rcases hget k q hq with⟨j,h3,h4⟩|⟨h3,h4⟩|⟨h3,h4⟩ <;> rcases hget l q' hq' with⟨j',h5,h6⟩|⟨h5,h6⟩|⟨h5,h6⟩
  ·exact h2.sep _ _ _ _ (hA j q h4) (hA j' q' h6) (fun e=>hne (by
    have e':j=j':=by omega
    subst e'
    rw[h3]at h5
    exact Option.some.inj h5)) b hb hb'
  ·exact h2.sep _ 0 _ _ (hA j q h4) E (by omega) b hb (hr l q' b h5 h6 hb')
  ·have:=(List.getElem?_eq_some_iff.1 h4).1
   exact h2.sep _ _ _ _ (hA j q h4) (hC _ q' h6) (by omega) b hb hb'
  ·exact h2.sep _ 0 _ _ (hA j' q' h6) E (by omega) b hb' (hr k q b h3 h4 hb)
  ·exact h.sep k l q q' h4 h6 hne b hb hb'
  ·exact h2.sep _ 0 _ _ (hC _ q' h6) E (by omega) b hb' (hr k q b h3 h4 hb)
  ·have:=(List.getElem?_eq_some_iff.1 h6).1
   exact h2.sep _ _ _ _ (hC _ q h4) (hA j' q' h6) (by omega) b hb hb'
  ·exact h2.sep _ 0 _ _ (hC _ q h4) E (by omega) b hb (hr l q' b h5 h6 hb')
  ·exact h2.sep _ _ _ _ (hC _ q h4) (hC _ q' h6) (by omega) b hb hb'
end
section
variable {r : Option Nat} {n : Nat} {P : Program} {ops : Array Oper} {Q : Exit → Act → World → Prop} {w0 : World} {L : List Res} {m : Nat} {tm : Nat → Value} {d : List Deferred}
variable {t : Tmp} {ty : TypeId} {pos : String} {af : Array Edge} {g : Option (Nat × Bool)} {rest : List Oper}
theorem f7 {α:Type} {f:FuncId} {c:Operand} {xs:List Operand} {us:Array TypeId} (is:List Nat) {ps:List Res} (fs vs cp:List Value) (φ:α→Prop) (val:α→Value) (ps':α→List Res) (res:α→List Res) (hF:Foc L is ps) (nd:is.Nodup)
  (hw:cZ ops m tm ⟨some t,.call ⟨.value c,xs.toArray,us⟩,ty,pos,af,g⟩=true) (hf:cx P f=true) (hcv:opv m tm c=.func (.func f) fs.toArray cp.toArray) (ha:xs.map (opv m tm)=vs) (hl:∀x,(ps' x).length=is.length)
  (hc:∀W,Ext w0 W (gk L is::ps)→Calls P f (fs++(vs++cp)).toArray W fun e W'=>∃x:α,φ x∧e=.returned (val x)∧Ext w0 W' (gk L is::(ps' x++res x)))
  (h:∀x,φ x→OX r n P ops Q w0 (jM L is (ps' x)++res x) rest m (upd tm t (val x)) d):OX r n P ops Q w0 L (⟨some t,.call ⟨.value c,xs.toArray,us⟩,ty,pos,af,g⟩::rest) m tm d:=fun W hW=>by
 unfold OL
 rw[a7,if_pos hw]
 refine⟨fun _ _=>trivial,?_⟩
 show Oper.uponIn (Fw r) n P _ _ _ Q ((Oper.semAt r (act m tm d).eval _).run P W)
 have e:(execOp (opv m tm) ⟨some t,.call ⟨.value c,xs.toArray,us⟩,ty,pos,af,g⟩).run P W=.ok (.enter f (fs++(xs.map (opv m tm)++cp)).toArray) W:=by
  simp[execOp,resolve,hcv,Deferred.ofValue,invoke,f5 hf]
 rw[cr (by intro c h;cases h),bW,e,ha]
 refine⟨(fun hd=>by cases hd),?_⟩
 refine(k2 (hc W (hW.focusL hF nd))).mono ?_
 rintro e W' ⟨x,hφ,rfl,hx⟩
 show OL r n P ops Q rest ((act m tm d).put (some t) (val x)) W'
 rw[cj]
 exact h x hφ W' (hW.unfocusL hF nd (hl x) hx)
end
open Go.RowKit (Below)
section
variable {r : Option Nat} {n : Nat} {P : Program} {ρ : Operand → Value} {w0 : World} {L : List Res}
variable {t : Option Tmp} {ty : TypeId} {pos : String} {af : Array Edge} {g : Option (Nat × Bool)} {C : World → Prop}
end
section
variable {r : Option Nat} {n : Nat} {P : Program} {ops : Array Oper} {Q : Exit → Act → World → Prop} {w0 : World} {L : List Res} {m : Nat} {tm : Nat → Value} {d : List Deferred}
variable {t : Tmp} {ty : TypeId} {pos : String} {af : Array Edge} {g : Option (Nat × Bool)} {rest : List Oper}
theorem jn (i:Nat) {β:Type} {cells:β→List Value} {xs:List β} {A:Option Addr} {cc k sz lo:Nat} {e:TypeId} (hc:∀x,(cells x).length=sz) (hL:L[i]? = some (bR A cc e sz k (aL cells xs))) (hlo:lo≤k) {rst:List Oper} (h:OX r n P ops Q w0 (L.set i (bR A cc e sz lo (aL cells (xs.take lo)))) rst m tm d):OX r n P ops Q w0 L rst m tm d:=fun W hW=>by
 have hrow:(bR A cc e sz k (aL cells xs)).holds W:=hW.mem hL
 have hA0:A=none→lo=0:=by
  intro hA
  subst hA
  rcases hrow.2 with⟨h2,h3⟩|⟨g,cap,cur,hv,_⟩
  ·omega
  ·simp at hv
 refine h W (hW.tell i hL (fun h'=>?_) (fun b hb=>hb))
 have:=k7 h' hlo hA0
 rw[gy hc]at this
 exact this
end
open Go.RowKit (Below)
section
variable {r : Option Nat} {n : Nat} {P : Program} {ρ : Operand → Value} {t : Option Tmp} {ty : TypeId} {pos : String} {af : Array Edge} {g : Option (Nat × Bool)} {C : World → Prop}
theorem kJ {x y:Operand} {a:Addr} {u u':TypeId} (hu:P.underlying u=some (.pointer (P.pointee u))) (hx:ρ x=.pointer (some a)) (hy:ρ y=.pointer none):OpY r n P ⟨t,.binOp .neq u x y u',ty,pos,af,g⟩ ρ C C (.bool true) :=
 aI (by intro c h;cases h) (fun W _=>by simp[execOp,hx,hy,go_sem,run_neq_pointer_nil W u (some a) hu])
theorem kH {x y:Operand} {u u':TypeId} (hu:P.underlying u=some (.pointer (P.pointee u))) (hx:ρ x=.pointer none) (hy:ρ y=.pointer none):OpY r n P ⟨t,.binOp .neq u x y u',ty,pos,af,g⟩ ρ C C (.bool false) :=
 aI (by intro c h;cases h) (fun W _=>by simp[execOp,hx,hy,go_sem,run_neq_pointer_nil W u none hu])
end
def ptrO {α:Type} (o:Option α) (b:Nat):Value:=match o with
 | none=>.pointer none
 | some _=>.pointer (some ⟨b,0,none⟩)
def optR {α:Type} (o:Option α) (f:α→Res):Res:=match o with
 | none=>noR
 | some a=>f a
def optP {α:Type} (o:Option α) (f:α→Prop):Prop:=match o with
 | none=>True
 | some a=>f a
open Go.RowKit (Below)
section
variable {r : Option Nat} {n : Nat} {P : Program} {ρ : Operand → Value} {w0 : World} {L : List Res}
variable {t : Option Tmp} {ty : TypeId} {pos : String} {af : Array Edge} {g : Option (Nat × Bool)} {C : World → Prop}
end
section
variable {P : Program} {m : Nat} {tm : Nat → Value} {w0 : World} {L : List Res}
end
open Go.RowKit (Below)
section
variable {r : Option Nat} {n : Nat} {P : Program} {ops : Array Oper} {Q : Exit → Act → World → Prop}
def capQ (w0:World) (L:List Res) (a:Act) (dst:Option Tmp) (G:Value→List Res→Prop):Exit→Act→World→Prop:=fun e a' W =>
 e=.normal∧∃v L1,a'=a.put dst v∧G v L1∧Ext w0 W (L++L1)
def QWq (r:Option Nat) (n:Nat) (P:Program) (ops:Array Oper) (w0:World) (L:List Res) (G:Value→List Res→Prop) (K:Act→Prop):Nat→List Oper→Act→Prop
 | _,[],a=>K a
 | 0,o::rest,a=>Region.wanted o (yielded ops a.tmps)=true∧(∀W,Ext w0 W L→o.wpIn (Fw r) n P a W (fun a' W'=>capQ w0 L a o.dst G .normal a' W') (capQ w0 L a o.dst G))∧QWg ops (fun o ρ v=>∀L2,OpY r n P o ρ (fun W=>Ext w0 W (L++L2)) (fun W=>Ext w0 W (L++L2)) v) K rest (a.put o.dst undef)
 | q+1,o::rest,a=>if Region.wanted o (yielded ops a.tmps)then ∃v,(∀L2,OpY r n P o a.eval (fun W=>Ext w0 W (L++L2)) (fun W=>Ext w0 W (L++L2)) v)∧QWq r n P ops w0 L G K q rest (a.put o.dst v)else QWq r n P ops w0 L G K q rest (a.put o.dst undef)
theorem qwq_vals {w0:World} {L:List Res} {G:Value→List Res→Prop} {K:Act→Prop}:∀(q:Nat) (l:List Oper) (i0:Nat) (a:Act),q<l.length→(∀j,j<l.length→l[j]? = ops[i0+j]?)→QWq r n P ops w0 L G K q l a →
  ∃(vals:Nat→Value) (acts:Nat→Act),acts 0=a∧(∀j,acts (j+1)=(acts j).put (dr ops (i0+j)) (vals j))∧vals q=undef ∧
   (∀o,ops[i0+q]? = some o→Region.wanted o (yielded ops (acts q).tmps)=true∧∀W,Ext w0 W L→o.wpIn (Fw r) n P (acts q) W (fun a' W'=>capQ w0 L (acts q) o.dst G .normal a' W') (capQ w0 L (acts q) o.dst G)) ∧
   (∀j o,j<l.length→j≠q→ops[i0+j]? = some o→(Region.wanted o (yielded ops (acts j).tmps)=true∧∀L2,OpY r n P o (acts j).eval (fun W=>Ext w0 W (L++L2)) (fun W=>Ext w0 W (L++L2)) (vals j))∨(Region.wanted o (yielded ops (acts j).tmps)=false∧vals j=undef)) ∧
   K (acts l.length):=by
 intro q
 induction q with
 | zero =>
  intro l i0 a hq hl h
  cases l with
  | nil=>simp at hq
  | cons o rest =>
   obtain⟨hw,hop,hrest⟩:=h
   have ho:ops[i0]? = some o:=by simpa using(hl 0 (by simp)).symm
   have hdst:dr ops i0=o.dst:=by simp[dr,ho]
   obtain⟨vals,acts,h0,h1,h2,h3⟩:=jm rest (i0+1) _ (fun j hj=>by
    have:=hl (j+1) (by simp;omega)
    simpa [Nat.add_assoc,Nat.add_comm 1 j]using this) hrest
   refine⟨fun|0=>undef|j+1=>vals j,fun|0=>a|j+1=>acts j,E,?_,E,?_,?_,h3⟩
   ·intro j
    cases j with
    | zero=>show acts 0=a.put (dr ops (i0+0)) undef;rw[h0,Nat.add_zero,hdst]
    | succ j=>show acts (j+1)=(acts j).put (dr ops (i0+(j+1))) (vals j);rw[h1 j];simp[Nat.add_assoc,Nat.add_comm 1 j]
   ·intro o' ho'
    rw[Nat.add_zero,ho]at ho';cases ho'
    exact⟨hw,hop⟩
   ·intro j o' hj hne ho'
    cases j with
    | zero=>exact absurd E hne
    | succ j=>exact h2 j o' (by simpa using hj) (by simpa [Nat.add_assoc,Nat.add_comm 1 j]using ho')
 | succ q ih =>
  intro l i0 a hq hl h
  cases l with
  | nil=>simp at hq
  | cons o rest =>
   have ho:ops[i0]? = some o:=by simpa using(hl 0 (by simp)).symm
   have hdst:dr ops i0=o.dst:=by simp[dr,ho]
   have hl':∀j,j<rest.length→rest[j]? = ops[i0+1+j]?:=fun j hj=>by
    have:=hl (j+1) (by simp;omega)
    simpa [Nat.add_assoc,Nat.add_comm 1 j]using this
   have key:∃v,((Region.wanted o (yielded ops a.tmps)=true∧∀L2,OpY r n P o a.eval (fun W=>Ext w0 W (L++L2)) (fun W=>Ext w0 W (L++L2)) v)∨(Region.wanted o (yielded ops a.tmps)=false∧v=undef))∧QWq r n P ops w0 L G K q rest (a.put o.dst v):=by
    unfold QWq at h
    by_cases hw:Region.wanted o (yielded ops a.tmps)=true
    ·rw[if_pos hw]at h
     obtain⟨v,h1,h2⟩:=h
     exact⟨v,.inl ⟨hw,h1⟩,h2⟩
    ·rw[if_neg hw]at h
     exact⟨undef,.inr ⟨by simpa using hw,E⟩,h⟩
   obtain⟨v,hv,hqq⟩:=key
   obtain⟨vals,acts,h0,h1,hu,hop,h2,h3⟩:=ih rest (i0+1) _ (by simpa using hq) hl' hqq
   refine⟨fun|0=>v|j+1=>vals j,fun|0=>a|j+1=>acts j,E,?_,hu,?_,?_,h3⟩
   ·intro j
    cases j with
    | zero=>show acts 0=a.put (dr ops (i0+0)) v;rw[h0,Nat.add_zero,hdst]
    | succ j=>show acts (j+1)=(acts j).put (dr ops (i0+(j+1))) (vals j);rw[h1 j];simp[Nat.add_assoc,Nat.add_comm 1 j]
   ·intro o' ho'
    exact hop o' (by simpa [Nat.add_assoc,Nat.add_comm 1 q]using ho')
   ·intro j o' hj hne ho'
    cases j with
    | zero =>
     have:o'=o:=by rw[Nat.add_zero,ho]at ho';cases ho';rfl
     subst this
     exact hv
    | succ j=>exact h2 j o' (by simpa using hj) (fun e=>hne (by omega)) (by simpa [Nat.add_assoc,Nat.add_comm 1 j]using ho')
theorem put_put (a:Act) (d:Option Tmp) (u v:Value):(a.put d u).put d v=a.put d v:=by
 cases d with
 | none=>rfl
 | some i =>
  show(⟨(a.tmps.setIfInBounds i u).setIfInBounds i v,a.defers⟩:Act)=⟨a.tmps.setIfInBounds i v,a.defers⟩
  congr 1
  apply Array.ext_getElem?
  intro j
  simp only[Array.getElem?_setIfInBounds]
  by_cases e:i=j <;> simp[e]
theorem put_size (a:Act) (d:Option Tmp) (v:Value):(a.put d v).tmps.size=a.tmps.size:=by
 cases d with
 | none=>rfl
 | some i=>simp[Act.put]
theorem iq (vals:Nat→Value) (a0:Act) (S:Nat→Bool):∀m,(stA ops vals a0 S m).tmps.size=a0.tmps.size
 | 0=>rfl
 | m+1=>by
  unfold stA
  split
  ·rw[put_size,iq vals a0 S m]
  ·exact iq vals a0 S m
theorem ie (vals:Nat→Value) (a0:Act) (S:Nat→Bool):∀m,(stA ops vals a0 S m).defers=a0.defers
 | 0=>rfl
 | m+1=>by
  unfold stA
  split
  ·rw[dR,ie vals a0 S m]
  ·exact ie vals a0 S m
theorem put_same {a b:Act} {d:Option Tmp} {u v:Value} (hs:a.tmps.size=b.tmps.size) (h:a.put d u=a.put d v):b.put d u=b.put d v:=by
 cases d with
 | none=>rfl
 | some i =>
  have h1:a.tmps.setIfInBounds i u=a.tmps.setIfInBounds i v:=congrArg Act.tmps h
  show(⟨b.tmps.setIfInBounds i u,b.defers⟩:Act)=⟨b.tmps.setIfInBounds i v,b.defers⟩
  congr 1
  apply Array.ext_getElem?
  intro j
  have h2:=congrArg (fun t=>t[j]?) h1
  simp only[Array.getElem?_setIfInBounds]at h2 ⊢
  by_cases e:i=j
  ·subst e
   by_cases hl:i<b.tmps.size
   ·simp[hl,hs]at h2 ⊢
    exact h2
   ·simp[hl]
  ·simp[e]
theorem k9 {o:Oper} {a b:Act} {W w0:World} {L:List Res} {G:Value→List Res→Prop} {K:Act→World→Prop} (hs:∀cs x,o.op ≠ .select cs x) (hd:∀c,o.op ≠ .defer c) (hev:∀x∈o.op.operands,a.eval x=b.eval x) (hsz:a.tmps.size=b.tmps.size) (_hdf:a.defers=b.defers)
  (h:o.wpIn (Fw r) n P a W (fun a' W'=>capQ w0 L a o.dst G .normal a' W') (capQ w0 L a o.dst G)) (hK:∀v L1 W',G v L1→Ext w0 W' (L++L1)→K (b.put o.dst v) W'):o.wpIn (Fw r) n P b W K (fG Q):=by
 refine⟨fun _ _=>by cases r <;> trivial,?_⟩
 have h2:=h.2
 have e:o.semAt r b.eval=o.semAt r a.eval:=by
  have e1:execOp b.eval o=execOp a.eval o:=execOp_congr o hs (fun x hx=>(hev x hx).symm)
  cases r with
  | none=>rw[Oper.semAt_none,Oper.semAt_none,e1]
  | some l=>rw[Oper.semAt_some l _ o hd,Oper.semAt_some l _ o hd,e1]
 have e0:(Fw r).round=r:=by cases r <;> rfl
 rw[e0]at h2 ⊢
 rw[e]
 have key:∀u W',capQ w0 L a o.dst G .normal (a.put o.dst u) W'→K (b.put o.dst u) W':=fun u W' hc=>by
  obtain⟨_,v,L1,hv,hG,hE⟩:=hc
  rw[put_same hsz hv]
  exact hK v L1 W' hG hE
 generalize (o.semAt r a.eval).run P W=res at h2 ⊢
 match res,h2 with
 | .ok (.value u) W',h2=>exact key u W' h2
 | .ok .skip W',h2=>exact key undef W' h2
 | .ok (.defer d') W',h2 =>
  obtain⟨_,v,L1,hv,_,_⟩:=h2
  have h9:=congrArg Act.defers hv
  rw[dR,dR]at h9
  exact absurd h9 (by simp)
 | .ok (.enter f args) W',h2 =>
  refine⟨h2.1,h2.2.mono ?_⟩
  rintro(_|_|_) w hw
  ·exact key _ _ hw
  ·exact absurd hw.1 (by intro h;cases h)
  ·obtain⟨a9,w9,h9⟩:=hw
   exact absurd h9.1 (by intro h;cases h)
 | .ok (.row row args) W',h2 =>
  refine⟨h2.1,?_⟩
  exact RowsIn.mono h2.2 (fun u w hw=>key u w hw)
 | .ok (.round l f tmps assign body) W',h2 =>
  refine⟨h2.1,h2.2.mono ?_⟩
  rintro(_|_|_) w hw
  ·exact key _ _ hw
  ·exact absurd hw.1 (by intro h;cases h)
  ·obtain⟨a9,w9,h9⟩:=hw
   exact absurd h9.1 (by intro h;cases h)
 | .halt (.panic u) W',h2=>exact absurd h2.1 (by intro h;cases h)
def lE (ops:Array Oper) (q k:Nat):Bool:=decide (q<k)&&(List.range k).all fun j=>decide (j≤q)||(match ops[q]?,ops[j]? with
 | some oq,some oj=>oq.apart ops oj
 | _,_=>false)
theorem k6 {l:List Oper} (q k:Nat) (G:Value→List Res→Prop) (hm:P.follows .mixedOrders=true) (hO:eE l.toArray=true) (hT:tailB l.toArray k=true) (hF:lE l.toArray q k=true) {id:Nat} {a0:Act} {W0 w0:World} {L:List Res}
  (h0:Ext w0 { W0 with drawn:=W0.drawn+1 } L)
  (hq:QWq r n P l.toArray w0 L G (fun a'=>∀v L1 W,G v L1→Ext w0 W (L++L1)→OL r n P l.toArray (fG Q) (l.drop k) (a'.put ((l[q]?).bind (·.dst)) v) W) q (l.take k) a0):(Code.region id l.toArray true).wpIn (Fw r) n P Q a0 W0:=by
 refine wpIn_mono (Q:=fG Q) ?_ (fun e a w h=>by obtain⟨rfl,h⟩:=h;exact h)
 refine wpIn_region_any hm ?_
 obtain⟨ops,hops⟩:∃ops,ops=l.toArray:=⟨_,E⟩
 rw[←hops]at hO hT hF hq ⊢
 unfold tailB at hT
 simp only[Bool.and_eq_true,Bool.or_eq_true,decide_eq_true_eq]at hT
 obtain⟨hkN,hT⟩:=hT
 unfold lE at hF
 simp only[Bool.and_eq_true,decide_eq_true_eq]at hF
 obtain⟨hqk,hF⟩:=hF
 have hqN:q<ops.size:=by omega
 obtain⟨oq,hoq⟩:∃o,ops[q]? = some o:=⟨_,Array.getElem?_eq_some_iff.2 ⟨hqN,E⟩⟩
 have hfar:∀j oj,q<j→j<k→ops[j]? = some oj→oq.apart ops oj=true:=fun j oj h1 h2 hoj=>by
  have:=List.all_eq_true.1 hF j (List.mem_range.2 h2)
  simp only[Bool.or_eq_true,decide_eq_true_eq,hoq,hoj]at this
  rcases this with h|h
  ·omega
  ·exact h
 have hlen:(l.take k).length=k:=by rw[hops]at hkN;simp at hkN;simp;omega
 obtain⟨vals,acts,ha0,hacts,hvq,hopq,hvals,hK⟩:=qwq_vals q (l.take k) 0 a0 (by rw[hlen];exact hqk) (fun j hj=>by
  rw[hlen]at hj
  rw[hops];simp[hj]) hq
 rw[hlen]at hvals hK
 simp only[Nat.zero_add]at hacts hvals hopq
 have hlq:(l[q]?).bind (·.dst)=oq.dst:=by
  rw[hops]at hoq
  have:l[q]? = some oq:=by simpa using hoq
  rw[this];rfl
 rw[hlq]at hK
 have hst:∀m,acts m=stA ops vals a0 (fun _=>true) m:=by
  intro m
  induction m with
  | zero=>exact ha0
  | succ m ih=>rw[hacts m,ih];simp[stA]
 have hdq:dr ops q=oq.dst:=by simp[dr,hoq]
 have hfr0:k=ops.size∨(List.range k).all (fun i=>[q].contains i||(List.range (k+1)).any fun j=>decide (i<j)&&tailB.Region.waitsB ops j i)=true∧((List.range ops.size).all fun t=>decide (t≤k)||tailB.Region.waitsB ops t (t-1))=true:=by
  rcases hT with h|h
  ·exact .inl h
  ·refine .inr ⟨?_,h.2⟩
   rw[List.all_eq_true]at *
   intro i hi
   rw[h.1 i hi,Bool.or_true]
 have hfr1:k=ops.size∨(List.range k).all (fun i=>([]:List Nat).contains i||(List.range (k+1)).any fun j=>decide (i<j)&&tailB.Region.waitsB ops j i)=true∧((List.range ops.size).all fun t=>decide (t≤k)||tailB.Region.waitsB ops t (t-1))=true:=by
  rcases hT with h|h
  ·exact .inl h
  ·refine .inr ⟨?_,h.2⟩
   rw[List.all_eq_true]at *
   intro i hi
   rw[h.1 i hi,Bool.or_true]
 have hsink:=sink (fr:=[]) hkN hfr1
 have main:∀(c:Nat) (listed:Array Bool) (W:World),Ext w0 W L→listed.size=ops.size→left listed k=c+1→listed.getD q false=false →
   (∀j oj,ops[j]? = some oj→listed.getD j false=true→∀e∈oj.after,Region.binds .any e=true→listed.getD e.on false=true) →
   (∀t,k≤t→t<ops.size→listed.getD t false=false) →
   wpAnyIn (Fw r) n P .any ops (fG Q) (c+1+(ops.size-k)) listed (stA ops vals a0 (fun j=>listed.getD j false) k) W:=by
  intro c
  induction c using Nat.strongRecOn with
  | _ c ih =>
  intro listed W hC hsz hc hunq hcl htl
  rw[show c+1+(ops.size-k)=(c+(ops.size-k))+1 by omega]
  have hrdy:∀j,j<ops.size→listed.getD j false=false→∃i,i∈Region.ready .any ops listed:=by
   intro j
   induction j using Nat.strongRecOn with
   | _ j ihj =>
    intro hj hun
    obtain⟨o,ho⟩:∃o,ops[j]? = some o:=⟨_,Array.getElem?_eq_some_iff.2 ⟨hj,E⟩⟩
    by_cases hall:∀e∈o.after,Region.binds .any e=true→listed.getD e.on false=true
    ·exact⟨j,mem_ready.2 ⟨by rw[bG (by omega) true false];exact hun,o,ho,hall⟩⟩
    ·have:∃e∈o.after,Region.binds .any e=true∧listed.getD e.on false=false:=by
      apply Classical.byContradiction
      intro hno
      exact hall fun e he hb=>by
       cases hl:listed.getD e.on false with
       | true=>rfl
       | false=>exact absurd ⟨e,he,hb,hl⟩ hno
     obtain⟨e,he,hb,hf⟩:=this
     have hlt:=(aJ hO ho).2.2.1 e he hb
     exact ihj e.on hlt (by omega) hf
  obtain⟨i1,hi1⟩:=hrdy q hqN hunq
  refine⟨fun h=>(by rw[h]at hi1;cases hi1),fun i hi=>?_⟩
  obtain⟨hun,o,ho,hall⟩:=mem_ready.1 hi
  have hiN:i<ops.size:=(Array.getElem?_eq_some_iff.1 ho).1
  have hun':=hun
  rw[bG (by omega) true false]at hun'
  have hik:i<k:=by
   rcases Nat.lt_or_ge i k with h|h
   ·exact h
   ·exact absurd hi (hsink listed hsz hcl htl (fun i hi=>absurd hi List.not_mem_nil) _ q E hqk hunq i h)
  have hl:=gb (by omega) hun' k hik
  have hcl':∀j oj,ops[j]? = some oj→(listed.setIfInBounds i true).getD j false=true→∀e∈oj.after,Region.binds .any e=true→(listed.setIfInBounds i true).getD e.on false=true:=fun j oj hoj hlj e he hb=>by
   rw[a4 (by omega)]at hlj ⊢
   by_cases e':j=i
   ·subst e'
    rw[ho]at hoj;cases hoj
    rw[hall e he hb];rfl
   ·have:(j==i)=false:=by simpa using e'
    rw[this,Bool.or_false]at hlj
    rw[hcl j oj hoj hlj e he hb];rfl
  have htl':∀t,k≤t→t<ops.size→(listed.setIfInBounds i true).getD t false=false:=fun t h1 h2=>by
   rw[a4 (by omega),htl t h1 h2]
   simp;omega
  by_cases hiq:i=q
  ·subst hiq
   rw[hoq]at ho;cases ho
   obtain⟨hwq,hwp⟩:=hopq oq hoq
   -- the frame as in the text's order
   have hlook:∀j,j<k→(listed.getD j false)≠decide (j<i)→∀d,dr ops j=some d→¬d∈oq.looksAt ops:=by
    intro j hj hne d hd hmem
    obtain⟨oj,hoj⟩:∃oj,ops[j]? = some oj:=⟨_,Array.getElem?_eq_some_iff.2 ⟨by omega,E⟩⟩
    have hdj:oj.dst=some d:=by simpa [dr,hoj]using hd
    rcases Nat.lt_trichotomy j i with h|h|h
    ·have hl:listed.getD j false=false:=by
      cases hl:listed.getD j false with
      | false=>rfl
      | true=>exact absurd (by rw[hl];simp[h]) hne
     rcases (aJ hO hoq).2.2.2 j oj h hoj with hap|⟨e,he,hb,hon⟩
     ·exact(Oper.apart_spec hap).1 d hdj hmem
     ·have:=hall e he hb
      rw[hon,hl]at this;cases this
    ·subst h
     exact absurd (by rw[hun'];simp) hne
    ·exact(Oper.apart_spec (hfar j oj h hj hoj)).2.2 d hdj hmem
   have hag:=eY (ops:=ops) vals a0 (fun x=>x∈oq.looksAt ops) (fun j=>listed.getD j false) (fun j=>decide (j<i)) k hlook
   have hlex:stA ops vals a0 (fun j=>decide (j<i)) k=acts i:=by
    rw[hst i]
    have h1:∀m,m≤i→stA ops vals a0 (fun j=>decide (j<i)) m=stA ops vals a0 (fun _=>true) m:=by
     intro m
     induction m with
     | zero=>intro _;rfl
     | succ m ih=>intro hm;simp only[stA];rw[ih (by omega)];simp;omega
    have h2:∀m,i≤m→stA ops vals a0 (fun j=>decide (j<i)) m=stA ops vals a0 (fun j=>decide (j<i)) i:=by
     intro m
     induction m with
     | zero =>
      intro h
      have:i=0:=by omega
      subst this;rfl
     | succ m ih =>
      intro hm
      by_cases e:i=m+1
      ·rw[e]
      ·simp only[stA]
       rw[if_neg (by simp;omega)]
       exact ih (by omega)
    rw[h2 k (by omega),h1 i (Nat.le_refl _)]
   rw[hlex]at hag
   obtain⟨hev,hwa⟩:=dV (ops:=ops) (o:=oq) (a:=stA ops vals a0 (fun j=>listed.getD j false) k) (b:=acts i) hag.1
   obtain⟨hsel,hdef,_,_⟩:=aJ hO hoq
   unfold wpOpIn
   simp only[hoq]
   rw[hwa,if_pos hwq]
   refine k9 (a:=acts i) hsel hdef (fun x hx=>(hev x hx).symm) (by rw[hst i,iq,iq]) (by rw[hst i,ie,ie]) (hwp W hC) ?_
   intro v L1 W' hG hE
   -- behind it
   have hvb:∀m,stA ops (fun j=>if j=i then v else vals j) a0 (fun _=>true) m=if m≤i then acts m else stA ops (fun j=>if j=i then v else vals j) a0 (fun _=>true) m:=by
    intro m
    split
    ·rename_i hm
     induction m with
     | zero=>exact ha0.symm
     | succ m ihm=>rw[hacts m,←ihm (by omega)];simp[stA];rw[if_neg (by omega)]
    ·rfl
   have hfin2:∀m,i<m→m≤k→stA ops (fun j=>if j=i then v else vals j) a0 (fun _=>true) m=(acts m).put oq.dst v:=by
    intro m
    induction m with
    | zero=>intro h;omega
    | succ m ihm =>
     intro h1 h2
     by_cases e:m=i
     ·subst e
      have:=hvb m
      rw[if_pos (Nat.le_refl _)]at this
      simp only[stA,if_true]
      rw[this,hdq,hacts m,hdq,hvq]
      exact(put_put _ _ _ _).symm
     ·have:=ihm (by omega) (by omega)
      simp only[stA,if_true]
      rw[this,if_neg e,hacts m]
      refine Act.put_comm _ _ _ (fun d hd hd'=>?_)
      obtain⟨om,hom⟩:∃om,ops[m]? = some om:=⟨_,Array.getElem?_eq_some_iff.2 ⟨by omega,E⟩⟩
      have hdm:om.dst=some d:=by simpa [dr,hom]using hd'
      exact(Oper.apart_spec (hfar m om (by omega) (by omega) hom)).2.1 d hd hdm
   have hvl:∀m,m≤k→stA ops (fun j=>if j=i then v else vals j) a0 (fun j=>(listed.setIfInBounds i true).getD j false) m=if m≤i then stA ops vals a0 (fun j=>listed.getD j false) m else(stA ops vals a0 (fun j=>listed.getD j false) m).put oq.dst v:=by
    intro m
    induction m with
    | zero=>intro _;simp;rfl
    | succ m ihm =>
     intro hm
     simp only[stA]
     rw[ihm (by omega),a4 (by omega)]
     rcases Nat.lt_trichotomy m i with h|h|h
     ·rw[if_pos (show m≤i by omega),if_pos (show m+1≤i by omega),if_neg (show ¬m=i by omega)]
      have:(m==i)=false:=by simp;omega
      rw[this,Bool.or_false]
     ·subst h
      rw[if_pos (Nat.le_refl m),if_neg (show ¬(m+1≤m) by omega)]
      simp[hun',hdq]
     ·rw[if_neg (show ¬m≤i by omega),if_neg (show ¬m+1≤i by omega),if_neg (show ¬m=i by omega)]
      have:(m==i)=false:=by simp;omega
      rw[this,Bool.or_false]
      split
      ·refine Act.put_comm _ _ _ (fun d hd hd'=>?_)
       obtain⟨om,hom⟩:∃om,ops[m]? = some om:=⟨_,Array.getElem?_eq_some_iff.2 ⟨by omega,E⟩⟩
       have hdm:om.dst=some d:=by simpa [dr,hom]using hd'
       exact(Oper.apart_spec (hfar m om (by omega) (by omega) hom)).2.1 d hd hdm
      ·rfl
   have hli:(listed.setIfInBounds i true).getD i false=true:=by rw[a4 (by omega)];simp
   have:=jN (r:=r) (n:=n) (P:=P) (Q:=Q) hops [i] (k:=k) hO hkN hfr0 (a0:=a0) (vals:=fun j=>if j=i then v else vals j)
    (acts:=stA ops (fun j=>if j=i then v else vals j) a0 (fun _=>true)) (C:=fun W=>Ext w0 W (L++L1)) (fun _=>E)
    (fun j o hj hne ho=>by
     have hji:j≠i:=fun h=>hne (by simp[h])
     simp only[if_neg hji]
     rcases Nat.lt_or_ge i j with h|h
     ·rw[hfin2 j h (by omega)]
      have hsame:=dV (ops:=ops) (o:=o) (a:=acts j) (b:=(acts j).put oq.dst v) (fun y hy=>(kb (acts j) oq.dst _ y (fun hc=>(Oper.apart_spec (hfar j o h hj ho)).1 y hc hy)).symm)
      obtain⟨hsel,hdef,_,_⟩:=aJ hO ho
      rw[←hsame.2]
      rcases hvals j o hj hji ho with⟨h1,h2⟩|h1
      ·exact .inl ⟨h1,gT hsel hdef (fun x hx=>hsame.1 x hx) (h2 L1)⟩
      ·exact .inr h1
     ·have:=hvb j
      rw[if_pos h]at this
      rw[this]
      rcases hvals j o hj hji ho with⟨h1,h2⟩|h1
      ·exact .inl ⟨h1,h2 L1⟩
      ·exact .inr h1)
    (fun W' hW'=>by
     rw[hfin2 k hqk (Nat.le_refl _)]
     exact hK v L1 W' hG hW')
    c (listed.setIfInBounds i true) W' hE (by simpa using hsz) (by omega) hcl' htl' (fun j hj=>by rw[List.mem_singleton.1 hj];exact hli)
   rw[hvl k (Nat.le_refl _),if_neg (by omega)]at this
   exact this
  ·have hlq:(listed.setIfInBounds i true).getD q false=false:=by
    rw[a4 (by omega),hunq]
    simp;omega
   obtain⟨c',rfl⟩:∃c',c=c'+1:=by
    have:left (listed.setIfInBounds i true) k≠0:=fun h0=>by
     have:=gS h0 q hqk
     rw[hlq]at this;cases this
    exact⟨c-1,by omega⟩
   refine i7 (r:=r) (C:=fun W=>Ext w0 W L) hO hkN hst hC hsz hcl hik hun ho hall ?_ (fun W' hC'=>?_)
   ·rcases hvals i o hik hiq ho with⟨h1,h2⟩|h1
    ·refine .inl ⟨h1,?_⟩
     have:=h2 []
     rw[List.append_nil]at this
     exact this
    ·exact .inr h1
   ·exact ih c' (by omega) (listed.setIfInBounds i true) W' hC' (by simpa using hsz) (by omega) hlq hcl' htl'
 have e1:left (Array.replicate ops.size false) k=k:=by
  unfold left
  rw[List.filter_eq_self.2 fun j hj=>?_]
  ·simp
  ·have:=List.mem_range.1 hj
   simp[show j<ops.size by omega]
 have hfin:=main (k-1) (Array.replicate ops.size false) _ h0 (by simp) (by rw[e1];omega) (by simp[hqN]) (fun j oj hoj hl=>by
  have:j<ops.size:=(Array.getElem?_eq_some_iff.1 hoj).1
  simp[this]at hl) (fun t _ h=>by simp[h])
 have e2:stA ops vals a0 (fun j=>(Array.replicate ops.size false).getD j false) k=a0:=by
  have:∀m,m≤k→stA ops vals a0 (fun j=>(Array.replicate ops.size false).getD j false) m=a0:=by
   intro m
   induction m with
   | zero=>intro _;rfl
   | succ m ih=>intro hm;simp only[stA];rw[ih (by omega)];simp[show m<ops.size by omega]
  exact this k (Nat.le_refl _)
 rw[show k-1+1+(ops.size-k)=ops.size by omega,e2]at hfin
 exact hfin
end
section
variable {r : Option Nat} {n : Nat} {P : Program} {ops : Array Oper} {Q : Exit → Act → World → Prop} {w0 : World} {L : List Res} {m : Nat} {tm : Nat → Value} {d : List Deferred}
variable {t : Tmp} {ty : TypeId} {pos : String} {af : Array Edge} {g : Option (Nat × Bool)} {l rest : List Oper} {G : Value → List Res → Prop} {q k : Nat} {all : List Oper}
def BX (r:Option Nat) (n:Nat) (P:Program) (ops:Array Oper) (Q:Exit→Act→World→Prop) (w0:World) (L:List Res) (G:Value→List Res→Prop) (q k:Nat) (all:List Oper) (i:Nat) (l:List Oper) (m:Nat) (tm:Nat→Value) (d:List Deferred):Prop :=
 QWq r n P ops w0 L G (fun a'=>∀v L1 W,G v L1→Ext w0 W (L++L1)→OL r n P ops (fG Q) (all.drop k) (a'.put ((all[q]?).bind (·.dst)) v) W) i l (act m tm d)
def KX (r:Option Nat) (n:Nat) (P:Program) (ops:Array Oper) (Q:Exit→Act→World→Prop) (w0:World) (L:List Res) (G:Value→List Res→Prop) (q k:Nat) (all:List Oper) (l:List Oper) (m:Nat) (tm:Nat→Value) (d:List Deferred):Prop :=
 QWg ops (fun o ρ v=>∀L2,OpY r n P o ρ (fun W=>Ext w0 W (L++L2)) (fun W=>Ext w0 W (L++L2)) v) (fun a'=>∀v L1 W,G v L1→Ext w0 W (L++L1)→OL r n P ops (fG Q) (all.drop k) (a'.put ((all[q]?).bind (·.dst)) v) W) l (act m tm d)
theorem lw (q k:Nat) (G:Value→List Res→Prop) {id:Nat} {l:List Oper} (hm:P.follows .mixedOrders=true) (hO:eE l.toArray=true) (hT:tailB l.toArray k=true) (hF:lE l.toArray q k=true)
  (h:BX r n P l.toArray Q w0 L G q k l q (l.take k) m tm d):CX r n P (.region id l.toArray true) Q w0 L m tm d :=
 fun _ hW=>k6 q k G hm hO hT hF hW.drawn h
theorem bx_y {i:Nat} {op:Op} {v:Value} (hw:cZ ops m tm ⟨some t,op,ty,pos,af,g⟩=true) (hy:∀L2,OpY r n P ⟨some t,op,ty,pos,af,g⟩ (opv m tm) (fun W=>Ext w0 W (L++L2)) (fun W=>Ext w0 W (L++L2)) v)
  (h:BX r n P ops Q w0 L G q k all i rest m (upd tm t v) d):BX r n P ops Q w0 L G q k all (i+1) (⟨some t,op,ty,pos,af,g⟩::rest) m tm d:=by
 unfold BX QWq
 rw[a7,if_pos hw,bW]
 refine⟨v,hy,?_⟩
 rw[cj]
 exact h
theorem ex_cap {L1:List Res} {v:Value} (h:G v L1):EX (capQ w0 L (act m tm d) (some t) G) .normal w0 (L++L1) m (upd tm t v) d:=fun _W hW=>⟨E,v,L1,(cj m tm d (some t) v).symm,h,hW⟩
theorem bx_q {op:Op} (hw:cZ ops m tm ⟨some t,op,ty,pos,af,g⟩=true) (hop:OX r n P ops (capQ w0 L (act m tm d) (some t) G) w0 L [⟨some t,op,ty,pos,af,g⟩] m tm d)
  (h:KX r n P ops Q w0 L G q k all rest m (upd tm t undef) d):BX r n P ops Q w0 L G q k all 0 (⟨some t,op,ty,pos,af,g⟩::rest) m tm d:=by
 unfold BX QWq
 refine⟨by rw[a7];exact hw,fun W hW=>?_,?_⟩
 ·have h1:=hop W hW
  unfold OL at h1
  rw[a7,if_pos hw]at h1
  exact Oper.wpIn_mono (fun a w h=>h) h1
 ·rw[cj]
  exact h
theorem kx_y {op:Op} {v:Value} (hw:cZ ops m tm ⟨some t,op,ty,pos,af,g⟩=true) (hy:∀L2,OpY r n P ⟨some t,op,ty,pos,af,g⟩ (opv m tm) (fun W=>Ext w0 W (L++L2)) (fun W=>Ext w0 W (L++L2)) v)
  (h:KX r n P ops Q w0 L G q k all rest m (upd tm t v) d):KX r n P ops Q w0 L G q k all (⟨some t,op,ty,pos,af,g⟩::rest) m tm d:=by
 unfold KX QWg
 rw[a7,if_pos hw,bW]
 refine⟨v,hy,?_⟩
 rw[cj]
 exact h
theorem kx_nil (hd:(all[q]?).bind (·.dst)=some t) (h:∀v L1,G v L1→OX r n P ops (fG Q) w0 (L++L1) (all.drop k) m (upd tm t v) d):KX r n P ops Q w0 L G q k all [] m tm d:=by
 unfold KX QWg
 intro v L1 W hG hW
 rw[hd,cj]
 exact h v L1 hG W hW
end
end Go.Proofs.Ytcleeakjghgbdaa
