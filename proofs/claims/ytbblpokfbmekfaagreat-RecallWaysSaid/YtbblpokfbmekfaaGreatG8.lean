import Derived.Test.YtbblpokfbmekfaaGreatGs
import Derived.WalkKit
import Derived.ProofKit
import Derived.OpenShut
import Derived.Carry
import Derived.ChangeOld
import Derived.RangeFuncNested
import Derived.Laws.OwnMore
import Derived.Lib.SliceRun
import Derived.Maps.OwnSet
import Derived.DeepKeys4
import Derived.Maps.Range
set_option linter.unusedVariables false
namespace Go.Proofs.YtbblpokfbmekfaaGreat
open Go.RowKit (Below)
inductive Lf where
 | i (k:IntKind)
 | b
 | sl (ks:List Lf)
def All2 (ok:Lf→Value→Prop):List Lf→List Value→Prop
 | [],[]=>True
 | k::ks,v::vs=>ok k v∧All2 ok ks vs
 | _,_=>False
def Lf.okN (W:World):Nat→Lf→Value→Prop
 | _,.i k,v=>∃n,v=.int k n∧(Lit.int k n).wf=true
 | _,.b,v=>∃x,v=.bool x
 | 0,.sl _,_=>False
 | m+1,.sl ks,v=>∃A n c,v=.slice A n c∧∃css:List (List Value),n=css.length∧n≤maxLen∧Rd W A n c css.flatten∧∀cs∈css,All2 (Lf.okN W m) ks cs
def flatB (P:Program):Nat→TypeId→List Lf→Bool
 | 0,_,_=>false
 | fuel+1,t,ks=>match P.underlying t with
  | some .bool=>match ks with | [.b]=>true|_=>false
  | some (.int k)=>match ks with | [.i k']=>decide (k'=k)|_=>false
  | some (.slice e)=>match ks with | [.sl ks']=>decide (ks'.length=P.cellsOf e)&&flatB P fuel e ks' | _=>false
  | some (.struct fs)=>(List.range ks.length).all (fun i=>fs.toList.any fun f=>decide (f.offset≤i)&&decide (i<f.offset+P.cellsOf f.type)) &&
    fs.toList.all fun f=>flatB P fuel f.type ((ks.drop f.offset).take (P.cellsOf f.type))
  | some (.array n e)=>(List.range ks.length).all (fun i=>(List.range n).any fun j=>decide (j*P.cellsOf e≤i)&&decide (i<j*P.cellsOf e+P.cellsOf e)) &&
    (List.range n).all fun j=>flatB P fuel e ((ks.drop (j*P.cellsOf e)).take (P.cellsOf e))
  | _=>false
theorem n5 {α β:Type} {f:α→Option β}:∀{l:List α} {r:List β},l.mapM f=some r→∀x∈l,∃y,f x=some y
 | [],_,_,x,hx=>by cases hx
 | a::l,r,h,x,hx=>by
  rw[List.mapM_cons]at h
  cases ha:f a with
  | none=>rw[ha]at h;cases h
  | some y =>
   rw[ha]at h
   cases hl:l.mapM f with
   | none=>rw[hl]at h;cases h
   | some r' =>
    rcases List.mem_cons.1 hx with rfl|hx
    ·exact⟨y,ha⟩
    ·exact n5 hl x hx
theorem qn {α:Type} {l:List α} {o n i:Nat} (h1:o≤i) (h2:i<o+n):((l.drop o).take n)[i-o]? = l[i]?:=by
 rw[List.getElem?_take,if_pos (by omega),List.getElem?_drop]
 congr 1
 omega
theorem listed {α:Type} {Q:Nat→α→Prop}:∀(n:Nat),(∀i,i<n→∃x,Q i x)→∃l:List α,l.length=n∧∀i x,l[i]? = some x→Q i x
 | 0,_=>⟨[],O,fun i x h=>by simp at h⟩
 | n+1,h=>by
  obtain⟨l,hl,hq⟩:=listed n (fun i hi=>h i (by omega))
  obtain⟨x,hx⟩:=h n (by omega)
  refine⟨l++[x],by simp[hl],fun i y hy=>?_⟩
  rcases Nat.lt_or_ge i l.length with hlt|hge
  ·rw[List.getElem?_append_left hlt]at hy;exact hq i y hy
  ·rw[List.getElem?_append_right hge]at hy
   by_cases e:i-l.length=0
   ·rw[e]at hy
    have hyx:x=y:=by simpa using hy
    subst hyx
    have:i=n:=by omega
    rw[this];exact hx
   ·rw[List.getElem?_eq_none (by simp;omega)]at hy;cases hy
theorem sH {α:Type} {C:Nat→α→Prop} {sz:Nat}:∀(css:List (List α)) (o:Nat),(∀i cs,css[i]? = some cs→cs.length=sz∧∀q v,cs[q]? = some v→C (o+(i*sz+q)) v)→∀j v,css.flatten[j]? = some v→C (o+j) v
 | [],_,_,j,v,h=>by simp at h
 | cs::css,o,hh,j,v,h=>by
  obtain⟨hl,hc⟩:=hh 0 cs O
  rw[List.flatten_cons]at h
  rcases Nat.lt_or_ge j cs.length with hlt|hge
  ·rw[List.getElem?_append_left hlt]at h
   have:=hc j v h
   rw[Nat.zero_mul,Nat.zero_add]at this
   exact this
  ·rw[List.getElem?_append_right hge]at h
   have:=sH css (o+sz) (fun i cs' hi=>by
    obtain⟨h1,h2⟩:=hh (i+1) cs' hi
    refine⟨h1,fun q v hq=>?_⟩
    have:=h2 q v hq
    rw[Nat.add_mul,Nat.one_mul]at this
    rw[show o+sz+(i*sz+q)=o+(i*sz+sz+q) by omega]
    exact this) (j-cs.length) v h
   rw[show o+sz+(j-cs.length)=o+j by omega]at this
   exact this
theorem All2.of {ok:Lf→Value→Prop}:∀{ks:List Lf} {vs:List Value},vs.length=ks.length→(∀(i:Nat) (k:Lf),ks[i]? = some k→∃v,vs[i]? = some v∧ok k v)→All2 ok ks vs
 | [],[],_,_=>trivial
 | [],_::_,h,_=>by simp at h
 | _::_,[],h,_=>by simp at h
 | k::ks,v::vs,h,hh=>by
  obtain⟨u,hu,hok⟩:=hh 0 k O
  have:v=u:=by simpa using hu
  subst this
  exact⟨hok,All2.of (by simpa using h) (fun i k hk=>by simpa using hh (i+1) k (by simpa using hk))⟩
theorem tv {H:Type} {enc:TypeId × Value→H} {P:Program} {w:World} {base:Nat} {sp:Nat→Bool} {held:Bool}:∀(fl m fuel:Nat) (t:TypeId) (ks:List Lf) (cs:List Value) (x:DataW H × List MemPlace),fl≤m→flatB P fl t ks=true→DataW.trod enc P w base sp held fuel t cs=some x →
  ∀(i:Nat) (k:Lf),ks[i]? = some k→∃v,cs[i]? = some v∧Lf.okN w m k v:=by
 intro fl
 induction fl with
 | zero=>intro m fuel t ks cs x _ h;cases h
 | succ fl ih =>
  intro m fuel t ks cs x hm h ht i k hk
  cases m with
  | zero=>omega
  | succ m =>
  cases fuel with
  | zero=>cases ht
  | succ fuel =>
   unfold flatB at h
   unfold DataW.trod at ht
   cases hu:P.underlying t with
   | none=>rw[hu]at h;cases h
   | some d =>
    rw[hu]at h ht
    cases d with
    | bool =>
     match ks,h with
     | [.b],_ =>
     cases i with
     | succ i=>simp at hk
     | zero =>
      obtain rfl:Lf.b=k:=by simpa using hk
      match cs,ht with
      | [.bool b],_=>exact⟨.bool b,O,b,O⟩
    | int q =>
     match ks,h with
     | [.i q0],h =>
     obtain rfl:=of_decide_eq_true h
     cases i with
     | succ i=>simp at hk
     | zero =>
      obtain rfl:Lf.i q0=k:=by simpa using hk
      match cs,ht with
      | [.int q' n],ht =>
       simp only at ht
       split at ht
       ·rename_i hc
        obtain⟨rfl,hw⟩:=hc
        exact⟨.int q' n,O,n,O,hw⟩
       ·cases ht
    | slice e =>
     match ks,h with
     | [.sl ks'],h =>
     simp only[Bool.and_eq_true,decide_eq_true_eq]at h
     obtain⟨hsz,hf⟩:=h
     cases i with
     | succ i=>simp at hk
     | zero =>
      obtain rfl:Lf.sl ks'=k:=by simpa using hk
      match cs,ht with
      | [.slice none 0 0],_=>exact⟨_,O,none,0,0,O,[],O,Nat.zero_le _,⟨fun j v hj=>by simp at hj,Nat.le_refl _⟩,fun cs hc=>by cases hc⟩
      | [.slice (some a) len cap],ht =>
       simp only at ht
       split at ht
       ·rename_i hc
        obtain⟨hb,hlc,hcm⟩:=hc
        cases hmm:((List.range len).mapM fun i=>(w.cells? base (a.add (i*P.cellsOf e)) (P.cellsOf e)).bind (DataW.trod enc P w base sp held fuel e))with
        | none=>rw[hmm]at ht;cases ht
        | some els =>
         obtain⟨css,hlen,hcss⟩:=listed (Q:=fun i cs=>(∃y,DataW.trod enc P w base sp held fuel e cs=some y)∧w.cells? base (a.add (i*P.cellsOf e)) (P.cellsOf e)=some cs) len (fun i hi=>by
          obtain⟨y,hy⟩:=n5 hmm i (List.mem_range.2 hi)
          cases hcc:w.cells? base (a.add (i*P.cellsOf e)) (P.cellsOf e)with
          | none=>rw[hcc]at hy;cases hy
          | some cs=>rw[hcc]at hy;exact⟨cs,⟨y,hy⟩,O⟩)
         have hall:∀(i:Nat) (cs:List Value),css[i]? = some cs→cs.length=P.cellsOf e∧∀q v,cs[q]? = some v→w.cell? (a.add (0+(i*P.cellsOf e+q)))=some v:=fun i cs hi=>by
          obtain⟨_,hcc⟩:=hcss i cs hi
          obtain⟨_,h1,h2⟩:=World.cells?_some hcc
          refine⟨h1,fun q v hq=>?_⟩
          have hlt:q<P.cellsOf e:=by rw[←h1];exact(List.getElem?_eq_some_iff.1 hq).1
          have:=h2 q hlt
          rw[hq,Addr.add_add]at this
          rw[Nat.zero_add]
          exact this
         refine⟨_,O,some a,len,cap,O,css,hlen.symm,Nat.le_trans hlc hcm,⟨fun j v hj=>?_,hlc⟩,fun cs hc=>?_⟩
         ·have:=sH (C:=fun k v=>w.cell? (a.add k)=some v) css 0 hall j v hj
          simp only[Nat.zero_add]at this
          have h0:0<css.flatten.length:=by
           have:=(List.getElem?_eq_some_iff.1 hj).1
           omega
          have t0:=sH (C:=fun k v=>w.cell? (a.add k)=some v) css 0 hall 0 _ (List.getElem?_eq_getElem h0)
          obtain⟨b,off,spot⟩:=a
          have hspot:spot=none:=World.cell?_spot (by simpa [Addr.add]using t0)
          subst hspot
          exact⟨b,off,O,by simpa [Addr.add_lit]using this⟩
         ·obtain⟨i,hi⟩:=List.getElem?_of_mem hc
          obtain⟨⟨y,hy⟩,_⟩:=hcss i cs hi
          exact All2.of (by rw[(hall i cs hi).1,hsz]) (ih m fuel e ks' cs y (by omega) hf hy)
       ·cases ht
    | struct fs =>
     simp only[Bool.and_eq_true]at h
     obtain⟨hc,hf⟩:=h
     have hi:i<ks.length:=(List.getElem?_eq_some_iff.1 hk).1
     obtain⟨f,hfm,hfi⟩:=List.any_eq_true.1 (List.all_eq_true.1 hc i (List.mem_range.2 hi))
     simp only[Bool.and_eq_true,decide_eq_true_eq]at hfi
     have hff:=List.all_eq_true.1 hf f hfm
     simp only at ht
     split at ht
     ·cases hmm:(fs.toList.mapM fun f=>DataW.trod enc P w base sp held fuel f.type ((cs.drop f.offset).take (P.cellsOf f.type)))with
      | none=>rw[hmm]at ht;cases ht
      | some ys =>
       obtain⟨y,hy⟩:=n5 hmm f hfm
       obtain⟨v,hv,hok⟩:=ih (m+1) fuel f.type _ _ y (by omega) hff hy (i-f.offset) k (by rw[qn hfi.1 hfi.2];exact hk)
       rw[qn hfi.1 hfi.2]at hv
       exact⟨v,hv,hok⟩
     ·cases ht
    | array n e =>
     simp only[Bool.and_eq_true]at h
     obtain⟨hc,hf⟩:=h
     have hi:i<ks.length:=(List.getElem?_eq_some_iff.1 hk).1
     obtain⟨j,hjm,hji⟩:=List.any_eq_true.1 (List.all_eq_true.1 hc i (List.mem_range.2 hi))
     simp only[Bool.and_eq_true,decide_eq_true_eq]at hji
     have hff:=List.all_eq_true.1 hf j hjm
     simp only at ht
     split at ht
     ·cases hmm:((List.range n).mapM fun i=>DataW.trod enc P w base sp held fuel e ((cs.drop (i*P.cellsOf e)).take (P.cellsOf e)))with
      | none=>rw[hmm]at ht;cases ht
      | some ys =>
       obtain⟨y,hy⟩:=n5 hmm j hjm
       obtain⟨v,hv,hok⟩:=ih (m+1) fuel e _ _ y (by omega) hff hy (i-j*P.cellsOf e) k (by rw[qn hji.1 hji.2];exact hk)
       rw[qn hji.1 hji.2]at hv
       exact⟨v,hv,hok⟩
     ·cases ht
    | _=>cases h
theorem All2.inv {ok:Lf→Value→Prop} {k:Lf} {ks:List Lf} {vs:List Value} (h:All2 ok (k::ks) vs):∃v us,vs=v::us∧ok k v∧All2 ok ks us:=by
 cases vs with
 | nil=>exact h.elim
 | cons v us=>exact⟨v,us,O,h.1,h.2⟩
theorem All2.inv0 {ok:Lf→Value→Prop} {vs:List Value} (h:All2 ok [] vs):vs=[]:=by
 cases vs with
 | nil=>rfl
 | cons v us=>exact h.elim
theorem okN_i {W:World} {m:Nat} {k:IntKind} {v:Value} (h:Lf.okN W m (.i k) v):∃n,v=.int k n∧(Lit.int k n).wf=true:=by cases m <;> exact h
theorem okN_sl {W:World} {m:Nat} {ks:List Lf} {v:Value} (h:Lf.okN W (m+1) (.sl ks) v):∃A n c,v=.slice A n c∧∃css:List (List Value),n=css.length∧n≤maxLen∧Rd W A n c css.flatten∧∀cs∈css,All2 (Lf.okN W m) ks cs:=h
def isAggB (P:Program) (t:TypeId):Bool:=match P.underlying t with
 | some (.struct _)=>true
 | some (.array _ _)=>true
 | _=>false
theorem open_flat {H:Type} {enc:TypeId × Value→H} {P:Program} {W:World} {base:Nat} {sp:Nat→Bool} {held:Bool} {r:Reach} {b0:Nat} {t:TypeId} {v:Value} {d:DataW H} {ps:List MemPlace} (ks:List Lf) (hf:flatB P 8 t ks=true) (ha:isAggB P t=true) (hsz:P.cellsOf t=ks.length)
  (hval:Value.okWide P W r b0 t v) (hd:DataW.Trod enc P W base sp held t v d ps):∃vs:List Value,v=.agg vs.toArray∧All2 (Lf.okN W 8) ks vs:=by
 obtain⟨cs,rfl,hcs⟩:∃cs,v=.agg cs∧cs.size=P.cellsOf t:=by
  unfold Value.okWide at hval
  unfold isAggB at ha
  split at ha
  ·rename_i hu
   rw[hu]at hval
   obtain⟨cs,h1,h2,_⟩:=hval
   exact⟨cs,h1,h2⟩
  ·rename_i hu
   rw[hu]at hval
   obtain⟨cs,h1,h2,_⟩:=hval
   exact⟨cs,h1,h2⟩
  ·cases ha
 obtain⟨fuel,hfu⟩:=hd
 refine⟨cs.toList,O,All2.of (by simp[hcs,hsz]) (tv 8 8 fuel t ks _ _ (Nat.le_refl _) hf hfu)⟩
theorem open_sl {H:Type} {enc:TypeId × Value→H} {P:Program} {W:World} {base:Nat} {sp:Nat→Bool} {held:Bool} {r:Reach} {b0:Nat} {t e:TypeId} {v:Value} {d:DataW H} {ps:List MemPlace} (ks:List Lf) (hu:P.underlying t=some (.slice e)) (hf:flatB P 8 t [.sl ks]=true)
  (hval:Value.okWide P W r b0 t v) (hd:DataW.Trod enc P W base sp held t v d ps):Lf.okN W 8 (.sl ks) v:=by
 obtain⟨a,len,cap,rfl⟩:=Go.WideShapes.okWide_slice hu hval
 obtain⟨fuel,hfu⟩:=hd
 obtain⟨v,hv,hok⟩:=tv 8 8 fuel t _ _ _ (Nat.le_refl _) hf hfu 0 _ O
 simp[Value.cells]at hv
 subst hv
 exact hok
theorem rows_with {α:Type} {cells:α→List Value} {ok:List Value→Prop} {R:α→Prop} (h:∀cs,ok cs→∃x,cells x=cs∧R x):∀(css:List (List Value)),(∀cs∈css,ok cs)→∃xs:List α,css.length=xs.length∧css.flatten=encL cells xs∧∀x∈xs,R x
 | [],_=>⟨[],O,O,fun x h=>by cases h⟩
 | cs::css,hh=>by
  obtain⟨x,rfl,hx⟩:=h cs (hh cs (List.mem_cons_self ..))
  obtain⟨xs,h1,h2,h3⟩:=rows_with h css (fun c hc=>hh c (List.mem_cons_of_mem _ hc))
  refine⟨x::xs,by simp[h1],by simp[encL]at h2 ⊢;exact h2,fun y hy=>?_⟩
  rcases List.mem_cons.1 hy with rfl|hy
  ·exact hx
  ·exact h3 y hy
theorem rg_i64 {n:Int} (h:(Lit.int .i64 n).wf=true):Rg_i64 n:=Go.bounds_i64 h
theorem rg_u8 {n:Int} (h:(Lit.int .u8 n).wf=true):Rg_u8 n:=Go.bounds_u8 h
open Go.RowKit (Below)
section
variable {w0 : World} {L : List Res}
def na (L:List Res) (S:List Nat):Res where
 dom b:=∃(j:Nat) (p:Res),j∉S∧L[j]? = some p∧p.dom b
 holds W:=(∀(j:Nat) (p:Res),j∉S→L[j]? = some p→p.holds W)∧∀(j k:Nat) (p q:Res),j∉S→k∉S→L[j]? = some p→L[k]? = some q→j≠k→∀b,p.dom b→¬q.dom b
 loc W W' h hs hh:=⟨fun j p hj hp=>p.loc W W' (fun b hb=>h b ⟨j,p,hj,hp,hb⟩) hs (hh.1 j p hj hp),hh.2⟩
 inb W hh b hb:=by
  obtain⟨j,p,hj,hp,hd⟩:=hb
  exact p.inb W (hh.1 j p hj hp) b hd
def noR:Res where
 dom _:=False
 holds _:=True
 loc _ _ _ _ _:=trivial
 inb _ _ _ hb:=hb.elim
theorem Ext.focus {W:World} (h:Ext w0 W L) (i:Nat) {p:Res} (hp:L[i]? = some p):Ext w0 W [na L [i],p] where
 below:=h.below
 all k q hq:=by
  match k,hq with
  | 0,hq=>cases hq;exact⟨fun j p _ hp=>h.all j p hp,fun j k p q _ _ hp hq hne=>h.sep j k p q hp hq hne⟩
  | 1,hq=>cases hq;exact h.all i p hp
 new k q hq b hb:=by
  match k,hq with
  | 0,hq=>cases hq;obtain⟨j,p',_,hp',hd⟩:=hb;exact h.new j p' hp' b hd
  | 1,hq=>cases hq;exact h.new i p hp b hb
 sep k l q q' hq hq' hne b hb hb':=by
  match k,hq,l,hq' with
  | 0,hq,0,hq'=>exact hne O
  | 1,hq,1,hq'=>exact hne O
  | 0,hq,1,hq' =>
   cases hq;cases hq'
   obtain⟨j,p',hj,hp',hd⟩:=hb
   exact h.sep j i _ _ hp' hp (fun e=>hj (by simp[e])) b hd hb'
  | 1,hq,0,hq' =>
   cases hq;cases hq'
   obtain⟨j,p',hj,hp',hd⟩:=hb'
   exact h.sep i j _ _ hp hp' (fun e=>hj (by simp[e])) b hb hd
theorem Ext.unfocus {W W2:World} (h:Ext w0 W L) (i:Nat) {p p':Res} (hp:L[i]? = some p) {X:List Res} (h2:Ext w0 W2 (na L [i]::p'::X)):Ext w0 W2 (L.set i p'++X):=by
 have hi:i<L.length:=(List.getElem?_eq_some_iff.1 hp).1
 have hget:∀(k:Nat) (q:Res),(L.set i p'++X)[k]? = some q→(k=i∧q=p')∨(k≠i∧L[k]? = some q)∨(L.length≤k∧(na L [i]::p'::X)[k-L.length+2]? = some q):=by
  intro k q hq
  by_cases hk:k<L.length
  ·rw[List.getElem?_append_left (by simpa using hk),List.getElem?_set]at hq
   by_cases e:i=k
   ·subst e
    simp[hi]at hq
    exact .inl ⟨O,hq.symm⟩
   ·rw[if_neg e]at hq
    exact .inr (.inl ⟨fun e'=>e e'.symm,hq⟩)
  ·rw[List.getElem?_append_right (by simpa using Nat.le_of_not_lt hk),List.length_set]at hq
   exact .inr (.inr ⟨Nat.le_of_not_lt hk,by simpa using hq⟩)
 have hr:∀(k:Nat) (q:Res) (b:Nat),k≠i→L[k]? = some q→q.dom b→(na L [i]).dom b:=fun k q b hk hq hb=>⟨k,q,by simpa using hk,hq,hb⟩
 refine⟨h2.below,fun k q hq=>?_,fun k q hq b hb=>?_,fun k l q q' hq hq' hne b hb hb'=>?_⟩
 ·rcases hget k q hq with⟨_,rfl⟩|⟨h3,h4⟩|⟨h3,h4⟩
  ·exact h2.all 1 _ O
  ·exact(h2.all 0 _ O).1 k q (by simpa using h3) h4
  ·exact h2.all _ q h4
 ·rcases hget k q hq with⟨_,rfl⟩|⟨h3,h4⟩|⟨h3,h4⟩
  ·exact h2.new 1 _ O b hb
  ·exact h.new k q h4 b hb
  ·exact h2.new _ q h4 b hb
 ·rcases hget k q hq with⟨a1,a2⟩|⟨h3,h4⟩|⟨h3,h4⟩ <;> rcases hget l q' hq' with⟨b1,b2⟩|⟨h5,h6⟩|⟨h5,h6⟩
  ·exact hne (a1.trans b1.symm)
  ·subst a2
   exact h2.sep 1 0 _ _ O O (by decide) b hb (hr l q' b h5 h6 hb')
  ·subst a2
   exact h2.sep 1 _ _ _ O h6 (by omega) b hb hb'
  ·subst b2
   exact h2.sep 1 0 _ _ O O (by decide) b hb' (hr k q b h3 h4 hb)
  ·exact h.sep k l q q' h4 h6 hne b hb hb'
  ·exact h2.sep _ 0 _ _ h6 O (by omega) b hb' (hr k q b h3 h4 hb)
  ·subst b2
   exact h2.sep _ 1 _ _ h4 O (by omega) b hb hb'
  ·exact h2.sep _ 0 _ _ h4 O (by omega) b hb (hr l q' b h5 h6 hb')
  ·exact h2.sep _ _ _ _ h4 h6 (by omega) b hb hb'
theorem Ext.rest {W W3:World} {i:Nat} {X:List Res} (h:Ext w0 W (na L [i]::X)) (hb:Below w0.heap.size w0 W3) (hR:(na L [i]).holds W3):Ext w0 W3 (L.set i noR):=by
 have hget:∀(k:Nat) (q:Res),(L.set i noR)[k]? = some q→q=noR∨(k∉[i]∧L[k]? = some q):=by
  intro k q hq
  rw[List.getElem?_set]at hq
  by_cases e:i=k
  ·subst e
   rw[if_pos O]at hq
   split at hq
   ·cases hq;exact .inl O
   ·cases hq
  ·rw[if_neg e]at hq
   exact .inr ⟨by simp;exact fun e'=>e e'.symm,hq⟩
 refine⟨hb,fun k q hq=>?_,fun k q hq b hd=>?_,fun k l q q' hq hq' hne b hd hd'=>?_⟩
 ·rcases hget k q hq with rfl|⟨h1,h2⟩
  ·trivial
  ·exact hR.1 k q h1 h2
 ·rcases hget k q hq with rfl|⟨h1,h2⟩
  ·exact hd.elim
  ·exact h.new 0 _ O b ⟨k,q,h1,h2,hd⟩
 ·rcases hget k q hq with rfl|⟨h1,h2⟩
  ·exact hd.elim
  ·rcases hget l q' hq' with rfl|⟨h3,h4⟩
   ·exact hd'.elim
   ·exact hR.2 k l q q' h1 h3 h2 h4 hne b hd hd'
end
section
variable {r : Option Nat} {n : Nat} {P : Program} {ops : Array Oper} {Q : Exit → Act → World → Prop} {w0 : World} {L L' : List Res} {m : Nat} {tm : Nat → Value} {d : List Deferred}
variable {t : Tmp} {ty : TypeId} {pos : String} {af : Array Edge} {g : Option (Nat × Bool)} {rest : List Oper}
theorem kE {α:Type} {f:FuncId} {xs:List Operand} {us:Array TypeId} (i:Nat) {p:Res} (vs:List Value) (φ:α→Prop) (val:α→Value) (p':α→Res) (res:α→List Res) (hL:L[i]? = some p)
  (hw:eU ops m tm ⟨some t,.call ⟨.value (.func f),xs.toArray,us⟩,ty,pos,af,g⟩=true) (hf:cN P f=true) (ha:xs.map (opv m tm)=vs)
  (hc:∀W,Ext w0 W [na L [i],p]→Calls P f vs.toArray W fun e W'=>∃x:α,φ x∧e=.returned (val x)∧Ext w0 W' (na L [i]::p' x::res x))
  (h:∀x,φ x→OX r n P ops Q w0 (L.set i (p' x)++res x) rest m (upd tm t (val x)) d):OX r n P ops Q w0 L (⟨some t,.call ⟨.value (.func f),xs.toArray,us⟩,ty,pos,af,g⟩::rest) m tm d:=fun W hW=>by
 unfold OL
 rw[bn,if_pos hw]
 refine⟨fun _ _=>trivial,?_⟩
 show Oper.uponIn (Fw r) n P _ _ _ Q ((Oper.semAt r (act m tm d).eval _).run P W)
 have e:(execOp (opv m tm) ⟨some t,.call ⟨.value (.func f),xs.toArray,us⟩,ty,pos,af,g⟩).run P W=.ok (.enter f (xs.map (opv m tm)).toArray) W:=by
  have hρ:opv m tm (.func f)=.func (.func f) #[] #[]:=rfl
  simp[execOp,resolve,hρ,Deferred.ofValue,invoke,oy hf]
 rw[fh (by intro c h;cases h),dv,e,ha]
 refine⟨(fun hd=>by cases hd),?_⟩
 refine(callsW (hc W (hW.focus i hL))).mono ?_
 rintro e W' ⟨x,hφ,rfl,hx⟩
 show OL r n P ops Q rest ((act m tm d).put (some t) (val x)) W'
 rw[dF]
 exact h x hφ W' (hW.unfocus i hL hx)
theorem gv {f:FuncId} {fn:Func} {c:Code} {vs:List Value} {W:World} {R:Ending→World→Prop} (hf:P.funcs[f]? = some fn) (hb:fn.body=some c) (hn:fn.ntmps=m) (hl:vs.length≤m) (hW:Ext w0 W L)
  (h:CX none 8 P c (bodyPost P fn R) w0 L m (fun i=>(vs[i]?).getD undef) []):Calls P f vs.toArray W R:=by
 refine callsW' (r:=none) (n:=8) (callsIn_of_wp hf hb trivial ?_ O)
 rw[ou _ _ (by rw[hn];simpa using hl),hn]
 have:=h W hW
 simpa using this
end
section
variable {r : Option Nat} {n : Nat} {P : Program} {ρ : Operand → Value} {w0 : World} {L L' : List Res}
variable {t : Option Tmp} {ty : TypeId} {pos : String} {af : Array Edge} {g : Option (Nat × Bool)} {C C' : World → Prop}
theorem run_eqnil {W:World} {A:Option Addr} {l c:Nat} {e u:TypeId} (hu:P.underlying u=some (.slice e)):(Op.equalIn 10000 u (.slice A l c) (.slice none 0 0)).run P W=.ok A.isNone W:=by
 have h1:(underlying u).run P W=.ok (.slice e) W:=by simp[underlying,hu]
 unfold Op.equalIn
 simp only[Sem.run_bind,h1,Result.andThen_ok]
 cases A <;> rfl
theorem sU {x y:Operand} {A:Option Addr} {l c:Nat} {e u u':TypeId} (hu:P.underlying u=some (.slice e)) (hx:ρ x=.slice A l c) (hy:ρ y=.slice none 0 0):OpY r n P ⟨t,.binOp .eql u x y u',ty,pos,af,g⟩ ρ C C (.bool A.isNone) :=
 bq (by intro c h;cases h) (fun W _=>by
  have:=run_eqnil (W:=W) (A:=A) (l:=l) (c:=c) hu
  simp[execOp,hx,hy,go_sem,binOp,Op.equal,Op.maxDepth,this])
theorem y_convertU {x:Operand} {u v:TypeId} {a:Int} (hu:P.underlying u=some (.int .i64)) (hv:P.underlying v=some (.int .u64)) (h:0≤a∧a≤9223372036854775807) (hx:ρ x=.int .i64 a):OpY r n P ⟨t,.convert u v x,ty,pos,af,g⟩ ρ C C (.int .u64 a) :=
 bq (by intro c h;cases h) (fun W _=>by
  have h2:IntKind.u64.wrap a=a:=by
   simp[IntKind.wrap,IntKind.bits,IntKind.signed]
   omega
  have h1:(convert u v (.int .i64 a)).run P W=.ok (.int .u64 a) W:=by
   simp[convert,underlying,hu,hv,Conv.intToInt,h2]
  simp[execOp,hx,h1])
end
open Go.RowKit (Below)
section
variable {r : Option Nat} {n : Nat} {P : Program} {Q : Exit → Act → World → Prop} {w0 : World} {L : List Res} {m : Nat} {tm : Nat → Value} {d : List Deferred}
end
open Go.RowKit (Below)
section
variable {w0 : World} {L : List Res}
theorem Ext.tell {W:World} (h:Ext w0 W L) (i:Nat) {p q:Res} (hp:L[i]? = some p) (hq:p.holds W→q.holds W) (hd:∀b,q.dom b→p.dom b):Ext w0 W (L.set i q) :=
 h.set hp q (hq (h.all i p hp)) O O O (Nat.le_refl _) (fun _ _ _=>O) (fun b hb=>.inl (hd b hb))
end
section
variable {r : Option Nat} {n : Nat} {P : Program} {ρ : Operand → Value} {w0 : World} {L : List Res}
variable {t : Option Tmp} {ty : TypeId} {pos : String} {af : Array Edge} {g : Option (Nat × Bool)}
variable {A : Option Addr} {k c : Nat} {cs : List Value}
theorem su {u e:TypeId} {sz:Nat} (hs:slOf P u=some (e,sz)):P.underlying u=some (.slice (P.elem u))∧∀W,(Go.sizeOf (P.elem u)).run P W=.ok sz W:=by
 unfold slOf at hs
 cases hu:P.underlying u with
 | none=>rw[hu]at hs;cases hs
 | some d =>
  rw[hu]at hs
  cases d with
  | slice e' =>
   simp only[]at hs
   cases hinf:P.info? e' with
   | none=>rw[hinf]at hs;cases hs
   | some inf =>
    rw[hinf]at hs
    simp only[Option.map_some,Option.some.injEq,Prod.mk.injEq]at hs
    obtain⟨rfl,rfl⟩:=hs
    have e1:P.elem u=e':=by simp[Program.elem,hu]
    exact⟨by rw[e1],fun W=>by rw[e1];simp[Go.sizeOf,typeInfo,hinf]⟩
  | _=>cases hs
theorem y_cutL {x a:Operand} {u e:TypeId} {sz:Nat} {q:IntKind} {lo:Int} (hs:slOf P u=some (e,sz)) (h0:0≤lo) (h1:lo≤k) (_hR:RdL w0 L A k c cs) (hx:ρ x=.slice A k c) (ha:ρ a=.int q lo) :
  OpY r n P ⟨t,.slice u x (some a) none none,ty,pos,af,g⟩ ρ (fun W=>Ext w0 W L) (fun W=>Ext w0 W L) (.slice (if c=lo.toNat then A else A.map (·.add (lo.toNat*sz))) (k-lo.toNat) (c-lo.toNat)) :=
 bq (by intro c h;cases h) (fun W _=>by
  obtain⟨hu',hsz⟩:=su hs
  simp only[execOp,hx,ha,Option.map_some,Option.map_none,Sem.run_bind,run_sliceAt_slice W u _ _ _ _ hu',run_slice_l W u A k c hu' q lo h0 h1,hsz,Result.andThen_ok,sliced]
  rfl)
theorem y_cutH {x b:Operand} {u e:TypeId} {sz:Nat} {q:IntKind} {hi:Int} (hs:slOf P u=some (e,sz)) (h0:0≤hi) (h2:hi≤k) (hR:RdL w0 L A k c cs) (hx:ρ x=.slice A k c) (hb:ρ b=.int q hi) :
  OpY r n P ⟨t,.slice u x none (some b) none,ty,pos,af,g⟩ ρ (fun W=>Ext w0 W L) (fun W=>Ext w0 W L) (.slice A hi.toNat c) :=
 bq (by intro c h;cases h) (fun W hW=>by
  obtain⟨hu',hsz⟩:=su hs
  have hcap:=(hR W hW).cap
  have h3:hi≤(c:Int):=by omega
  simp only[execOp,hx,hb,Option.map_some,Option.map_none,Sem.run_bind,run_sliceAt_slice W u _ _ _ _ hu',run_slice_h W u A k c hu' q hi h0 h3,hsz,Result.andThen_ok,sliced]
  have e1:(if c=0 then A else Option.map (fun x=>x.add (0*sz)) A)=A:=by
   split
   ·rfl
   ·cases A <;> simp[Addr.add]
  rw[e1]
  rfl)
theorem RdL.cutL {α:Type} {cells:α→List Value} {sz:Nat} (hc:∀x,(cells x).length=sz) {A:Option Addr} {n c:Nat} {xs:List α} {lo:Int} (h:RdL w0 L A n c (encL cells xs)) (h0:0≤lo) (h2:lo≤(n:Int)) (hn:n=xs.length) :
  RdL w0 L (if c=lo.toNat then A else A.map (fun x=>x.add (lo.toNat*sz))) (n-lo.toNat) (c-lo.toNat) (encL cells (xs.drop lo.toNat)):=fun W hW=>by
 have:=(h W hW).cut (sz:=sz) (l:=lo.toNat) (h:=n) (by omega) (Nat.le_refl _)
 rw[ka hc,List.take_of_length_le]at this
 ·exact this
 ·rw[eL hc O,List.length_drop,hn]
  exact Nat.le_refl _
theorem RdL.cutH {α:Type} {cells:α→List Value} {sz:Nat} (hc:∀x,(cells x).length=sz) {A:Option Addr} {n c:Nat} {xs:List α} {hi:Int} (h:RdL w0 L A n c (encL cells xs)) (_h0:0≤hi) (h2:hi≤(n:Int)) :
  RdL w0 L A hi.toNat c (encL cells (xs.take hi.toNat)):=fun W hW=>by
 have hr:=h W hW
 refine⟨fun j v hj=>hr.cell j v ?_,by have:=hr.cap;omega⟩
 rw[←m5 hc,List.getElem?_take]at hj
 split at hj
 ·exact hj
 ·cases hj
theorem cutL_len {α:Type} {xs:List α} {n:Nat} {lo:Int} (hn:n=xs.length):n-lo.toNat=(xs.drop lo.toNat).length:=by rw[List.length_drop,←hn]
theorem cutH_len {α:Type} {xs:List α} {n:Nat} {hi:Int} (h2:hi≤(n:Int)) (hn:n=xs.length):hi.toNat=(xs.take hi.toNat).length:=by rw[List.length_take,←hn];omega
end
section
variable {r : Option Nat} {n : Nat} {P : Program} {ops : Array Oper} {Q : Exit → Act → World → Prop} {w0 : World} {L : List Res} {m : Nat} {tm : Nat → Value} {d : List Deferred}
variable {t : Tmp} {ty : TypeId} {pos : String} {af : Array Edge} {g : Option (Nat × Bool)} {l rest : List Oper}
theorem cr (i:Nat) {α:Type} {cells:α→List Value} {xs ys:List α} {x y:Operand} {u e:TypeId} {A B:Option Addr} {c c' k q:Nat} {sz by':Nat} {z:Value} (hu:P.underlying u=some (.slice e)) (hz:cW P e=some z) (hb:jQ P e z sz by'=true)
  (hL:L[i]? = some (be A c e sz k (encL cells xs))) (hx:opv m tm x=.slice A k c) (hy:opv m tm y=.slice B q c') (hR:RdL w0 L B q c' (encL cells ys)) (hn:(encL cells ys).length=q*sz) (h1:((encL cells ys).all (·.oneCell'))=true) (hg:(k+q)*by'≤140737488355328)
  (hw:eU ops m tm ⟨some t,.call ⟨.builtin .append,#[x,y],#[u,u]⟩,ty,pos,af,g⟩=true)
  (h:∀A' c',OX r n P ops Q w0 (L.set i (be A' c' e sz (k+q) (encL cells (xs++ys)))) rest m (upd tm t (.slice A' (k+q) c')) d) :
  OX r n P ops Q w0 L (⟨some t,.call ⟨.builtin .append,#[x,y],#[u,u]⟩,ty,pos,af,g⟩::rest) m tm d:=by
 rcases Nat.eq_zero_or_pos q with hq|hq
 ·subst hq
  have hys:encL cells ys=[]:=by
   have:=hn
   rw[Nat.zero_mul]at this
   exact List.eq_nil_of_length_eq_zero this
  refine kq hw (by intro c h;cases h) fun W hW=>?_
  obtain⟨inf,hinf,hzz⟩:∃inf,P.info? e=some inf∧inf.zero=some z:=by
   unfold cW at hz
   cases hi:P.info? e with
   | none=>rw[hi]at hz;cases hz
   | some inf=>rw[hi]at hz;exact⟨inf,O,hz⟩
  have hcap:=(gl (hW.mem hL)).cap
  have hrun:(Builtin.append_ #[u,u] ty #[.slice A k c,.slice B 0 c']).run P W=.ok (.slice A k c) W:=by
   cases A <;> cases B <;> simp[Builtin.append_,run_underlying hu,sizeOf,typeInfo,hinf,Builtin.lenOf,Builtin.firstCells,hcap,storeCells,loadCells,loadCellsFrom]
  refine⟨_,W,_,?_,?_,h A c⟩
  ·simp only[execOp,resolve,invoke,builtin]
   simp[hx,hy,hrun]
  ·have e1:encL cells (xs++ys)=encL cells xs:=by rw[←encL_app,hys,List.append_nil]
   rw[e1,Nat.add_zero]
   have e2:L.set i (be A c e sz k (encL cells xs))=L:=by
    obtain⟨hi,he⟩:=List.getElem?_eq_some_iff.1 hL
    rw[←he,List.set_getElem_self]
   rw[e2]
   exact hW
 ·exact ox_appendE i hu hz hb hL hx hy hq hR hn h1 hg hw h
end
def rawR (v:Value):Option (DataW Value × List MemPlace):=some (.held v,[])
structure KeyE (P:Program) (kt:TypeId) {κ:Type} (ek:κ→Value) (ok:κ→Bool):Prop where
 keyed:Maps.Keyed P kt
 tot:∀x,ok x=true→∃l,keyOf P kt (ek x)=some l
 inj:∀x y,ek x=ek y→x=y
def mapV (P:Program) (kt:TypeId) {κ β:Type} [DecidableEq κ] (ek:κ→Value) (ok:κ→Bool) (ev:β→Value) (z:β) (b:Nat) (m:List (κ × β)):Res where
 dom c:=c=b
 holds W:=∃D:DataW Value,W.ownsMap P kt rawR b m.length D∧Maps.IsMap D∧(∀x l,ok x=true→keyOf P kt (ek x)=some l→D.atKey l (.held (ev z))=.held (ev (aw z m x))∧Maps.has D l=bH m x)∧∀l,Maps.has D l=true→∃x,ok x=true∧keyOf P kt (ek x)=some l
 loc W W' h _ hh:=by
  obtain⟨D,⟨es,clock,hb,h1⟩,h2⟩:=hh
  exact⟨D,⟨es,clock,(h b O).trans hb,h1⟩,h2⟩
 inb W h c hc:=by
  obtain⟨D,h1,_⟩:=h
  have hc':c=b:=hc
  rw[hc']
  exact h1.lt
theorem Cy.mapV {B:Nat} {P:Program} {kt:TypeId} {κ β:Type} [DecidableEq κ] {ek:κ→Value} {ok:κ→Bool} {ev:β→Value} {z:β} {b:Nat} {m:List (κ × β)} (h:b<B):Cy B (mapV P kt ek ok ev z b m):=fun W c _ hc=>by
 have hc':c=b:=hc
 exact .inl (by omega)
theorem mapV.later {P:Program} {kt:TypeId} {κ β:Type} [DecidableEq κ] {ek:κ→Value} {ok:κ→Bool} {ev:β→Value} {z:β} {b:Nat} {m:List (κ × β)} {W W':World} (h:(mapV P kt ek ok ev z b m).holds W) (hb:Below W.heap.size W W'):(mapV P kt ek ok ev z b m).holds W' :=
 (mapV P kt ek ok ev z b m).loc W W' (fun c hc=>by
  have hc':c=b:=hc
  obtain⟨D,h1,_⟩:=h
  rw[hc']
  exact hb.block b h1.lt) hb.size h
def MpL (w0:World) (L:List Res) (p:Res):Prop:=∀W,Ext w0 W L→p.holds W
theorem MpL.own {w0:World} {L:List Res} {p:Res} (i:Nat) (h:L[i]? = some p):MpL w0 L p:=fun _ hW=>hW.mem h
theorem MpL.arg {w0:World} {L:List Res} {P:Program} {kt:TypeId} {κ β:Type} [DecidableEq κ] {ek:κ→Value} {ok:κ→Bool} {ev:β→Value} {z:β} {b:Nat} {m:List (κ × β)} (h:(mapV P kt ek ok ev z b m).holds w0):MpL w0 L (mapV P kt ek ok ev z b m):=fun _ hW=>mapV.later h hW.below
def kI (x:Int):Value:=.int .i64 x
def kB (x:Bool):Value:=.bool x
theorem keyE_int {P:Program} {kt:TypeId} (hk:P.underlying kt=some (.int .i64)):KeyE P kt kI cX :=
 ⟨Maps.int_keyed hk,fun x h=>⟨_,keyI hk h⟩,fun x y h=>by cases h;rfl⟩
section
variable {r : Option Nat} {n : Nat} {P : Program} {ρ : Operand → Value} {w0 : World} {L : List Res}
variable {t : Option Tmp} {ty : TypeId} {pos : String} {af : Array Edge} {g : Option (Nat × Bool)}
variable {κ β : Type} [DecidableEq κ] {ek : κ → Value} {ok : κ → Bool} {ev : β → Value} {z : β}
theorem fj {kt et mt b:Nat} {m:List (κ × β)} {x y:Operand} {k:κ} (hM:MpL w0 L (mapV P kt ek ok ev z b m)) (K:KeyE P kt ek ok) (hm:P.underlying mt=some (.map kt et)) (hz:cW P et=some (ev z))
  (hx:ρ x=.map (some b)) (hy:ρ y=ek k) (hr:ok k=true) :
  OpY r n P ⟨t,.lookup mt x y false,ty,pos,af,g⟩ ρ (fun W=>Ext w0 W L) (fun W=>Ext w0 W L) (ev (aw z m k)) :=
 bq (by intro c h;cases h) (fun W hW=>by
  obtain⟨D,h1,_,h3,_⟩:=hM W hW
  obtain⟨l,hl⟩:=K.tot k hr
  obtain⟨v,ps,hrun,hv⟩:=h1.lookup K.keyed hm (zero_run hz) (zd:=.held (ev z)) (zp:=[]) O hl
  rw[(h3 k l hr hl).1]at hv
  have:v=ev (aw z m k):=by
   have:=Option.some.inj hv
   simp only[Prod.mk.injEq,DataW.held.injEq]at this
   exact this.1
  subst this
  simp[execOp,hx,hy,hrun])
theorem iB (i:Nat) {kt et mt b:Nat} {m:List (κ × β)} {x y u:Operand} {k:κ} {v:β} (hL:L[i]? = some (mapV P kt ek ok ev z b m)) (K:KeyE P kt ek ok) (hm:P.underlying mt=some (.map kt et))
  (hx:ρ x=.map (some b)) (hy:ρ y=ek k) (hv:ρ u=ev v) (hr:ok k=true∧m.length<1000000000) :
  OpY r n P ⟨t,.mapUpdate mt x y u,ty,pos,af,g⟩ ρ (fun W=>Ext w0 W L) (fun W=>Ext w0 W (L.set i (mapV P kt ek ok ev z b ((k,v)::m)))) undef :=
 n6 (by intro c h;cases h) (fun W hW=>by
  obtain⟨D,h1,h2,h3,h4⟩:=hW.mem hL
  obtain⟨l,hl⟩:=K.tot k hr.1
  obtain⟨W',hrun,hown,hg⟩:=h1.update K.keyed hm (by simp only[maxLen];omega) (val:=ev v) (d:=.held (ev v)) (ps:=[]) hl O
  refine⟨W',by simp[execOp,hx,hy,hv,hrun],?_⟩
  refine hW.set hL (mapV P kt ek ok ev z b ((k,v)::m)) ⟨_,hown,h2.put _ _,fun q l' hq hl'=>?_,fun l' hl'=>?_⟩ hg.os hg.tape hg.output hg.size (fun c hc hn=>hg.block c hc (fun e=>hn (by cases e;rfl))) (fun c hc=>.inl hc)
  rotate_left
  ·by_cases e:l'=l
   ·exact⟨k,hr.1,by rw[e];exact hl⟩
   ·rw[Maps.has_put_other e]at hl'
    exact h4 l' hl'
  unfold aw bH
  by_cases e:k=q
  ·subst e
   have e2:l'=l:=by rw[hl]at hl';exact(Option.some.inj hl').symm
   subst e2
   rw[Maps.atKey_put_same h2 (K.keyed.key hl),Maps.has_put_same h2 (K.keyed.key hl)]
   simp
  ·have hne:l'≠l:=fun e2=>e (K.inj k q (K.keyed.inj hl (e2▸hl')))
   rw[Maps.atKey_put_other hne,Maps.has_put_other hne,(h3 q l' hq hl').1,(h3 q l' hq hl').2]
   simp[e])
end
section
variable {r : Option Nat} {n : Nat} {P : Program} {ops : Array Oper} {Q : Exit → Act → World → Prop} {w0 : World} {L : List Res} {m : Nat} {tm : Nat → Value} {d : List Deferred}
variable {t : Tmp} {ty : TypeId} {pos : String} {af : Array Edge} {g : Option (Nat × Bool)} {l rest : List Oper}
theorem jn (kt:TypeId) {κ β:Type} [DecidableEq κ] (ek:κ→Value) (ok:κ→Bool) (ev:β→Value) (z:β) {mt:TypeId} (hw:eU ops m tm ⟨some t,.makeMap mt none,ty,pos,af,g⟩=true)
  (h:∀b,OX r n P ops Q w0 (L++[mapV P kt ek ok ev z b []]) rest m (upd tm t (.map (some b))) d):OX r n P ops Q w0 L (⟨some t,.makeMap mt none,ty,pos,af,g⟩::rest) m tm d :=
 kq hw (by intro c h;cases h) fun W hW=>by
  refine⟨_,W.alloc (.map #[] 0),_,?_,?_,h W.heap.size⟩
  ·simp[execOp,Instr.makeMap,newObj]
   rfl
  ·have h7:Ext w0 (W.alloc (.map #[] 0)) L:=hW.keep (hW.below.alloc hW.size _) (by simp) (fun i p hp b hd=>Below.heap_alloc W _ b (p.inb W (hW.all i p hp) b hd))
   refine h7.snoc (p:=mapV P kt ek ok ev z W.heap.size []) ⟨_,World.ownsMap_made W P kt _,⟨_,O⟩,fun x _ _ _=>⟨O,O⟩,fun l hl=>by cases hl⟩ (fun b hb=>?_) (fun i q hq b hb hb'=>?_)
   ·have hb':b=W.heap.size:=hb
    have:=hW.size
    omega
   ·have hb'':b=W.heap.size:=hb'
    have:=q.inb W (hW.all i q hq) _ hb
    omega
end
theorem encL_setF {α:Type} [Inhabited α] {cells:α→List Value} {sz:Nat} (hc:∀x,(cells x).length=sz) {xs:List α} {v:α} {j q:Nat} {w:Value} (hj:j<xs.length) (hq:q<sz) (hv:cells v=(cells (xs.getD j default)).set q w):(encL cells xs).set (j*sz+q) w=encL cells (xs.set j v):=by
 rw[←qu hc v xs j hj,hv]
 have e0:=qu hc (xs.getD j default) xs j hj
 have e1:xs.set j (xs.getD j default)=xs:=by
  rw[List.getD_eq_getElem?_getD,List.getElem?_eq_getElem hj]
  simp
 rw[e1]at e0
 conv=>lhs;rw[←e0]
 have hl:((encL cells xs).take (j*sz)).length=j*sz:=by
  rw[List.length_take,eL hc O,Nat.min_eq_left (Nat.mul_le_mul_right _ (Nat.le_of_lt hj))]
 rw[List.append_assoc,List.set_append_right _ _ (by omega),hl,Nat.add_sub_cancel_left,List.set_append_left _ _ (by rw[hc];exact hq),List.append_assoc]
section
variable {r : Option Nat} {n : Nat} {P : Program} {ρ : Operand → Value} {w0 : World} {L : List Res}
variable {t : Option Tmp} {ty : TypeId} {pos : String} {af : Array Edge} {g : Option (Nat × Bool)}
theorem ti (i:Nat) {α:Type} [Inhabited α] {cells:α→List Value} {sz:Nat} (hc:∀x,(cells x).length=sz) {xs:List α} (v:α) (q:Nat) (hq:q<sz) {x y:Operand} {u e:TypeId} {A:Option Addr} {k c:Nat} {j:Int} {w:Value} (hs:szB P u 1=true) (hL:L[i]? = some (be A c e sz k (encL cells xs))) (h0:0≤j) (h1:j<(xs.length:Int)) (hx:ρ x=slA A (j.toNat*sz+q)) (hv:cells v=(cells (rdL xs j)).set q w) (hy:ρ y=w) (ho:w.oneCell'=true) :
  OpY r n P ⟨t,.store u x y,ty,pos,af,g⟩ ρ (fun W=>Ext w0 W L) (fun W=>Ext w0 W (L.set i (be A c e sz k (encL cells (xs.set j.toNat v))))) undef :=
 n6 (by intro c h;cases h) (fun W hW=>by
  have hown:W.ownsRow 0 e sz (.slice A k c) k (encL cells xs):=hW.mem hL
  have hk:xs.length=k:=by
   have h5:=hown.1
   rw[eL hc O]at h5
   exact Nat.eq_of_mul_eq_mul_right (by omega) h5
  rcases hown.2 with⟨_,h3⟩|⟨g',cap,cur,hv',_,hg,h3,h4,h5,h6⟩
  ·omega
  ·simp only[Value.slice.injEq]at hv'
   obtain⟨rfl,_,rfl⟩:=hv'
   have hjk:j.toNat<k:=by omega
   have hjs:j.toNat*sz+sz≤k*sz:=by
    have:=Nat.mul_le_mul_right sz (show j.toNat+1≤k by omega)
    rw[Nat.add_mul,Nat.one_mul]at this
    exact this
   have hcs:k*sz≤cur.size:=by
    have:=Nat.mul_le_mul_right sz h3
    omega
   have hcur:j.toNat*sz+q<cur.size:=by omega
   have hx':ρ x=.pointer (some ⟨g',j.toNat*sz+q,none⟩):=by
    rw[hx]
    simp[slA]
   have hcw:w.cells = #[w]:=by cases w <;> first|rfl|cases ho
   have hst:=run_storeCells_at (P:=P) g' (j.toNat*sz+q) e w.cells.toList 0 cur W hg (by rw[hcw];simp;omega) (by rw[hcw];simpa using ho)
   simp only[Nat.add_zero]at hst
   refine⟨_,by
    simp only[execOp,hx',hy,Sem.run_bind]
    have:(Instr.storeAt u (.pointer (some ⟨g',j.toNat*sz+q,none⟩)) w).run P W=.ok () (W.setRow g' (cur.toList.take (j.toNat*sz+q)++w.cells.toList++cur.toList.drop (j.toNat*sz+q+w.cells.toList.length)).toArray):=by
     simp[Instr.storeAt,Instr.sureAddr,storeVar,mA (show szB P u w.cells.size=true by rw[hcw];exact hs),hst]
    rw[this]
    rfl,?_⟩
   have e1:cur.toList.take (j.toNat*sz+q)++w.cells.toList++cur.toList.drop (j.toNat*sz+q+w.cells.toList.length)=cur.toList.set (j.toNat*sz+q) w:=by
    rw[hcw]
    simp only[List.length_cons,List.length_nil]
    rw[List.set_eq_take_append_cons_drop,if_pos (by simpa using hcur)]
    simp
   rw[e1]
   refine hW.set hL (be (some ⟨g',0,none⟩) c e sz k (encL cells (xs.set j.toNat v))) ?_ O O O (by simp[World.setRow]) (fun b' _ hn=>?_) (fun b' hb'=>.inl hb')
   ·refine⟨?_,.inr ⟨g',c,(cur.toList.set (j.toNat*sz+q) w).toArray,O,Nat.zero_le _,setRow_heap W g' _ _ e _ hg,h3,h4,by simpa using h5,?_⟩⟩
    ·rw[eL hc O];simp[hk]
    ·have h6':cur.toList.take (k*sz)=encL cells xs:=h6
     show(cur.toList.set (j.toNat*sz+q) w).take (k*sz)=_
     rw[←encL_setF hc (w:=w) (q:=q) (by omega) hq hv,←h6',List.take_set]
   ·show(W.heap.modify g' _)[b']? = _
    rw[Array.getElem?_modify,if_neg (fun e'=>hn ⟨_,O,e'⟩)])
end
theorem sr {W:World} {n c sz:Nat} {α:Type} {cells:α→List Value} {xs:List α} (h:Rd W none n c (encL cells xs)) (hc:∀x,(cells x).length=sz) (hp:0<sz):xs=[]:=by
 cases xs with
 | nil=>rfl
 | cons x xs =>
  have hl:0<(encL cells (x::xs)).length:=by rw[eL hc O];exact Nat.mul_pos (Nat.succ_pos _) hp
  obtain⟨b,o,e,_⟩:=h.cell 0 (encL cells (x::xs))[0] (by simp[hl])
  cases e
section
variable {r : Option Nat} {n : Nat} {P : Program} {ops : Array Oper} {Q : Exit → Act → World → Prop} {w0 : World} {L : List Res} {m : Nat} {tm : Nat → Value} {d : List Deferred}
variable {t : Tmp} {ty : TypeId} {pos : String} {af : Array Edge} {g : Option (Nat × Bool)} {l rest : List Oper}
theorem fT {α:Type} (cells:α→List Value) {u e:TypeId} {z:Value} {sz by':Nat} (hu:P.underlying u=some (.slice e)) (hz:cW P e=some z) (_hb:jQ P e z sz by'=true)
  (hw:eU ops m tm ⟨some t,.buildSlice u 0 #[],ty,pos,af,g⟩=true)
  (h:∀b,OX r n P ops Q w0 (L++[be (some ⟨b,0,none⟩) 0 e sz 0 (encL cells [])]) rest m (upd tm t (.slice (some ⟨b,0,none⟩) 0 0)) d) :
  OX r n P ops Q w0 L (⟨some t,.buildSlice u 0 #[],ty,pos,af,g⟩::rest) m tm d :=
 kq hw (by intro c h;cases h) fun W hW=>by
  obtain⟨inf,hinf,hzz⟩:∃inf,P.info? e=some inf∧inf.zero=some z:=by
   unfold cW at hz
   cases hi:P.info? e with
   | none=>rw[hi]at hz;cases hz
   | some inf=>rw[hi]at hz;exact⟨inf,O,hz⟩
  have hu1:(underlying u).run P W=.ok (.slice e) W:=by simp[underlying,hu]
  have hsz:(Go.sizeOf e).run P W=.ok inf.size W:=by simp[Go.sizeOf,typeInfo,hinf]
  have hb:(Instr.buildSlice u 0 #[]).run P W=.ok (.slice (some ⟨W.heap.size,0,none⟩) 0 0) (W.alloc (.cells #[] e)):=by
   simp[Instr.buildSlice,hu1,Result.andThen_ok,hsz,Instr.fill,newRow]
   rw[show(Array.range 0) = #[] by simp[Array.range]]
   simp
  refine⟨_,W.alloc (.cells #[] e),_,?_,?_,h W.heap.size⟩
  ·simp only[execOp,Sem.run_bind,List.map_toArray,List.map_nil,hb]
   rfl
  ·have hk:(be (some ⟨W.heap.size,0,none⟩) 0 e sz 0 (encL cells [])).holds (W.alloc (.cells #[] e)):=by
    have:=World.ownsRow_lit (base:=0) (e:=e) (size:=sz) W #[] 0 (Nat.zero_le _) (Nat.zero_le _) (by simp)
    exact this
   have h7:Ext w0 (W.alloc (.cells #[] e)) L:=hW.keep (hW.below.alloc hW.size _) (by simp) (fun i p hp b hd=>Below.heap_alloc W _ b (p.inb W (hW.all i p hp) b hd))
   refine h7.snoc hk (fun b hb=>?_) (fun i q hq b hb hb'=>?_)
   ·obtain⟨a,ha,rfl⟩:=hb
    cases ha
    exact hW.size
   ·obtain⟨a,ha,rfl⟩:=hb'
    cases ha
    have:=q.inb W (hW.all i q hq) _ hb
    exact absurd this (Nat.lt_irrefl _)
theorem Ext.mv {W:World} (h:Ext w0 W L) (i j:Nat) (_hij:i≠j) {q:Res} (hq:L[j]? = some q):Ext w0 W ((L.set j noR).set i q):=by
 have hget:∀(k:Nat) (s:Res),((L.set j noR).set i q)[k]? = some s→(k=i∧s=q)∨s=noR∨(k≠i∧k≠j∧L[k]? = some s):=by
  intro k s hk
  rw[List.getElem?_set]at hk
  by_cases e:i=k
  ·subst e
   rw[if_pos O]at hk
   split at hk
   ·cases hk;exact .inl ⟨O,O⟩
   ·cases hk
  ·rw[if_neg e,List.getElem?_set]at hk
   by_cases e2:j=k
   ·subst e2
    rw[if_pos O]at hk
    split at hk
    ·cases hk;exact .inr (.inl O)
    ·cases hk
   ·rw[if_neg e2]at hk
    exact .inr (.inr ⟨fun h=>e h.symm,fun h=>e2 h.symm,hk⟩)
 refine⟨h.below,fun k s hk=>?_,fun k s hk b hb=>?_,fun k l s s' hk hl hne b hb hb'=>?_⟩
 ·rcases hget k s hk with⟨_,rfl⟩|rfl|⟨_,_,h3⟩
  ·exact h.all j _ hq
  ·trivial
  ·exact h.all k _ h3
 ·rcases hget k s hk with⟨_,rfl⟩|rfl|⟨_,_,h3⟩
  ·exact h.new j _ hq b hb
  ·exact hb.elim
  ·exact h.new k _ h3 b hb
 ·rcases hget k s hk with⟨a1,rfl⟩|rfl|⟨a1,a2,a3⟩
  ·rcases hget l s' hl with⟨b1,rfl⟩|rfl|⟨b1,b2,b3⟩
   ·exact hne (a1.trans b1.symm)
   ·exact hb'.elim
   ·exact h.sep j l _ _ hq b3 (fun e=>b2 e.symm) b hb hb'
  ·exact hb.elim
  ·rcases hget l s' hl with⟨b1,rfl⟩|rfl|⟨b1,b2,b3⟩
   ·exact h.sep k j _ _ a3 hq a2 b hb hb'
   ·exact hb'.elim
   ·exact h.sep k l _ _ a3 b3 hne b hb hb'
theorem ex_mv {e:Exit} (i j:Nat) (hij:i≠j) {q:Res} (hq:L[j]? = some q) (h:EX Q e w0 ((L.set j noR).set i q) m tm d):EX Q e w0 L m tm d:=fun W hW=>h W (hW.mv i j hij hq)
end
section
variable {r : Option Nat} {n : Nat} {P : Program} {ρ : Operand → Value} {C : World → Prop}
variable {t : Option Tmp} {ty : TypeId} {pos : String} {af : Array Edge} {g : Option (Nat × Bool)}
theorem y_convQ {x:Operand} {u v:TypeId} {q q':IntKind} {a a':Int} (hu:P.underlying u=some (.int q)) (hv:P.underlying v=some (.int q')) (h:q'.wrap a=a') (hx:ρ x=.int q a):OpY r n P ⟨t,.convert u v x,ty,pos,af,g⟩ ρ C C (.int q' a') :=
 bq (by intro c h;cases h) (fun W _=>by
  have h1:(convert u v (.int q a)).run P W=.ok (.int q' a') W:=by
   simp[convert,underlying,hu,hv,Conv.intToInt,h]
  simp[execOp,hx,h1])
theorem y_indexStr {x ix:Operand} {u:TypeId} {s:ByteArray} {k:IntKind} {i:Int} {b:UInt8} (hu:P.underlying u=some .string) (h0:0≤i) (hb:s[i.toNat]? = some b) (hx:ρ x=.string s) (hi:ρ ix=.int k i):OpY r n P ⟨t,.index u x ix,ty,pos,af,g⟩ ρ C C (.int .u8 b.toNat) :=
 bq (by intro c h;cases h) (fun W _=>by
  simp[execOp,hx,hi,Instr.index,asIntOf,underlying,hu,h0,hb])
end
section
variable {r : Option Nat} {n : Nat} {P : Program} {ρ : Operand → Value} {C : World → Prop}
variable {t : Option Tmp} {ty : TypeId} {pos : String} {af : Array Edge} {g : Option (Nat × Bool)}
end
section
variable {P : Program} {w0 : World} {L : List Res} {m : Nat} {tm : Nat → Value}
end
section
variable {r : Option Nat} {n : Nat} {P : Program} {ρ : Operand → Value} {C : World → Prop} {w0 : World} {L : List Res}
variable {t : Option Tmp} {ty : TypeId} {pos : String} {af : Array Edge} {g : Option (Nat × Bool)}
theorem RdL.under {R:Res} {A:Option Addr} {k c:Nat} {cs:List Value} (h:∀W2,Below w0.heap.size w0 W2→R.holds W2→Rd W2 A k c cs):RdL w0 (R::L) A k c cs:=fun W hW=>h W hW.below (hW.mem (i:=0) O)
end
open Go.RowKit (Below)
abbrev Hd:=Option Addr × Nat × Nat
theorem rdL_snd {α β:Type} [Inhabited α] [Inhabited β] {ys:List (α × β)} {xs:List β} (h:ys.map Prod.snd=xs) (i:Int):(rdL ys i).2=rdL xs i:=by
 subst h
 unfold rdL
 rw[List.getD_eq_getElem?_getD,List.getD_eq_getElem?_getD,List.getElem?_map]
 cases ys[i.toNat]? <;> rfl
theorem rk {α:Type} [Inhabited α] {xs:List α} {i:Int} (h0:0≤i) (h1:i<(xs.length:Int)):rdL xs i∈xs:=by
 unfold rdL
 rw[List.getD_eq_getElem?_getD,List.getElem?_eq_getElem (show i.toNat<xs.length by omega)]
 exact List.getElem_mem _
section
variable {β γ : Type} {sel : β → List γ} {ic : γ → List Value}
structure NestP (sel:β→List γ) (ys:List (Hd × β)) (xs:List β):Prop where
 eq:ys.map Prod.snd=xs
 ln:∀y∈ys,y.1.2.1=(sel y.2).length
structure NestW (W:World) (sel:β→List γ) (ic:γ→List Value) (ys:List (Hd × β)) (xs:List β):Prop where
 p:NestP sel ys xs
 inn:∀y∈ys,Rd W y.1.1 y.1.2.1 y.1.2.2 (encL ic (sel y.2))
structure NestL (w0:World) (L:List Res) (sel:β→List γ) (ic:γ→List Value) (ys:List (Hd × β)) (xs:List β):Prop where
 p:NestP sel ys xs
 inn:∀y∈ys,RdL w0 L y.1.1 y.1.2.1 y.1.2.2 (encL ic (sel y.2))
variable {w0 W : World} {L : List Res} {ys : List (Hd × β)} {xs : List β}
theorem NestL.arg (h:NestW w0 sel ic ys xs):NestL w0 L sel ic ys xs:=⟨h.p,fun y hy=>RdL.arg (h.inn y hy)⟩
theorem NestL.at (h:NestL w0 L sel ic ys xs) (W:World) (hW:Ext w0 W L):NestW W sel ic ys xs:=⟨h.p,fun y hy=>h.inn y hy W hW⟩
theorem NestW.later {W':World} (h:NestW W sel ic ys xs) (hb:Below W.heap.size W W'):NestW W' sel ic ys xs:=⟨h.p,fun y hy=>(h.inn y hy).later hb⟩
theorem NestP.hn {n:Nat} (h:NestP sel ys xs) (hn:n=xs.length):n=ys.length:=by rw[hn,←h.eq,List.length_map]
variable [Inhabited β] [Inhabited γ]
omit [Inhabited γ] in
theorem NestP.snd (h:NestP sel ys xs) (i:Int):(rdL ys i).2=rdL xs i:=rdL_snd h.eq i
omit [Inhabited γ] in
theorem NestP.len (h:NestP sel ys xs) {i:Int} (h0:0≤i) (h1:i<(xs.length:Int)):(rdL ys i).1.2.1=(sel (rdL xs i)).length:=by
 have hl:xs.length=ys.length:=h.hn O
 rw[←h.snd i]
 exact h.ln _ (rk h0 (by omega))
omit [Inhabited γ] in
theorem NestL.rd (h:NestL w0 L sel ic ys xs) {i:Int} (h0:0≤i) (h1:i<(xs.length:Int)):RdL w0 L (rdL ys i).1.1 (sel (rdL xs i)).length (rdL ys i).1.2.2 (encL ic (sel (rdL xs i))):=by
 have hl:xs.length=ys.length:=h.p.hn O
 have h2:=h.p.len h0 h1
 have h3:=h.inn _ (rk (xs:=ys) h0 (by omega))
 rw[h2,h.p.snd i]at h3
 exact h3
end
theorem nI {cs vs us:List Value} {j:Nat} (he:vs=us) (h:∀q v,us[q]? = some v→cs[j+q]? = some v):∀q v,vs[q]? = some v→cs[j+q]? = some v:=by subst he;exact h
open Go.RowKit (Below)
section
variable {r : Option Nat} {n : Nat} {P : Program} {ops : Array Oper} {Q : Exit → Act → World → Prop}
def gP (Q:Exit→Act→World→Prop):Exit→Act→World→Prop:=fun e a w=>e=.normal∧Q .normal a w
def freeB (ops:Array Oper) (k i:Nat):Bool:=decide (i<k)&&match ops[i]? with
 | some ⟨some _,.move _,_,_,af,none⟩=>af.all fun e => !Region.binds .any e
 | _=>false
def tailF (ops:Array Oper) (fr:List Nat) (k:Nat):Bool :=
 decide (k≤ops.size)&&(decide (k=ops.size)||(
 (List.range k).all (fun i=>fr.contains i||(List.range (k+1)).any fun j=>decide (i<j)&&tailB.Region.waitsB ops j i) &&
 (List.range ops.size).all fun t=>decide (t≤k)||tailB.Region.waitsB ops t (t-1)))&&fr.all (freeB ops k)
theorem wpIn_past {o:Oper} {a:Act} {d:Tmp} {v:Value} {W:World} {K:Act→World→Prop} (hs:∀cs b,o.op ≠ .select cs b) (hd:∀c,o.op ≠ .defer c) (hdst:o.dst≠some d) (hev:∀x∈o.op.operands,a.eval x=(a.put (some d) v).eval x)
  {x:Operand} (hx:∀u,(a.put o.dst u).eval x=a.eval x) (h:o.wpIn (Fw r) n P (a.put (some d) v) W K (gP Q)):o.wpIn (Fw r) n P a W (fun a' W'=>a'.eval x=a.eval x∧K (a'.put (some d) v) W') (gP Q):=by
 refine⟨fun _ _=>by cases r <;> trivial,?_⟩
 have h2:=h.2
 have e:o.semAt r a.eval=o.semAt r (a.put (some d) v).eval:=by
  have e1:execOp a.eval o=execOp (a.put (some d) v).eval o:=execOp_congr o hs hev
  cases r with
  | none=>rw[Oper.semAt_none,Oper.semAt_none,e1]
  | some l=>rw[Oper.semAt_some l _ o hd,Oper.semAt_some l _ o hd,e1]
 have e0:(Fw r).round=r:=by cases r <;> rfl
 rw[e0]at h2 ⊢
 rw[e]
 have hp:∀u,(a.put o.dst u).put (some d) v=(a.put (some d) v).put o.dst u:=fun u=>Act.put_comm _ _ _ (fun d' h1 h2=>by
  rw[h1]at hdst
  exact hdst h2.symm)
 generalize (o.semAt r (a.put (some d) v).eval).run P W=res at h2 ⊢
 match res,h2 with
 | .ok (.value u) W',h2=>refine⟨hx u,?_⟩;rw[hp];exact h2
 | .ok .skip W',h2=>refine⟨hx undef,?_⟩;rw[hp];exact h2
 | .ok (.defer d') W',h2 =>
  refine⟨(by have:=hx undef;rw[←this];cases o.dst <;> rfl),?_⟩
  have:({ a with defers:=d'::a.defers }.put o.dst undef).put (some d) v=({ (a.put (some d) v)with defers:=d'::(a.put (some d) v).defers }).put o.dst undef:=by
   rw[Act.put_comm _ _ _ (fun d' h1 h2=>by rw[h1]at hdst;exact hdst h2.symm)]
   rfl
  rw[this]
  exact h2
 | .ok (.enter f args) W',h2 =>
  refine⟨h2.1,h2.2.mono ?_⟩
  rintro(_|_|_) w hw
  ·refine⟨hx _,?_⟩;rw[hp];exact hw
  ·exact absurd hw.1 (by intro h;cases h)
  ·exact hw
 | .ok (.row row args) W',h2 =>
  refine⟨h2.1,?_⟩
  have h3:=h2.2
  have e9:(fun(u:Value) (w:World)=>(a.put o.dst u).eval x=a.eval x∧K ((a.put o.dst u).put (some d) v) w)=fun u w=>K ((a.put (some d) v).put o.dst u) w:=by funext u w;rw[hp,hx u];simp
  show RowsIn _ _ _ _ _ _ (fun(u:Value) (w:World)=>(a.put o.dst u).eval x=a.eval x∧K ((a.put o.dst u).put (some d) v) w)
  rw[e9]
  exact h3
 | .ok (.round l f tmps assign body) W',h2 =>
  refine⟨h2.1,h2.2.mono ?_⟩
  rintro(_|_|_) w hw
  ·refine⟨hx _,?_⟩;rw[hp];exact hw
  ·exact absurd hw.1 (by intro h;cases h)
  ·exact hw
 | .halt (.panic u) W',h2=>exact absurd h2.1 (by intro h;cases h)
theorem any_front (hO:iA ops=true) {i d:Nat} {x:Operand} {ty:TypeId} {pos:String} {af:Array Edge} (ho:ops[i]? = some ⟨some d,.move x,ty,pos,af,none⟩) (haf:∀e∈af,Region.binds .any e=false):∀(c:Nat) (listed:Array Bool) (a:Act) (W:World),listed.size=ops.size→listed.getD i false=false →
  (∀j oj,ops[j]? = some oj→listed.getD j false=true→∀e∈oj.after,Region.binds .any e=true→listed.getD e.on false=true) →
  wpAnyIn (Fw r) n P .any ops (gP Q) c (listed.setIfInBounds i true) (a.put (some d) (a.eval x)) W→wpAnyIn (Fw r) n P .any ops (gP Q) (c+1) listed a W:=by
 intro c
 have hlt:i<ops.size:=(Array.getElem?_eq_some_iff.1 ho).1
 induction c with
 | zero =>
  intro listed a W hsz hun hcl h
  refine⟨fun h0=>?_,fun j hj=>?_⟩
  ·have:i∈Region.ready .any ops listed:=mem_ready.2 ⟨by rw[bP (by omega) true false];exact hun,_,ho,fun e he hb=>by rw[haf e he]at hb;cases hb⟩
   rw[h0]at this;cases this
  ·by_cases e:j=i
   ·subst e
    unfold wpOpIn
    simp only[ho]
    rw[if_pos (show Region.wanted (⟨some d,.move x,ty,pos,af,none⟩:Oper) (yielded ops a.tmps)=true from O)]
    exact g8 (C:=fun W'=>W'=W) (C':=fun W'=>W'=W) (iP O) O (fun W' hW'=>by subst hW';exact h)
   ·obtain⟨hu,oj,hoj,hall⟩:=mem_ready.1 hj
    have hjs:j<ops.size:=(Array.getElem?_eq_some_iff.1 hoj).1
    have hj':j∈Region.ready .any ops (listed.setIfInBounds i true):=mem_ready.2 ⟨by
     rw[bP (by simp;omega) true false,aY (by omega),bP (by omega) false true,hu];simpa using e,oj,hoj,fun e' he hb=>by rw[aY (by omega),hall e' he hb];rfl⟩
    rw[h.1]at hj';cases hj'
 | succ c ih =>
  intro listed a W hsz hun hcl h
  refine⟨fun h0=>?_,fun j hj=>?_⟩
  ·have:i∈Region.ready .any ops listed:=mem_ready.2 ⟨by rw[bP (by omega) true false];exact hun,_,ho,fun e he hb=>by rw[haf e he]at hb;cases hb⟩
   rw[h0]at this;cases this
  ·by_cases e:j=i
   ·subst e
    unfold wpOpIn
    simp only[ho]
    rw[if_pos (show Region.wanted (⟨some d,.move x,ty,pos,af,none⟩:Oper) (yielded ops a.tmps)=true from O)]
    exact g8 (C:=fun W'=>W'=W) (C':=fun W'=>W'=W) (iP O) O (fun W' hW'=>by subst hW';exact h)
   ·obtain⟨hu,oj,hoj,hall⟩:=mem_ready.1 hj
    have hjs:j<ops.size:=(Array.getElem?_eq_some_iff.1 hoj).1
    have hj':j∈Region.ready .any ops (listed.setIfInBounds i true):=mem_ready.2 ⟨by
     rw[bP (by simp;omega) true false,aY (by omega),bP (by omega) false true,hu];simpa using e,oj,hoj,fun e' he hb=>by rw[aY (by omega),hall e' he hb];rfl⟩
    have h2:=h.2 j hj'
    have hap:(∀q,oj.dst=some q→q∉(⟨some d,.move x,ty,pos,af,none⟩:Oper).looksAt ops)∧oj.dst≠some d∧d∉oj.looksAt ops:=by
     rcases Nat.lt_or_ge i j with hij|hij
     ·rcases (aK hO hoj).2.2.2 i _ hij ho with hap|⟨e',he,hb,hon⟩
      ·have:=Oper.apart_spec hap
       exact⟨this.2.2,this.2.1 d O,this.1 d O⟩
      ·have:=hall e' he hb
       rw[hon,hun]at this;cases this
     ·rcases (aK hO ho).2.2.2 j oj (by omega) hoj with hap|⟨e',he,hb,hon⟩
      ·have:=Oper.apart_spec hap
       exact⟨this.1,fun hc=>this.2.1 d hc O,this.2.2 d O⟩
      ·rw[haf e' he]at hb;cases hb
    obtain⟨hap1,hap2,hap3⟩:=hap
    obtain⟨hsel,hdef,_,_⟩:=aK hO hoj
    have hsame:=gD (ops:=ops) (o:=oj) (a:=a) (b:=a.put (some d) (a.eval x)) (fun y hy=>(rm a (some d) _ y (by intro hc;cases hc;exact hap3 hy)).symm)
    have hxe:∀u,(a.put oj.dst u).eval x=a.eval x:=fun u=>Act.eval_put (fun q hq hx=>hap1 q hq (by
     rw[hx]
     unfold Oper.looksAt
     exact List.mem_append_left _ (List.mem_filterMap.2 ⟨.tmp q,by simp[Op.operands],O⟩)))
    have hset:(listed.setIfInBounds i true).setIfInBounds j true=(listed.setIfInBounds j true).setIfInBounds i true:=by
     apply Array.ext_getElem?
     intro q
     simp only[Array.getElem?_setIfInBounds]
     by_cases h1:j=q <;> by_cases h2:i=q <;> simp[h1,h2,hsz] <;> omega
    have hcl2:∀q oq,ops[q]? = some oq→(listed.setIfInBounds j true).getD q false=true→∀e∈oq.after,Region.binds .any e=true→(listed.setIfInBounds j true).getD e.on false=true:=fun q oq hoq hlq e' he hb=>by
     rw[aY (by omega)]at hlq ⊢
     by_cases eq:q=j
     ·subst eq
      rw[hoj]at hoq;cases hoq
      rw[hall e' he hb];rfl
     ·have:(q==j)=false:=by simpa using eq
      rw[this,Bool.or_false]at hlq
      rw[hcl q oq hoq hlq e' he hb];rfl
    have hun2:(listed.setIfInBounds j true).getD i false=false:=by
     rw[aY (by omega),hun];simp;omega
    unfold wpOpIn at h2 ⊢
    simp only[hoj]at h2 ⊢
    rw[hsame.2]
    split
    ·rename_i hw
     rw[if_pos hw]at h2
     refine Oper.wpIn_mono (fun a' W' h5=>?_) (wpIn_past (r:=r) (x:=x) hsel hdef hap2 hsame.1 hxe h2)
     refine ih _ _ _ (by simpa using hsz) hun2 hcl2 ?_
     rw[h5.1,←hset]
     exact h5.2
    ·rename_i hw
     rw[if_neg hw]at h2
     refine⟨fun _ _=>by cases r <;> trivial,?_⟩
     refine ih _ _ _ (by simpa using hsz) hun2 hcl2 ?_
     rw[hxe,←hset]
     have h4:=h2.2
     rw[Act.put_comm _ _ _ (fun d' h1 h2=>by rw[h1]at hap2;exact hap2 h2.symm)]
     exact h4
theorem sink {fr:List Nat} {k:Nat} (hkN:k≤ops.size)
  (hT:k=ops.size∨(List.range k).all (fun i=>fr.contains i||(List.range (k+1)).any fun j=>decide (i<j)&&tailB.Region.waitsB ops j i)=true∧((List.range ops.size).all fun t=>decide (t≤k)||tailB.Region.waitsB ops t (t-1))=true) :
  ∀(listed:Array Bool),listed.size=ops.size→(∀j oj,ops[j]? = some oj→listed.getD j false=true→∀e∈oj.after,Region.binds .any e=true→listed.getD e.on false=true) →
   (∀t,k≤t→t<ops.size→listed.getD t false=false)→(∀i,i∈fr→listed.getD i false=true)→∀(d i:Nat),k-i=d→i<k→listed.getD i false=false→∀t,k≤t→t∉Region.ready .any ops listed:=by
 have hchain:∀t,k<t→t<ops.size→tailB.Region.waitsB ops t (t-1)=true:=fun t h1 h2=>by
  rcases hT with hT|hT
  ·omega
  ·have:=List.all_eq_true.1 hT.2 t (List.mem_range.2 h2)
   simp only[Bool.or_eq_true,decide_eq_true_eq]at this
   rcases this with h|h
   ·omega
   ·exact h
 intro listed hsz hcl htl hfr d
 induction d using Nat.strongRecOn with
 | _ d ih =>
  intro i hd hi hun t ht hr
  obtain⟨htu,ot,hot,hall⟩:=mem_ready.1 hr
  have htlt:t<ops.size:=(Array.getElem?_eq_some_iff.1 hot).1
  have hT':(List.range k).all (fun i=>fr.contains i||(List.range (k+1)).any fun j=>decide (i<j)&&tailB.Region.waitsB ops j i)=true:=by
   rcases hT with hT|hT
   ·omega
   ·exact hT.1
  by_cases htk:t=k
  ·subst htk
   have h1:=List.all_eq_true.1 hT' i (List.mem_range.2 hi)
   rw[Bool.or_eq_true]at h1
   have h1:=h1.resolve_left (fun hc=>by
    have:=hfr i (by simpa using hc)
    rw[hun]at this;cases this)
   obtain⟨j,hj,hj2⟩:=List.any_eq_true.1 h1
   simp only[Bool.and_eq_true,decide_eq_true_eq]at hj2
   obtain⟨oj,hoj,e,he,hb,hon⟩:=ie hj2.2
   have hjle:j≤t:=by have:=List.mem_range.1 hj;omega
   by_cases hjt:j=t
   ·subst hjt
    rw[hot]at hoj;cases hoj
    have h2:=hall e he hb
    rw[hon,hun]at h2;cases h2
   ·cases hlj:listed.getD j false with
    | true =>
     have h2:=hcl j oj hoj hlj e he hb
     rw[hon,hun]at h2;cases h2
    | false=>exact ih (t-j) (by omega) j O (by omega) hlj t (Nat.le_refl _) hr
  ·obtain⟨oj,hoj,e,he,hb,hon⟩:=ie (hchain t (by omega) htlt)
   rw[hot]at hoj;cases hoj
   have h2:=hall e he hb
   rw[hon,htl (t-1) (by omega) (by omega)]at h2;cases h2
theorem nR {l:List Oper} (hops:ops=l.toArray) (fr:List Nat) {k:Nat} (hO:iA ops=true) (hkN:k≤ops.size)
  (hT:k=ops.size∨(List.range k).all (fun i=>fr.contains i||(List.range (k+1)).any fun j=>decide (i<j)&&tailB.Region.waitsB ops j i)=true∧((List.range ops.size).all fun t=>decide (t≤k)||tailB.Region.waitsB ops t (t-1))=true)
  {a0:Act} {vals:Nat→Value} {acts:Nat→Act} {C:World→Prop} (hst:∀m,acts m=stA ops vals a0 (fun _=>true) m)
  (hvals:∀(j:Nat) (o:Oper),j<k→j∉fr→ops[j]? = some o→(Region.wanted o (yielded ops (acts j).tmps)=true∧OpY r n P o (acts j).eval C C (vals j))∨(Region.wanted o (yielded ops (acts j).tmps)=false∧vals j=undef))
  (hK:∀W,C W→OL r n P ops (gP Q) (l.drop k) (acts k) W) :
  ∀(c:Nat) (listed:Array Bool) (W:World),C W→listed.size=ops.size→left listed k=c →
   (∀j oj,ops[j]? = some oj→listed.getD j false=true→∀e∈oj.after,Region.binds .any e=true→listed.getD e.on false=true) →
   (∀t,k≤t→t<ops.size→listed.getD t false=false)→(∀i,i∈fr→listed.getD i false=true) →
   wpAnyIn (Fw r) n P .any ops (gP Q) (c+(ops.size-k)) listed (stA ops vals a0 (fun j=>listed.getD j false) k) W:=by
 have hchain:∀t,k<t→t<ops.size→tailB.Region.waitsB ops t (t-1)=true:=fun t h1 h2=>by
  rcases hT with hT|hT
  ·omega
  ·have:=List.all_eq_true.1 hT.2 t (List.mem_range.2 h2)
   simp only[Bool.or_eq_true,decide_eq_true_eq]at this
   rcases this with h|h
   ·omega
   ·exact h
 -- while an operation of the first k is still to come,no later one comes up
 have hsink:∀(listed:Array Bool),listed.size=ops.size→(∀j oj,ops[j]? = some oj→listed.getD j false=true→∀e∈oj.after,Region.binds .any e=true→listed.getD e.on false=true) →
   (∀t,k≤t→t<ops.size→listed.getD t false=false)→(∀i,i∈fr→listed.getD i false=true)→∀(d i:Nat),k-i=d→i<k→listed.getD i false=false→∀t,k≤t→t∉Region.ready .any ops listed:=by
  intro listed hsz hcl htl hfr d
  induction d using Nat.strongRecOn with
  | _ d ih =>
   intro i hd hi hun t ht hr
   obtain⟨htu,ot,hot,hall⟩:=mem_ready.1 hr
   have htlt:t<ops.size:=(Array.getElem?_eq_some_iff.1 hot).1
   have hT':(List.range k).all (fun i=>fr.contains i||(List.range (k+1)).any fun j=>decide (i<j)&&tailB.Region.waitsB ops j i)=true:=by
    rcases hT with hT|hT
    ·omega
    ·exact hT.1
   by_cases htk:t=k
   ·subst htk
    have h1:=List.all_eq_true.1 hT' i (List.mem_range.2 hi)
    rw[Bool.or_eq_true]at h1
    have h1:=h1.resolve_left (fun hc=>by
     have:=hfr i (by simpa using hc)
     rw[hun]at this;cases this)
    obtain⟨j,hj,hj2⟩:=List.any_eq_true.1 h1
    simp only[Bool.and_eq_true,decide_eq_true_eq]at hj2
    obtain⟨oj,hoj,e,he,hb,hon⟩:=ie hj2.2
    have hjle:j≤t:=by have:=List.mem_range.1 hj;omega
    by_cases hjt:j=t
    ·subst hjt
     rw[hot]at hoj;cases hoj
     have h2:=hall e he hb
     rw[hon,hun]at h2;cases h2
    ·cases hlj:listed.getD j false with
     | true =>
      have h2:=hcl j oj hoj hlj e he hb
      rw[hon,hun]at h2;cases h2
     | false=>exact ih (t-j) (by omega) j O (by omega) hlj t (Nat.le_refl _) hr
   ·obtain⟨oj,hoj,e,he,hb,hon⟩:=ie (hchain t (by omega) htlt)
    rw[hot]at hoj;cases hoj
    have h2:=hall e he hb
    rw[hon,htl (t-1) (by omega) (by omega)]at h2;cases h2
 intro c
 induction c with
 | zero =>
  intro listed W hC hsz hc hcl htl hfr
  have hall:=mS hc
  have hs:stA ops vals a0 (fun j=>listed.getD j false) k=acts k:=by
   rw[hst k]
   have:∀m,m≤k→stA ops vals a0 (fun j=>listed.getD j false) m=stA ops vals a0 (fun _=>true) m:=by
    intro m
    induction m with
    | zero=>intro _;rfl
    | succ m ih=>intro hm;simp only[stA,ih (show m≤k by omega),hall m (by omega)]
   exact this k (Nat.le_refl _)
  rw[hs,Nat.zero_add]
  exact tail_any hops hO hchain _ k listed _ W O (Nat.le_refl _) hkN hsz (fun j hj=>by
   by_cases h:j<k
   ·rw[hall j h];simp[h]
   ·rw[htl j (by omega) hj];simp[h]) (hK W hC)
 | succ c ih =>
  intro listed W hC hsz hc hcl htl hfr
  -- one of the first k is still to come
  have hex:∃i,i<k∧listed.getD i false=false:=by
   apply Classical.byContradiction
   intro hno
   have:left listed k=0:=by
    unfold left
    rw[List.filter_eq_nil_iff.2 fun j hj=>?_]
    ·rfl
    ·have hj':=List.mem_range.1 hj
     cases hl:listed.getD j false with
     | true=>simp
     | false=>exact absurd ⟨j,hj',hl⟩ hno
   omega
  obtain⟨i0,hi0,hun0⟩:=hex
  have hrdy:∀j,j<ops.size→listed.getD j false=false→∃i,i∈Region.ready .any ops listed:=by
   intro j
   induction j using Nat.strongRecOn with
   | _ j ihj =>
    intro hj hun
    obtain⟨o,ho⟩:∃o,ops[j]? = some o:=⟨_,Array.getElem?_eq_some_iff.2 ⟨hj,O⟩⟩
    by_cases hall:∀e∈o.after,Region.binds .any e=true→listed.getD e.on false=true
    ·exact⟨j,mem_ready.2 ⟨by rw[bP (by omega) true false];exact hun,o,ho,hall⟩⟩
    ·have:∃e∈o.after,Region.binds .any e=true∧listed.getD e.on false=false:=by
      apply Classical.byContradiction
      intro hno
      exact hall fun e he hb=>by
       cases hl:listed.getD e.on false with
       | true=>rfl
       | false=>exact absurd ⟨e,he,hb,hl⟩ hno
     obtain⟨e,he,hb,hf⟩:=this
     have hlt:=(aK hO ho).2.2.1 e he hb
     exact ihj e.on hlt (by omega) hf
  obtain⟨i1,hi1⟩:=hrdy i0 (by omega) hun0
  rw[show c+1+(ops.size-k)=(c+(ops.size-k))+1 by omega]
  refine⟨fun h=>(by rw[h]at hi1;cases hi1),fun i hi=>?_⟩
  obtain⟨hun,o,ho,hall⟩:=mem_ready.1 hi
  have hlt:i<ops.size:=(Array.getElem?_eq_some_iff.1 ho).1
  have hik:i<k:=by
   rcases Nat.lt_or_ge i k with h|h
   ·exact h
   ·exact absurd hi (hsink listed hsz hcl htl hfr _ i0 O hi0 hun0 i h)
  rw[bP (by omega) true false]at hun
  obtain⟨hsel,hdef,_,hord⟩:=aK hO ho
  -- what it looks at is as in the text's order
  have hlook:∀j,j<k→(listed.getD j false)≠decide (j<i)→∀d,eY ops j=some d→¬d∈o.looksAt ops:=by
   intro j hj hne d hd hmem
   obtain⟨oj,hoj⟩:∃oj,ops[j]? = some oj:=⟨_,Array.getElem?_eq_some_iff.2 ⟨by omega,O⟩⟩
   have hdj:oj.dst=some d:=by simpa [eY,hoj]using hd
   rcases Nat.lt_trichotomy j i with h|h|h
   ·-- not listed,yet the operation is ready: it does not wait for it
    have hl:listed.getD j false=false:=by
     cases hl:listed.getD j false with
     | false=>rfl
     | true=>exact absurd (by rw[hl];simp[h]) hne
    rcases hord j oj h hoj with hap|⟨e,he,hb,hon⟩
    ·exact(Oper.apart_spec hap).1 d hdj hmem
    ·have:=hall e he hb
     rw[hon,hl]at this;cases this
   ·subst h
    exact absurd (by rw[hun];simp) hne
   ·have hl:listed.getD j false=true:=by
     cases hl:listed.getD j false with
     | true=>rfl
     | false=>exact absurd (by rw[hl];simp;omega) hne
    rcases (aK hO hoj).2.2.2 i o h ho with hap|⟨e,he,hb,hon⟩
    ·exact(Oper.apart_spec hap).2.2 d hdj hmem
    ·have:=hcl j oj hoj hl e he hb
     rw[hon,hun]at this;cases this
  have hag:=jS (ops:=ops) vals a0 (fun x=>x∈o.looksAt ops) (fun j=>listed.getD j false) (fun j=>decide (j<i)) k hlook
  have hlex:stA ops vals a0 (fun j=>decide (j<i)) k=acts i:=by
   rw[hst i]
   have h1:∀m,m≤i→stA ops vals a0 (fun j=>decide (j<i)) m=stA ops vals a0 (fun _=>true) m:=by
    intro m
    induction m with
    | zero=>intro _;rfl
    | succ m ih=>intro hm;simp only[stA];rw[ih (by omega)];simp;omega
   have h2:∀m,i≤m→stA ops vals a0 (fun j=>decide (j<i)) m=stA ops vals a0 (fun j=>decide (j<i)) i:=by
    intro m
    induction m with
    | zero =>
     intro h
     have:i=0:=by omega
     subst this;rfl
    | succ m ih =>
     intro hm
     by_cases e:i=m+1
     ·rw[e]
     ·simp only[stA]
      rw[if_neg (by simp;omega)]
      exact ih (by omega)
   rw[h2 k (by omega),h1 i (Nat.le_refl _)]
  rw[hlex]at hag
  obtain⟨hev,hwa⟩:=gD (ops:=ops) (o:=o) (a:=stA ops vals a0 (fun j=>listed.getD j false) k) (b:=acts i) hag.1
  have hins:stA ops vals a0 (fun j=>(listed.setIfInBounds i true).getD j false) k=(stA ops vals a0 (fun j=>listed.getD j false) k).put o.dst (vals i):=by
   have e1:(fun j=>(listed.setIfInBounds i true).getD j false)=fun j=>listed.getD j false||j==i:=funext fun j=>aY (by omega)
   rw[e1,kN (ops:=ops) vals a0 (fun j=>listed.getD j false) i hun k hik (fun j h1 h2 hS d hd he=>?_)]
   ·congr 1
    simp[eY,ho]
   ·obtain⟨oj,hoj⟩:∃oj,ops[j]? = some oj:=⟨_,Array.getElem?_eq_some_iff.2 ⟨by omega,O⟩⟩
    have hdj:oj.dst=some d:=by simpa [eY,hoj]using hd
    have hdi:o.dst=some d:=by simpa [eY,ho]using he
    rcases (aK hO hoj).2.2.2 i o h1 ho with hap|⟨e,he,hb,hon⟩
    ·exact(Oper.apart_spec hap).2.1 d hdi hdj
    ·have:=hcl j oj hoj hS e he hb
     rw[hon,hun]at this;cases this
  have hgo:∀W',C W'→wpAnyIn (Fw r) n P .any ops (gP Q) (c+(ops.size-k)) (listed.setIfInBounds i true) ((stA ops vals a0 (fun j=>listed.getD j false) k).put o.dst (vals i)) W':=fun W' hC'=>by
   rw[←hins]
   have hl:=lS (by omega) hun k hik
   refine ih _ W' hC' (by simpa using hsz) (by omega) (fun j oj hoj hlj e he hb=>?_) (fun t h1 h2=>?_) (fun i' hi'=>by rw[aY (by omega),hfr i' hi'];rfl)
   ·rw[aY (by omega)]at hlj ⊢
    by_cases e':j=i
    ·subst e'
     rw[ho]at hoj;cases hoj
     rw[hall e he hb];rfl
    ·have:(j==i)=false:=by simpa using e'
     rw[this,Bool.or_false]at hlj
     rw[hcl j oj hoj hlj e he hb];rfl
   ·rw[aY (by omega),htl t h1 h2]
    simp;omega
  unfold wpOpIn
  simp only[ho]
  rcases hvals i o hik (fun hfi=>by rw[hfr i hfi]at hun;cases hun) ho with⟨hw,hy⟩|⟨hw,hv⟩
  ·rw[hwa,if_pos hw]
   refine g8 (mW hsel hdef (fun x hx=>(hev x hx).symm) hy) hC ?_
   exact hgo
  ·rw[hwa,if_neg (by rw[hw];simp)]
   refine⟨fun _ _=>trivial,?_⟩
   have:=hgo W hC
   rwa [hv]at this
theorem wp_drawsF {l:List Oper} (fr:List Nat) (k:Nat) (hm:P.follows .mixedOrders=true) (hO:iA l.toArray=true) (hT:tailF l.toArray fr k=true) {id:Nat} {a0:Act} {W0:World} {C:World→Prop}
  (h0:C { W0 with drawn:=W0.drawn+1 })
  (hq:QW r n P l.toArray C (fun a'=>∀W,C W→OL r n P l.toArray (gP Q) (l.drop k) a' W) (l.take k) a0):(Code.region id l.toArray true).wpIn (Fw r) n P Q a0 W0:=by
 refine wpIn_mono (Q:=gP Q) ?_ (fun e a w h=>by obtain⟨rfl,h⟩:=h;exact h)
 refine wpIn_region_any hm ?_
 obtain⟨ops,hops⟩:∃ops,ops=l.toArray:=⟨_,O⟩
 rw[←hops]at hO hT hq ⊢
 unfold tailF at hT
 simp only[Bool.and_eq_true,Bool.or_eq_true,decide_eq_true_eq]at hT
 obtain⟨⟨hkN,hT⟩,hF⟩:=hT
 have hlen:(l.take k).length=k:=by rw[hops]at hkN;simp at hkN;simp;omega
 obtain⟨vals,acts,ha0,hacts,hvals,hK⟩:=tU (l.take k) 0 a0 (fun j hj=>by
  rw[hlen]at hj
  rw[hops];simp[hj]) hq
 rw[hlen]at hvals hK
 have hst:∀m,acts m=stA ops vals a0 (fun _=>true) m:=by
  intro m
  induction m with
  | zero=>exact ha0
  | succ m ih=>rw[hacts m,Nat.zero_add,ih];simp[stA]
 have main:=nR (r:=r) (n:=n) (P:=P) (Q:=Q) hops fr hO hkN hT (vals:=vals) (acts:=acts) (C:=C) hst (fun j o hj _ ho=>hvals j o hj (by rw[Nat.zero_add];exact ho)) hK
 -- the free ones come first
 have hfree:∀i∈fr,i<k∧∃d x ty pos af,ops[i]? = some ⟨some d,.move x,ty,pos,af,none⟩∧∀e∈af,Region.binds .any e=false:=fun i hi=>by
  have h1:=List.all_eq_true.1 hF i hi
  unfold freeB at h1
  simp only[Bool.and_eq_true,decide_eq_true_eq]at h1
  obtain⟨h1,h2⟩:=h1
  split at h2
  ·rename_i d x ty pos af ho
   exact⟨h1,d,x,ty,pos,af,ho,fun e he=>by simpa using Array.all_eq_true'.1 h2 e he⟩
  ·cases h2
 have front:∀(fs:List Nat),(∀i∈fs,i∈fr)→∀(listed:Array Bool) (c:Nat),listed.size=ops.size →
   (∀j oj,ops[j]? = some oj→listed.getD j false=true→∀e∈oj.after,Region.binds .any e=true→listed.getD e.on false=true) →
   (∀t,k≤t→t<ops.size→listed.getD t false=false)→(∀i∈fr,i∈fs∨listed.getD i false=true)→left listed k+(ops.size-k)=c →
   wpAnyIn (Fw r) n P .any ops (gP Q) c listed (stA ops vals a0 (fun j=>listed.getD j false) k) { W0 with drawn:=W0.drawn+1 }:=by
  intro fs
  induction fs with
  | nil =>
   intro _ listed c hsz hcl htl hfr hc
   rw[←hc]
   exact main _ listed _ h0 hsz O hcl htl (fun i hi=>(hfr i hi).elim (fun h=>absurd h List.not_mem_nil) (fun h=>h))
  | cons i fs ih =>
   intro hsub listed c hsz hcl htl hfr hc
   obtain⟨hik,d,x,ty,pos,af,ho,haf⟩:=hfree i (hsub i (List.mem_cons_self ..))
   have hlt:i<ops.size:=by omega
   cases hun:listed.getD i false with
   | true =>
    refine ih (fun j hj=>hsub j (List.mem_cons_of_mem _ hj)) listed c hsz hcl htl (fun j hj=>?_) hc
    rcases hfr j hj with h|h
    ·rcases List.mem_cons.1 h with rfl|h
     ·exact .inr hun
     ·exact .inl h
    ·exact .inr h
   | false =>
    have hl:=lS (by omega) hun k hik
    have hcl':∀j oj,ops[j]? = some oj→(listed.setIfInBounds i true).getD j false=true→∀e∈oj.after,Region.binds .any e=true→(listed.setIfInBounds i true).getD e.on false=true:=fun j oj hoj hlj e he hb=>by
     rw[aY (by omega)]at hlj ⊢
     by_cases e':j=i
     ·subst e'
      rw[ho]at hoj;cases hoj
      rw[haf e he]at hb;cases hb
     ·have:(j==i)=false:=by simpa using e'
      rw[this,Bool.or_false]at hlj
      rw[hcl j oj hoj hlj e he hb];rfl
    obtain⟨c',rfl⟩:∃c',c=c'+1:=⟨c-1,by omega⟩
    have h7:=ih (fun j hj=>hsub j (List.mem_cons_of_mem _ hj)) (listed.setIfInBounds i true) c' (by simpa using hsz) hcl'
     (fun t h1 h2=>by rw[aY (by omega),htl t h1 h2];simp;omega)
     (fun j hj=>by
      rw[aY (by omega)]
      rcases hfr j hj with h|h
      ·rcases List.mem_cons.1 h with rfl|h
       ·right;simp
       ·exact .inl h
      ·right;rw[h];rfl) (by omega)
    refine any_front hO ho haf c' listed _ _ hsz hun hcl ?_
    have e1:(fun j=>(listed.setIfInBounds i true).getD j false)=fun j=>listed.getD j false||j==i:=funext fun j=>aY (by omega)
    rw[e1,kN (ops:=ops) vals a0 (fun j=>listed.getD j false) i hun k hik (fun j h1 h2 hS d' hd he=>?_)]at h7
    ·have e2:eY ops i=some d:=by simp[eY,ho]
     have e3:vals i=(stA ops vals a0 (fun j=>listed.getD j false) k).eval x:=by
      rcases hvals i _ hik (by rw[Nat.zero_add];exact ho)with⟨_,hy⟩|⟨hw,_⟩
      ·have h8:=hy _ h0
       have e4:((⟨some d,.move x,ty,pos,af,none⟩:Oper).semAt r (acts i).eval).run P { W0 with drawn:=W0.drawn+1 }=.ok (.value ((acts i).eval x)) { W0 with drawn:=W0.drawn+1 }:=by
        cases r with
        | none=>rw[Oper.semAt_none];rfl
        | some l'=>rw[Oper.semAt_some l' _ _ (by intro c h;cases h)];rfl
       rw[e4]at h8
       have h9:(acts i).eval x=vals i:=h8.1
       rw[←h9]
       -- what it looks at
       cases x with
       | tmp q =>
        refine rv ?_
        have hag:=jS (ops:=ops) vals a0 (fun y=>y=q) (fun j=>listed.getD j false) (fun j=>decide (j<i)) k (fun j hj hne d' hd' hq'=>by
         obtain⟨oj,hoj⟩:∃oj,ops[j]? = some oj:=⟨_,Array.getElem?_eq_some_iff.2 ⟨by omega,O⟩⟩
         have hdj:oj.dst=some d':=by simpa [eY,hoj]using hd'
         have hlk:d'∈(⟨some d,.move (.tmp q),ty,pos,af,none⟩:Oper).looksAt ops:=by
          rw[hq']
          unfold Oper.looksAt
          exact List.mem_append_left _ (List.mem_filterMap.2 ⟨.tmp q,by simp[Op.operands],O⟩)
         rcases Nat.lt_trichotomy j i with h|h|h
         ·rcases (aK hO ho).2.2.2 j oj h hoj with hap|⟨e,he,hb,_⟩
          ·exact(Oper.apart_spec hap).1 d' hdj hlk
          ·rw[haf e he]at hb;cases hb
         ·subst h
          exact absurd (by simp[hun]) hne
         ·have hlj:listed.getD j false=true:=by
           cases hl':listed.getD j false with
           | true=>rfl
           | false=>exact absurd (by simp[hl'];omega) hne
          rcases (aK hO hoj).2.2.2 i _ h ho with hap|⟨e,he,hb,hon⟩
          ·exact(Oper.apart_spec hap).2.2 d' hdj hlk
          ·have:=hcl j oj hoj hlj e he hb
           rw[hon,hun]at this;cases this)
        have hlex:stA ops vals a0 (fun j=>decide (j<i)) k=acts i:=by
         rw[hst i]
         have h1:∀m,m≤i→stA ops vals a0 (fun j=>decide (j<i)) m=stA ops vals a0 (fun _=>true) m:=by
          intro m
          induction m with
          | zero=>intro _;rfl
          | succ m ih=>intro hm;simp only[stA];rw[ih (by omega)];simp;omega
         have h2:∀m,i≤m→stA ops vals a0 (fun j=>decide (j<i)) m=stA ops vals a0 (fun j=>decide (j<i)) i:=by
          intro m
          induction m with
          | zero =>
           intro h
           have:i=0:=by omega
           subst this;rfl
          | succ m ih =>
           intro hm
           by_cases e:i=m+1
           ·rw[e]
           ·simp only[stA]
            rw[if_neg (by simp;omega)]
            exact ih (by omega)
         rw[h2 k (by omega),h1 i (Nat.le_refl _)]
        rw[hlex]at hag
        exact(hag.1 q O).symm
       | _=>rfl
      ·have:Region.wanted (⟨some d,.move x,ty,pos,af,none⟩:Oper) (yielded ops (acts i).tmps)=true:=rfl
       rw[this]at hw;cases hw
     rw[e2,e3]at h7
     exact h7
    ·obtain⟨oj,hoj⟩:∃oj,ops[j]? = some oj:=⟨_,Array.getElem?_eq_some_iff.2 ⟨by omega,O⟩⟩
     have hdj:oj.dst=some d':=by simpa [eY,hoj]using hd
     have hdi:(some d)=some d':=by simpa [eY,ho]using he
     rcases (aK hO hoj).2.2.2 i _ h1 ho with hap|⟨e,he,hb,hon⟩
     ·exact(Oper.apart_spec hap).2.1 d' hdi hdj
     ·have:=hcl j oj hoj hS e he hb
      rw[hon,hun]at this;cases this
 have hfin:=front fr (fun i hi=>hi) (Array.replicate ops.size false) _ (by simp) (fun j oj hoj hl=>by
  have:j<ops.size:=(Array.getElem?_eq_some_iff.1 hoj).1
  simp[this]at hl) (fun t _ h=>by simp[h]) (fun i hi=>.inl hi) O
 have e1:left (Array.replicate ops.size false) k+(ops.size-k)=ops.size:=by
  have:left (Array.replicate ops.size false) k=k:=by
   unfold left
   rw[List.filter_eq_self.2 fun j hj=>?_]
   ·simp
   ·have:=List.mem_range.1 hj
    simp[show j<ops.size by omega]
  omega
 have e2:stA ops vals a0 (fun j=>(Array.replicate ops.size false).getD j false) k=a0:=by
  have:∀m,m≤k→stA ops vals a0 (fun j=>(Array.replicate ops.size false).getD j false) m=a0:=by
   intro m
   induction m with
   | zero=>intro _;rfl
   | succ m ih=>intro hm;simp only[stA];rw[ih (by omega)];simp[show m<ops.size by omega]
  exact this k (Nat.le_refl _)
 rw[e1,e2]at hfin
 exact hfin
end
section
variable {r : Option Nat} {n : Nat} {P : Program} {Q : Exit → Act → World → Prop} {w0 : World} {L : List Res} {m : Nat} {tm : Nat → Value} {d : List Deferred}
theorem cx_drawsF (fr:List Nat) (k:Nat) {id:Nat} {l:List Oper} (hm:P.follows .mixedOrders=true) (hO:iA l.toArray=true) (hT:tailF l.toArray fr k=true)
  (h:QX r n P l.toArray (gP Q) w0 L (l.drop k) (l.take k) m tm d):CX r n P (.region id l.toArray true) Q w0 L m tm d :=
 fun _ hW=>wp_drawsF fr k hm hO hT (C:=fun W=>Ext w0 W L) hW.drawn h
theorem kQ (h:EX Q .normal w0 L m tm d):EX (gP Q) .normal w0 L m tm d:=fun W hW=>⟨O,h W hW⟩
end
open Go.RowKit (Below)
section
variable {r : Option Nat} {n : Nat} {P : Program} {ops : Array Oper} {Q : Exit → Act → World → Prop}
theorem o6 {k:Nat} (hO:iA ops=true) (hkN:k≤ops.size) {a0:Act} {vals:Nat→Value} {acts:Nat→Act} {C:World→Prop} (hst:∀m,acts m=stA ops vals a0 (fun _=>true) m)
  {listed:Array Bool} {W:World} (hC:C W) (hsz:listed.size=ops.size)
  (hcl:∀j oj,ops[j]? = some oj→listed.getD j false=true→∀e∈oj.after,Region.binds .any e=true→listed.getD e.on false=true)
  {i:Nat} {o:Oper} (hik:i<k) (hun:listed.getD i true=false) (ho:ops[i]? = some o) (hall:∀e∈o.after,Region.binds .any e=true→listed.getD e.on false=true)
  (hvals:(Region.wanted o (yielded ops (acts i).tmps)=true∧OpY r n P o (acts i).eval C C (vals i))∨(Region.wanted o (yielded ops (acts i).tmps)=false∧vals i=undef)) {K:Act→World→Prop}
  (hK:∀W',C W'→K (stA ops vals a0 (fun j=>(listed.setIfInBounds i true).getD j false) k) W') :
  wpOpIn (Fw r) n P ops (gP Q) i K (stA ops vals a0 (fun j=>listed.getD j false) k) W:=by
 rw[bP (by omega) true false]at hun
 obtain⟨hsel,hdef,_,hord⟩:=aK hO ho
 -- what it looks at is as in the text's order
 have hlook:∀j,j<k→(listed.getD j false)≠decide (j<i)→∀d,eY ops j=some d→¬d∈o.looksAt ops:=by
  intro j hj hne d hd hmem
  obtain⟨oj,hoj⟩:∃oj,ops[j]? = some oj:=⟨_,Array.getElem?_eq_some_iff.2 ⟨by omega,O⟩⟩
  have hdj:oj.dst=some d:=by simpa [eY,hoj]using hd
  rcases Nat.lt_trichotomy j i with h|h|h
  ·-- not listed,yet the operation is ready: it does not wait for it
   have hl:listed.getD j false=false:=by
    cases hl:listed.getD j false with
    | false=>rfl
    | true=>exact absurd (by rw[hl];simp[h]) hne
   rcases hord j oj h hoj with hap|⟨e,he,hb,hon⟩
   ·exact(Oper.apart_spec hap).1 d hdj hmem
   ·have:=hall e he hb
    rw[hon,hl]at this;cases this
  ·subst h
   exact absurd (by rw[hun];simp) hne
  ·have hl:listed.getD j false=true:=by
    cases hl:listed.getD j false with
    | true=>rfl
    | false=>exact absurd (by rw[hl];simp;omega) hne
   rcases (aK hO hoj).2.2.2 i o h ho with hap|⟨e,he,hb,hon⟩
   ·exact(Oper.apart_spec hap).2.2 d hdj hmem
   ·have:=hcl j oj hoj hl e he hb
    rw[hon,hun]at this;cases this
 have hag:=jS (ops:=ops) vals a0 (fun x=>x∈o.looksAt ops) (fun j=>listed.getD j false) (fun j=>decide (j<i)) k hlook
 have hlex:stA ops vals a0 (fun j=>decide (j<i)) k=acts i:=by
  rw[hst i]
  have h1:∀m,m≤i→stA ops vals a0 (fun j=>decide (j<i)) m=stA ops vals a0 (fun _=>true) m:=by
   intro m
   induction m with
   | zero=>intro _;rfl
   | succ m ih=>intro hm;simp only[stA];rw[ih (by omega)];simp;omega
  have h2:∀m,i≤m→stA ops vals a0 (fun j=>decide (j<i)) m=stA ops vals a0 (fun j=>decide (j<i)) i:=by
   intro m
   induction m with
   | zero =>
    intro h
    have:i=0:=by omega
    subst this;rfl
   | succ m ih =>
    intro hm
    by_cases e:i=m+1
    ·rw[e]
    ·simp only[stA]
     rw[if_neg (by simp;omega)]
     exact ih (by omega)
  rw[h2 k (by omega),h1 i (Nat.le_refl _)]
 rw[hlex]at hag
 obtain⟨hev,hwa⟩:=gD (ops:=ops) (o:=o) (a:=stA ops vals a0 (fun j=>listed.getD j false) k) (b:=acts i) hag.1
 have hins:stA ops vals a0 (fun j=>(listed.setIfInBounds i true).getD j false) k=(stA ops vals a0 (fun j=>listed.getD j false) k).put o.dst (vals i):=by
  have e1:(fun j=>(listed.setIfInBounds i true).getD j false)=fun j=>listed.getD j false||j==i:=funext fun j=>aY (by omega)
  rw[e1,kN (ops:=ops) vals a0 (fun j=>listed.getD j false) i hun k hik (fun j h1 h2 hS d hd he=>?_)]
  ·congr 1
   simp[eY,ho]
  ·obtain⟨oj,hoj⟩:∃oj,ops[j]? = some oj:=⟨_,Array.getElem?_eq_some_iff.2 ⟨by omega,O⟩⟩
   have hdj:oj.dst=some d:=by simpa [eY,hoj]using hd
   have hdi:o.dst=some d:=by simpa [eY,ho]using he
   rcases (aK hO hoj).2.2.2 i o h1 ho with hap|⟨e,he,hb,hon⟩
   ·exact(Oper.apart_spec hap).2.1 d hdi hdj
   ·have:=hcl j oj hoj hS e he hb
    rw[hon,hun]at this;cases this
 have hgo:∀W',C W'→K ((stA ops vals a0 (fun j=>listed.getD j false) k).put o.dst (vals i)) W':=fun W' hC'=>by
  rw[←hins]
  exact hK W' hC'
 unfold wpOpIn
 simp only[ho]
 rcases hvals with⟨hw,hy⟩|⟨hw,hv⟩
 ·rw[hwa,if_pos hw]
  refine g8 (mW hsel hdef (fun x hx=>(hev x hx).symm) hy) hC ?_
  exact hgo
 ·rw[hwa,if_neg (by rw[hw];simp)]
  refine⟨fun _ _=>trivial,?_⟩
  have:=hgo W hC
  rwa [hv]at this
def QWg (ops:Array Oper) (Y:Oper→(Operand→Value)→Value→Prop) (K:Act→Prop):List Oper→Act→Prop
 | [],a=>K a
 | o::rest,a=>if Region.wanted o (yielded ops a.tmps)then ∃v,Y o a.eval v∧QWg ops Y K rest (a.put o.dst v)else QWg ops Y K rest (a.put o.dst undef)
theorem sD {Y:Oper→(Operand→Value)→Value→Prop} {K:Act→Prop}:∀(l:List Oper) (i0:Nat) (a:Act),(∀j,j<l.length→l[j]? = ops[i0+j]?)→QWg ops Y K l a →
  ∃(vals:Nat→Value) (acts:Nat→Act),acts 0=a∧(∀j,acts (j+1)=(acts j).put (eY ops (i0+j)) (vals j)) ∧
   (∀j o,j<l.length→ops[i0+j]? = some o→(Region.wanted o (yielded ops (acts j).tmps)=true∧Y o (acts j).eval (vals j))∨(Region.wanted o (yielded ops (acts j).tmps)=false∧vals j=undef)) ∧
   K (acts l.length)
 | [],i0,a,_,h=>by
  have hK:K a:=h
  exact⟨fun _=>undef,fun j=>Nat.rec a (fun j b=>b.put (eY ops (i0+j)) undef) j,O,fun _=>O,(fun j o hj=>by simp at hj),hK⟩
 | o::rest,i0,a,hl,h=>by
  have ho:ops[i0]? = some o:=by simpa using(hl 0 (by simp)).symm
  have hl':∀j,j<rest.length→rest[j]? = ops[i0+1+j]?:=fun j hj=>by
   have:=hl (j+1) (by simp;omega)
   simpa [Nat.add_assoc,Nat.add_comm 1 j]using this
  have hdst:eY ops i0=o.dst:=by simp[eY,ho]
  have key:∃v,((Region.wanted o (yielded ops a.tmps)=true∧Y o a.eval v)∨(Region.wanted o (yielded ops a.tmps)=false∧v=undef))∧QWg ops Y K rest (a.put o.dst v):=by
   unfold QWg at h
   by_cases hw:Region.wanted o (yielded ops a.tmps)=true
   ·rw[if_pos hw]at h
    obtain⟨v,h1,h2⟩:=h
    exact⟨v,.inl ⟨hw,h1⟩,h2⟩
   ·rw[if_neg hw]at h
    exact⟨undef,.inr ⟨by simpa using hw,O⟩,h⟩
  obtain⟨v,hv,hq⟩:=key
  obtain⟨vals,acts,h0,h1,h2,h3⟩:=sD rest (i0+1) _ hl' hq
  refine⟨fun|0=>v|j+1=>vals j,fun|0=>a|j+1=>acts j,O,?_,?_,h3⟩
  ·intro j
   cases j with
   | zero=>show acts 0=a.put (eY ops (i0+0)) v;rw[h0,Nat.add_zero,hdst]
   | succ j=>show acts (j+1)=(acts j).put (eY ops (i0+(j+1))) (vals j);rw[h1 j];simp[Nat.add_assoc,Nat.add_comm 1 j]
  ·intro j o' hj ho'
   cases j with
   | zero =>
    have:o'=o:=by rw[Nat.add_zero,ho]at ho';cases ho';rfl
    subst this
    exact hv
   | succ j=>exact h2 j o' (by simpa using hj) (by simpa [Nat.add_assoc,Nat.add_comm 1 j]using ho')
def allocB (ops:Array Oper) (k:Nat):Bool:=match ops[k]? with
 | some ⟨some _,.alloc _,_,_,af,none⟩=>af.all fun e => !Region.binds .any e
 | _=>false
theorem wp_drawsA {l:List Oper} (k:Nat) (hm:P.follows .mixedOrders=true) (hO:iA l.toArray=true) (hT:tailB l.toArray (k+1)=true) (hA:allocB l.toArray k=true) {id:Nat} {a0:Act} {W0 w0:World} {L:List Res}
  (h0:Ext w0 { W0 with drawn:=W0.drawn+1 } L)
  (hq:QWg l.toArray (fun o ρ v=>∀L2,OpY r n P o ρ (fun W=>Ext w0 W (L++L2)) (fun W=>Ext w0 W (L++L2)) v) (fun a'=>∀d e ty pos af,l[k]? = some ⟨some d,.alloc e,ty,pos,af,none⟩ →
   ∃z,cW P e=some z∧∀b W,Ext w0 W (L++[aj b e z.cells.toList])→OL r n P l.toArray (gP Q) (l.drop (k+1)) (a'.put (some d) (.pointer (some ⟨b,0,none⟩))) W) (l.take k) a0):(Code.region id l.toArray true).wpIn (Fw r) n P Q a0 W0:=by
 refine wpIn_mono (Q:=gP Q) ?_ (fun e a w h=>by obtain⟨rfl,h⟩:=h;exact h)
 refine wpIn_region_any hm ?_
 obtain⟨ops,hops⟩:∃ops,ops=l.toArray:=⟨_,O⟩
 rw[←hops]at hO hT hA hq ⊢
 unfold tailB at hT
 simp only[Bool.and_eq_true,Bool.or_eq_true,decide_eq_true_eq]at hT
 obtain⟨hkN,hT⟩:=hT
 have hkk:k<ops.size:=by omega
 obtain⟨dd,e,ty,pos,af,hok,haf⟩:∃d e ty pos af,ops[k]? = some ⟨some d,.alloc e,ty,pos,af,none⟩∧∀x∈af,Region.binds .any x=false:=by
  unfold allocB at hA
  split at hA
  ·rename_i d e ty pos af ho
   exact⟨d,e,ty,pos,af,ho,fun x hx=>by simpa using Array.all_eq_true'.1 hA x hx⟩
  ·cases hA
 have hlen:(l.take k).length=k:=by rw[hops]at hkk;simp at hkk;simp;omega
 obtain⟨vals,acts,ha0,hacts,hvals,hK⟩:=sD (l.take k) 0 a0 (fun j hj=>by
  rw[hlen]at hj
  rw[hops];simp[hj]) hq
 rw[hlen]at hvals hK
 simp only[Nat.zero_add]at hacts hvals
 obtain⟨z,hz,hK⟩:=hK dd e ty pos af (by rw[hops]at hok;simpa using hok)
 obtain⟨inf,hinf,hzz⟩:∃inf,P.info? e=some inf∧inf.zero=some z:=by
  unfold cW at hz
  cases hi:P.info? e with
  | none=>rw[hi]at hz;cases hz
  | some inf=>rw[hi]at hz;exact⟨inf,O,hz⟩
 have hst:∀m,acts m=stA ops vals a0 (fun _=>true) m:=by
  intro m
  induction m with
  | zero=>exact ha0
  | succ m ih=>rw[hacts m,ih];simp[stA]
 have hfr0:(k+1)=ops.size∨(List.range (k+1)).all (fun i=>[k].contains i||(List.range (k+1+1)).any fun j=>decide (i<j)&&tailB.Region.waitsB ops j i)=true∧((List.range ops.size).all fun t=>decide (t≤k+1)||tailB.Region.waitsB ops t (t-1))=true:=by
  rcases hT with h|h
  ·exact .inl h
  ·refine .inr ⟨?_,h.2⟩
   rw[List.all_eq_true]at *
   intro i hi
   rw[h.1 i hi,Bool.or_true]
 have hfr1:(k+1)=ops.size∨(List.range (k+1)).all (fun i=>([]:List Nat).contains i||(List.range (k+1+1)).any fun j=>decide (i<j)&&tailB.Region.waitsB ops j i)=true∧((List.range ops.size).all fun t=>decide (t≤k+1)||tailB.Region.waitsB ops t (t-1))=true:=by
  rcases hT with h|h
  ·exact .inl h
  ·refine .inr ⟨?_,h.2⟩
   rw[List.all_eq_true]at *
   intro i hi
   rw[h.1 i hi,Bool.or_true]
 have hsink:=sink (fr:=[]) hkN hfr1
 have main:∀(c:Nat) (listed:Array Bool) (W:World),Ext w0 W L→listed.size=ops.size→left listed k=c →
   (∀j oj,ops[j]? = some oj→listed.getD j false=true→∀e∈oj.after,Region.binds .any e=true→listed.getD e.on false=true) →
   (∀t,k≤t→t<ops.size→listed.getD t false=false) →
   wpAnyIn (Fw r) n P .any ops (gP Q) (c+(ops.size-k)) listed (stA ops vals a0 (fun j=>listed.getD j false) k) W:=by
  intro c
  induction c using Nat.strongRecOn with
  | _ c ih =>
  intro listed W hC hsz hc hcl htl
  have hunk:listed.getD k false=false:=htl k (Nat.le_refl _) hkk
  have hrk:k∈Region.ready .any ops listed:=mem_ready.2 ⟨by rw[bP (by omega) true false];exact hunk,_,hok,fun x hx hb=>by rw[haf x hx]at hb;cases hb⟩
  rw[show c+(ops.size-k)=(c+(ops.size-(k+1)))+1 by omega]
  refine⟨fun h=>(by rw[h]at hrk;cases hrk),fun i hi=>?_⟩
  rcases Nat.lt_trichotomy i k with hik|hik|hik
  ·obtain⟨hun,o,ho,hall⟩:=mem_ready.1 hi
   have hun':=hun
   rw[bP (by omega) true false]at hun'
   have hl:=lS (by omega) hun' k hik
   refine o6 (r:=r) (C:=fun W=>Ext w0 W L) hO (by omega) hst hC hsz hcl hik hun ho hall ?_ (fun W' hC'=>?_)
   ·rcases hvals i o hik ho with⟨h1,h2⟩|h1
    ·refine .inl ⟨h1,?_⟩
     have:=h2 []
     rw[List.append_nil]at this
     exact this
    ·exact .inr h1
   ·have:=ih (left (listed.setIfInBounds i true) k) (by omega) (listed.setIfInBounds i true) W' hC' (by simpa using hsz) O (fun j oj hoj hlj e he hb=>by
     rw[aY (by omega)]at hlj ⊢
     by_cases e':j=i
     ·subst e'
      rw[ho]at hoj;cases hoj
      rw[hall e he hb];rfl
     ·have:(j==i)=false:=by simpa using e'
      rw[this,Bool.or_false]at hlj
      rw[hcl j oj hoj hlj e he hb];rfl) (fun t h1 h2=>by
     rw[aY (by omega),htl t h1 h2]
     simp;omega)
    rw[show left (listed.setIfInBounds i true) k+(ops.size-k)=c+(ops.size-(k+1)) by omega]at this
    exact this
  ·subst hik
   unfold wpOpIn
   simp only[hok]
   rw[if_pos (show Region.wanted (⟨some dd,.alloc e,ty,pos,af,none⟩:Oper) _=true from O)]
   refine⟨fun _ _=>by cases r <;> trivial,?_⟩
   have hrun:((⟨some dd,.alloc e,ty,pos,af,none⟩:Oper).semAt (Fw r).round (stA ops vals a0 (fun j=>listed.getD j false) i).eval).run P W=.ok (.value (.pointer (some ⟨W.heap.size,0,none⟩))) (W.alloc (.cells z.cells e)):=by
    have e0:(Fw r).round=r:=by cases r <;> rfl
    rw[e0,fh (by intro c h;cases h)]
    simp only[execOp,Instr.alloc,zeroValue,typeInfo,newVar,newRow]
    simp[hinf,hzz]
   rw[hrun]
   have hW2:Ext w0 (W.alloc (.cells z.cells e)) (L++[aj W.heap.size e z.cells.toList]):=by
    have:=hC.alloc (.cells z.cells e)
    simpa [aj]using this
   generalize hb0:W.heap.size=b at hW2 hrun
   show wpAnyIn (Fw r) n P .any ops (gP Q) _ _ _ _
   have hvb:∀m,m≤i→stA ops (fun j=>if j=i then .pointer (some ⟨b,0,none⟩)else vals j) a0 (fun _=>true) m=acts m:=by
    intro m
    induction m with
    | zero=>intro _;exact ha0.symm
    | succ m ihm=>intro hm;rw[hacts m,←ihm (by omega)];simp[stA];rw[if_neg (by omega)]
   have hvl:∀m,m≤i→stA ops (fun j=>if j=i then .pointer (some ⟨b,0,none⟩)else vals j) a0 (fun j=>(listed.setIfInBounds i true).getD j false) m=stA ops vals a0 (fun j=>listed.getD j false) m:=by
    intro m
    induction m with
    | zero=>intro _;rfl
    | succ m ihm =>
     intro hm
     simp only[stA]
     rw[ihm (by omega),aY (by omega),if_neg (show ¬m=i by omega)]
     have:(m==i)=false:=by simp;omega
     rw[this,Bool.or_false]
   have hli:(listed.setIfInBounds i true).getD i false=true:=by rw[aY (by omega)];simp
   have hdi:eY ops i=some dd:=by simp[eY,hok]
   have:=nR (r:=r) (n:=n) (P:=P) (Q:=Q) hops [i] (k:=i+1) hO hkN hfr0 (a0:=a0) (vals:=fun j=>if j=i then .pointer (some ⟨b,0,none⟩)else vals j)
    (acts:=stA ops (fun j=>if j=i then .pointer (some ⟨b,0,none⟩)else vals j) a0 (fun _=>true)) (C:=fun W=>Ext w0 W (L++[aj b e z.cells.toList])) (fun _=>O)
    (fun j o hj hne ho=>by
     have hji:j<i:=by
      have:j≠i:=fun h=>hne (by simp[h])
      omega
     rw[hvb j (by omega)]
     simp only[if_neg (show ¬j=i by omega)]
     rcases hvals j o hji ho with⟨h1,h2⟩|h1
     ·exact .inl ⟨h1,h2 _⟩
     ·exact .inr h1)
    (fun W' hW'=>by
     have e9:stA ops (fun j=>if j=i then .pointer (some ⟨b,0,none⟩)else vals j) a0 (fun _=>true) (i+1)=(acts i).put (some dd) (.pointer (some ⟨b,0,none⟩)):=by
      simp only[stA]
      rw[hvb i (Nat.le_refl _),hdi]
      simp
     rw[e9]
     exact hK b W' hW')
    c (listed.setIfInBounds i true) _ hW2 (by simpa using hsz) (by
     rw[←hc]
     unfold left
     rw[List.range_succ,List.filter_append,List.length_append,List.filter_cons_of_neg (by rw[hli];simp)]
     simp only[List.filter_nil,List.length_nil,Nat.add_zero]
     congr 1
     exact List.filter_congr fun j hj=>by
      have:=List.mem_range.1 hj
      rw[aY (by omega)]
      have:(j==i)=false:=by simp;omega
      rw[this,Bool.or_false])
    (fun j oj hoj hlj e' he hb=>by
     rw[aY (by omega)]at hlj ⊢
     by_cases e2:j=i
     ·subst e2
      rw[hok]at hoj;cases hoj
      rw[haf e' he]at hb;cases hb
     ·have:(j==i)=false:=by simpa using e2
      rw[this,Bool.or_false]at hlj
      rw[hcl j oj hoj hlj e' he hb];rfl)
    (fun t h1 h2=>by
     rw[aY (by omega),htl t (by omega) h2]
     simp;omega)
    (fun j hj=>by rw[List.mem_singleton.1 hj];exact hli)
   have e9:stA ops (fun j=>if j=i then .pointer (some ⟨b,0,none⟩)else vals j) a0 (fun j=>(listed.setIfInBounds i true).getD j false) (i+1)=(stA ops vals a0 (fun j=>listed.getD j false) i).put (some dd) (.pointer (some ⟨b,0,none⟩)):=by
    simp only[stA]
    rw[hvl i (Nat.le_refl _),hdi,hli]
    simp
   rw[e9]at this
   exact this
  ·exact absurd hi (hsink listed hsz hcl (fun t h1 h2=>htl t (by omega) h2) (fun i hi=>absurd hi List.not_mem_nil) _ k O (by omega) hunk i hik)
 have hfin:=main (left (Array.replicate ops.size false) k) (Array.replicate ops.size false) _ h0 (by simp) O (fun j oj hoj hl=>by
  have:j<ops.size:=(Array.getElem?_eq_some_iff.1 hoj).1
  simp[this]at hl) (fun t _ h=>by simp[h])
 have e1:left (Array.replicate ops.size false) k+(ops.size-k)=ops.size:=by
  have:left (Array.replicate ops.size false) k=k:=by
   unfold left
   rw[List.filter_eq_self.2 fun j hj=>?_]
   ·simp
   ·have:=List.mem_range.1 hj
    simp[show j<ops.size by omega]
  omega
 have e2:stA ops vals a0 (fun j=>(Array.replicate ops.size false).getD j false) k=a0:=by
  have:∀m,m≤k→stA ops vals a0 (fun j=>(Array.replicate ops.size false).getD j false) m=a0:=by
   intro m
   induction m with
   | zero=>intro _;rfl
   | succ m ih=>intro hm;simp only[stA];rw[ih (by omega)];simp[show m<ops.size by omega]
  exact this k (Nat.le_refl _)
 rw[e1,e2]at hfin
 exact hfin
end
section
variable {r : Option Nat} {n : Nat} {P : Program} {ops : Array Oper} {Q : Exit → Act → World → Prop} {w0 : World} {L : List Res} {m : Nat} {tm : Nat → Value} {d : List Deferred}
variable {t : Tmp} {ty : TypeId} {pos : String} {af : Array Edge} {g : Option (Nat × Bool)} {l rest : List Oper}
def AX (r:Option Nat) (n:Nat) (P:Program) (ops:Array Oper) (Q:Exit→Act→World→Prop) (w0:World) (L:List Res) (k:Nat) (all:List Oper) (l:List Oper) (m:Nat) (tm:Nat→Value) (d:List Deferred):Prop :=
 QWg ops (fun o ρ v=>∀L2,OpY r n P o ρ (fun W=>Ext w0 W (L++L2)) (fun W=>Ext w0 W (L++L2)) v) (fun a'=>∀d e ty pos af,all[k]? = some ⟨some d,.alloc e,ty,pos,af,none⟩ →
   ∃z,cW P e=some z∧∀b W,Ext w0 W (L++[aj b e z.cells.toList])→OL r n P ops (gP Q) (all.drop (k+1)) (a'.put (some d) (.pointer (some ⟨b,0,none⟩))) W) l (act m tm d)
theorem oQ (k:Nat) {id:Nat} {l:List Oper} (hm:P.follows .mixedOrders=true) (hO:iA l.toArray=true) (hT:tailB l.toArray (k+1)=true) (hA:allocB l.toArray k=true)
  (h:AX r n P l.toArray Q w0 L k l (l.take k) m tm d):CX r n P (.region id l.toArray true) Q w0 L m tm d :=
 fun _ hW=>wp_drawsA k hm hO hT hA hW.drawn h
theorem kD {k:Nat} {all:List Oper} {op:Op} {v:Value} (hw:eU ops m tm ⟨some t,op,ty,pos,af,g⟩=true) (hy:∀L2,OpY r n P ⟨some t,op,ty,pos,af,g⟩ (opv m tm) (fun W=>Ext w0 W (L++L2)) (fun W=>Ext w0 W (L++L2)) v)
  (h:AX r n P ops Q w0 L k all rest m (upd tm t v) d):AX r n P ops Q w0 L k all (⟨some t,op,ty,pos,af,g⟩::rest) m tm d:=by
 unfold AX QWg
 rw[bn,if_pos hw,dv]
 refine⟨v,hy,?_⟩
 rw[dF]
 exact h
theorem ax_nil {k:Nat} {all:List Oper} {e:TypeId} {z:Value} (hk:all[k]? = some ⟨some t,.alloc e,ty,pos,af,none⟩) (hz:cW P e=some z)
  (h:∀b,OX r n P ops (gP Q) w0 (L++[aj b e z.cells.toList]) (all.drop (k+1)) m (upd tm t (.pointer (some ⟨b,0,none⟩))) d):AX r n P ops Q w0 L k all [] m tm d:=by
 unfold AX QWg
 intro d' e' ty' pos' af' hk'
 rw[hk]at hk'
 simp only[Option.some.injEq,Oper.mk.injEq,Op.alloc.injEq,and_true]at hk'
 obtain⟨rfl,rfl,_,_,_⟩:=hk'
 refine⟨z,hz,fun b W hW=>?_⟩
 rw[dF]
 exact h b W hW
end
open Go.RowKit (Below)
section
variable {r : Option Nat} {n : Nat} {P : Program} {Q : Exit → Act → World → Prop} {w0 : World} {L : List Res} {m : Nat} {tm : Nat → Value} {d : List Deferred}
def rndM {S:Type} (I:S→List Res→(Nat→Value)→Prop) (μ:S→Nat) (Q:Exit→Act→World→Prop) (w0:World) (m:Nat) (d:List Deferred) (s:S):Exit→Act→World→Prop:=rndS (fun s a W=>∃L tm,a=act m tm d∧Ext w0 W L∧I s L tm) μ Q s
theorem nW {S:Type} {c:Code} (I:S→List Res→(Nat→Value)→Prop) (μ:S→Nat) (s0:S) (h0:I s0 L tm)
  (round:∀s L tm,I s L tm→CX r n P c (rndM I μ Q w0 m d s) w0 L m tm d):CX r n P (.loop c) Q w0 L m tm d:=fun W hW =>
 wp_loopS (fun s a W=>∃L tm,a=act m tm d∧Ext w0 W L∧I s L tm) μ (s0:=s0) ⟨L,tm,O,hW,h0⟩ (fun s a W h=>by
  obtain⟨L',tm',rfl,hE,hI⟩:=h
  exact round s L' tm' hI W hE)
theorem mB {S:Type} {I:S→List Res→(Nat→Value)→Prop} {μ:S→Nat} {s:S} (s':S) (h:I s' L tm) (hμ:μ s'<μ s):EX (rndM I μ Q w0 m d s) .normal w0 L m tm d:=fun W hW=>⟨fun _=>⟨s',⟨L,tm,O,hW,h⟩,hμ⟩,fun h=>absurd O h⟩
theorem o9 {S:Type} {I:S→List Res→(Nat→Value)→Prop} {μ:S→Nat} {s:S} {e:Exit} (he:e ≠ .normal) (h:EX Q e w0 L m tm d):EX (rndM I μ Q w0 m d s) e w0 L m tm d:=fun W hW=>⟨fun h'=>absurd h' he,fun _=>h W hW⟩
end
theorem entry_at {P:Program} {W W':World} {b it:Nat} {s:Nat} {seen:Array Nat} {c0 clock:Nat} {es:Array MapEntry} {v:Value} (h1:W.heap[it]? = some (.mapIter (some b) s seen c0)) (h2:W.heap[b]? = some (.map es clock)) (h1':W'.heap[it]? = some (.mapIter (some b) s seen c0)) (h2':W'.heap[b]? = some (.map es clock))
  (h:(Instr.entry (.pointer (some ⟨it,0,none⟩))).run P W=.ok v W):(Instr.entry (.pointer (some ⟨it,0,none⟩))).run P W'=.ok v W':=by
 cases hb:seen.back? with
 | none =>
  simp[Instr.entry,getObj,Sem.run_bind,Sem.run,h1,hb,Result.andThen,stuck]at h
 | some q =>
  by_cases hc:clock=c0
  ·cases hf:es.find? (·.born==q)with
   | none=>simp[Instr.entry,getObj,Sem.run_bind,Sem.run,h1,h2,hb,hc,hf,Result.andThen,unsupported]at h
   | some e =>
    have e1:∀(X:World),X.heap[it]? = some (.mapIter (some b) s seen c0)→X.heap[b]? = some (.map es clock)→(Instr.entry (.pointer (some ⟨it,0,none⟩))).run P X=.ok (.tuple #[e.key,e.val]) X:=fun X hx hy=>by
     simp[Instr.entry,getObj,Sem.run_bind,Sem.run,hx,hy,hb,hc,hf,Result.andThen]
     try rfl
    rw[e1 W h1 h2]at h
    cases h
    exact e1 W' h1' h2'
  ·simp[Instr.entry,getObj,Sem.run_bind,Sem.run,h1,h2,hb,hc,Result.andThen,unsupported]at h
section
variable {κ β : Type} [DecidableEq κ]
def rD (P:Program) (kt:TypeId) (ek:κ→Value) (ok:κ→Bool) (ev:β→Value) (z:β) (b it:Nat) (m:List (κ × β)) (left:κ→Bool) (cnt:Nat) (cur:Option (Value × Value)):Res where
 dom c:=c=b∨c=it
 holds W:=(∃D lf,W.ranges P kt rawR b it m.length D lf cnt∧Maps.IsMap D∧(∀x l,ok x=true→keyOf P kt (ek x)=some l→D.atKey l (.held (ev z))=.held (ev (aw z m x))∧Maps.has D l=bH m x)∧(∀l,Maps.has D l=true→∃x,ok x=true∧keyOf P kt (ek x)=some l)∧(∀x l,ok x=true→keyOf P kt (ek x)=some l→lf l=left x)∧∀l,lf l=true→Maps.has D l=true) ∧
  ∀q,cur=some q→(Instr.entry (.pointer (some ⟨it,0,none⟩))).run P W=.ok (.tuple #[q.1,q.2]) W
 loc W W' h _ hh:=by
  obtain⟨⟨D,lf,⟨es,clock,since,seen,c0,hb,F,hs,hD,hr,rest⟩,h2⟩,h3⟩:=hh
  have hb':=(h b (.inl O)).trans hb
  have hr':=(h it (.inr O)).trans hr
  exact⟨⟨D,lf,⟨es,clock,since,seen,c0,hb',F,hs,hD,hr',rest⟩,h2⟩,fun q hq=>entry_at hr hb hr' hb' (h3 q hq)⟩
 inb W hh c hc:=by
  obtain⟨⟨D,lf,h1,_⟩,_⟩:=hh
  rcases hc with rfl|rfl
  ·exact h1.owns.lt
  ·exact h1.lt
end
section
variable {r : Option Nat} {n : Nat} {P : Program} {ops : Array Oper} {Q : Exit → Act → World → Prop} {w0 : World} {L : List Res} {m : Nat} {tm : Nat → Value} {d : List Deferred}
variable {t : Tmp} {ty : TypeId} {pos : String} {af : Array Edge} {g : Option (Nat × Bool)} {rest : List Oper}
variable {κ β : Type} [DecidableEq κ] {kt : TypeId} {ek : κ → Value} {ok : κ → Bool} {ev : β → Value} {z : β}
theorem qQ (i:Nat) {mt et b:Nat} {M:List (κ × β)} {x:Operand} (hL:L[i]? = some (mapV P kt ek ok ev z b M)) (K:KeyE P kt ek ok) (hm:P.underlying mt=some (.map kt et)) (hx:opv m tm x=.map (some b))
  (hw:eU ops m tm ⟨some t,.range mt x,ty,pos,af,g⟩=true)
  (h:∀it k,k≤M.length→OX r n P ops Q w0 (L.set i (rD P kt ek ok ev z b it M (fun y=>bH M y) k none)) rest m (upd tm t (.pointer (some ⟨it,0,none⟩))) d) :
  OX r n P ops Q w0 L (⟨some t,.range mt x,ty,pos,af,g⟩::rest) m tm d :=
 kq hw (by intro c h;cases h) fun W hW=>by
  obtain⟨D,h1,h2,h3,h4⟩:=hW.mem hL
  obtain⟨W',hrun,hr,hg,hs⟩:=h1.range K.keyed hm
  refine⟨_,W',_,by simp[execOp,hx,hrun],?_,h W.heap.size (Maps.size D) h1.size_le⟩
  refine hW.set hL _ ⟨⟨D,Maps.has D,hr,h2,h3,h4,fun y l hy hl=>(h3 y l hy hl).2,fun _ h=>h⟩,fun q hq=>by cases hq⟩ hg.os hg.tape hg.output hg.size (fun c hc _=>hg.block c hc (by simp)) (fun c hc=>?_)
  rcases hc with rfl|rfl
  ·exact .inl O
  ·exact .inr (Nat.le_refl _)
theorem Ext.rangeEnd {W:World} (i:Nat) {b it k:Nat} {M:List (κ × β)} {left:κ→Bool} {cur:Option (Value × Value)} (h:Ext w0 W L) (hL:L[i]? = some (rD P kt ek ok ev z b it M left k cur)):Ext w0 W (L.set i (mapV P kt ek ok ev z b M)):=by
 obtain⟨⟨D,lf,h1,h2,h3,h4,_⟩,_⟩:=h.mem hL
 exact h.set hL _ ⟨D,h1.owns,h2,h3,h4⟩ O O O (Nat.le_refl _) (fun c hc _=>O) (fun c hc=>.inl (.inl hc))
theorem sk (i:Nat) {b it k:Nat} {M:List (κ × β)} {left:κ→Bool} {cur:Option (Value × Value)} {x:Operand} (hL:L[i]? = some (rD P kt ek ok ev z b it M left k cur)) (K:KeyE P kt ek ok) (hx:opv m tm x=.pointer (some ⟨it,0,none⟩))
  (hw:eU ops m tm ⟨some t,.next x false,ty,pos,af,g⟩=true)
  (h0:(∀y,ok y=true→left y=false)→OX r n P ops Q w0 L rest m (upd tm t (.tuple #[.bool false])) d)
  (h1:∀y k',ok y=true→left y=true→bH M y=true→k'<k→OX r n P ops Q w0 (L.set i (rD P kt ek ok ev z b it M (fun q=>left q && !decide (q=y)) k' (some (ek y,ev (aw z M y))))) rest m (upd tm t (.tuple #[.bool true,ek y,ev (aw z M y)])) d) :
  OX r n P ops Q w0 L (⟨some t,.next x false,ty,pos,af,g⟩::rest) m tm d :=
 kq hw (by intro c h;cases h) fun W hW=>by
  obtain⟨⟨D,lf,hr,h2,h3,h4,h5,h6⟩,_⟩:=hW.mem hL
  rcases hr.next K.keyed ty with⟨_,hl,hrun⟩|⟨key,v,kl,y0,W',k',hkey,hlk,hv,hat,hrun,hr',hk',hg,hs,hen⟩
  ·refine⟨_,W,L,by simp[execOp,hx,hrun],hW,h0 (fun y hy=>?_)⟩
   obtain⟨l,hl'⟩:=K.tot y hy
   rw[←h5 y l hy hl']
   exact hl l
  ·obtain⟨y,hy,hyl⟩:=h4 kl (h6 kl hlk)
   have hke:key=ek y:=K.keyed.inj hkey hyl
   have hva:v=ev (aw z M y):=by
    have e1:=(h3 y kl hy hyl).1
    rw[hat]at e1
    have e2:y0=(.held v,[]):=(Option.some.inj hv).symm
    rw[e2]at e1
    simp only[DataW.held.injEq]at e1
    exact e1
   subst hke hva
   refine⟨_,W',_,by simp[execOp,hx,hrun],?_,h1 y k' hy (by rw[←h5 y kl hy hyl];exact hlk) (by rw[←(h3 y kl hy hyl).2];exact h6 kl hlk) hk'⟩
   refine hW.set hL _ ⟨⟨D,_,hr',h2,h3,h4,fun q l hq hl=>?_,fun l hl=>?_⟩,fun q hq=>by cases hq;exact hen⟩ hg.os hg.tape hg.output hg.size (fun c hc hn=>hg.block c hc (fun e=>hn (.inr (by cases e;rfl)))) (fun c hc=>.inl hc)
   ·show(lf l && !l.sameKey kl)=(left q && !decide (q=y))
    rw[h5 q l hq hl]
    by_cases e:q=y
    ·subst e
     have e3:l=kl:=by rw[hl]at hyl;exact Option.some.inj hyl
     rw[e3,WideAt.sameKey_self (K.keyed.key hyl)]
     simp
    ·have e3:l.sameKey kl=false:=by
      cases hsk:l.sameKey kl with
      | false=>rfl
      | true =>
       have e4:=WideAt.sameKey_eq hsk
       exact absurd (K.inj q y (K.keyed.inj hl (e4▸hyl))) e
     rw[e3]
     simp[e]
   ·have hl2:(lf l && !l.sameKey kl)=true:=hl
    rw[Bool.and_eq_true]at hl2
    exact h6 l hl2.1
end
section
variable {r : Option Nat} {n : Nat} {P : Program} {ρ : Operand → Value} {w0 : World} {L : List Res}
variable {t : Option Tmp} {ty : TypeId} {pos : String} {af : Array Edge} {g : Option (Nat × Bool)}
variable {κ β : Type} [DecidableEq κ] {kt : TypeId} {ek : κ → Value} {ok : κ → Bool} {ev : β → Value} {z : β}
theorem sM (i:Nat) {b it k:Nat} {M:List (κ × β)} {left:κ→Bool} {a c:Value} {x:Operand} (hL:L[i]? = some (rD P kt ek ok ev z b it M left k (some (a,c)))) (hx:ρ x=.pointer (some ⟨it,0,none⟩)) :
  OpY r n P ⟨t,.entry x,ty,pos,af,g⟩ ρ (fun W=>Ext w0 W L) (fun W=>Ext w0 W L) (.tuple #[a,c]) :=
 bq (by intro c h;cases h) (fun W hW=>by
  obtain⟨_,h⟩:=hW.mem hL
  simp[execOp,hx,h _ O])
end
open Go.RowKit (Below)
section
variable {w0 : World} {L : List Res}
theorem Ext.rot {W:World} {p:Res} (h:Ext w0 W (p::L)):Ext w0 W (L++[p]):=by
 have hg:∀(k:Nat) (q:Res),(L++[p])[k]? = some q→∃j,(p::L)[j]? = some q∧(k<L.length→j=k+1)∧(L.length≤k→j=0∧k=L.length):=by
  intro k q hq
  rcases Nat.lt_or_ge k L.length with hk|hk
  ·rw[List.getElem?_append_left hk]at hq
   exact⟨k+1,by simpa using hq,fun _=>O,fun h'=>by omega⟩
  ·rw[List.getElem?_append_right hk]at hq
   have:k-L.length=0:=by
    cases hkk:k-L.length with
    | zero=>rfl
    | succ z=>rw[hkk]at hq;simp at hq
   rw[this]at hq
   exact⟨0,by simpa using hq,fun h'=>by omega,fun _=>⟨O,by omega⟩⟩
 refine⟨h.below,fun k q hq=>?_,fun k q hq=>?_,fun k l q q' hq hq' hne=>?_⟩
 ·obtain⟨j,hj,_⟩:=hg k q hq;exact h.all j q hj
 ·obtain⟨j,hj,_⟩:=hg k q hq;exact h.new j q hj
 ·obtain⟨j,hj,a1,a2⟩:=hg k q hq
  obtain⟨i,hi,b1,b2⟩:=hg l q' hq'
  refine h.sep j i q q' hj hi (fun e=>hne ?_)
  rcases Nat.lt_or_ge k L.length with hk|hk <;> rcases Nat.lt_or_ge l L.length with hl|hl
  ·have:=a1 hk;have:=b1 hl;omega
  ·have:=a1 hk;have:=(b2 hl).1;omega
  ·have:=(a2 hk).1;have:=b1 hl;omega
  ·have:=(a2 hk).2;have:=(b2 hl).2;omega
theorem Ext.torr {W:World} {p:Res} (h:Ext w0 W (L++[p])):Ext w0 W (p::L):=by
 have hg:∀(k:Nat) (q:Res),(p::L)[k]? = some q→∃j,(L++[p])[j]? = some q∧(0<k→k=j+1)∧(k=0→j=L.length)∧(0<k→j<L.length):=by
  intro k q hq
  cases k with
  | zero=>exact⟨L.length,by simpa using hq,fun h'=>by omega,fun _=>rfl,fun h'=>by omega⟩
  | succ k =>
   have hq':L[k]? = some q:=by simpa using hq
   have hk:k<L.length:=(List.getElem?_eq_some_iff.1 hq').1
   exact⟨k,by rw[List.getElem?_append_left hk];exact hq',fun _=>O,fun h'=>by omega,fun _=>hk⟩
 refine⟨h.below,fun k q hq=>?_,fun k q hq=>?_,fun k l q q' hq hq' hne=>?_⟩
 ·obtain⟨j,hj,_⟩:=hg k q hq;exact h.all j q hj
 ·obtain⟨j,hj,_⟩:=hg k q hq;exact h.new j q hj
 ·obtain⟨j,hj,a1,a2,a3⟩:=hg k q hq
  obtain⟨i,hi,b1,b2,b3⟩:=hg l q' hq'
  refine h.sep j i q q' hj hi (fun e=>hne ?_)
  rcases Nat.eq_zero_or_pos k with hk|hk <;> rcases Nat.eq_zero_or_pos l with hl|hl
  ·omega
  ·have:=a2 hk;have:=b3 hl;omega
  ·have:=b2 hl;have:=a3 hk;omega
  ·have:=a1 hk;have:=b1 hl;omega
theorem Ext.tail {W:World} {p:Res} (h:Ext w0 W (p::L)):Ext w0 W L:=by
 have:=h.rot.take L.length
 rw[List.take_left]at this
 exact this
theorem Ext.torr' {W:World} {p:Res} (h:Ext w0 W (p::L)):Ext w0 W L:=h.tail
theorem getElem?_app3 {p q s:Res}:(L++[p,q,s])[L.length+1]? = some q:=by simp
theorem Ext.putLoop3 {W:World} {p s:Res} {l:Nat} {rec rec':Loop} (h:Ext w0 W (L++[p,lpR l rec,s])):Ext w0 (W.putObj l (.loop rec')) (L++[p,lpR l rec',s]):=by
 have hl:W.heap[l]? = some (.loop rec):=h.mem getElem?_app3
 have hlt:l<W.heap.size:=lk hl
 have:=h.set getElem?_app3 (lpR l rec') (W':=W.putObj l (.loop rec')) (World.putObj_heap_same hlt) O O O (by simp[World.putObj]) (fun b hb hn=>World.putObj_heap_other (fun e=>hn e)) (fun b hb=>.inl hb)
 have e:(L++[p,lpR l rec,s]).set (L.length+1) (lpR l rec')=L++[p,lpR l rec',s]:=by rw[List.set_append_right _ _ (by omega)];simp
 rw[e]at this
 exact this
end
def SeqC (P:Program) (g:Nat) (caps:List Value) (e:TypeId) (H:World→Prop) (xs:List (List Int)):Prop :=
 ∀(w0:World) (l:Nat) (K:Nat→List Res→Prop) (Kx:List Res→Prop) (W:World) (L:List Res),
  (∀i L W,K i L→Ext w0 W L→H W) →
  (∀i x A c L W,xs[i]? = some x→K i L→Ext w0 W (be A c e 1 x.length (encL cI x)::L) →
   YieldAt (Fw none) 6 P l #[.slice A x.length c] W fun e' W' =>
    (e'=.returned (.bool true)∧∃L',K (i+1) L'∧Ext w0 W' (be A c e 1 x.length (encL cI x)::L'))∨(e'=.returned (.bool false)∧∃L',Kx L'∧Ext w0 W' L')) →
  K 0 L→Ext w0 W L →
  CallsIn (Fw none) 7 P g (#[.func (.yield l) #[] #[]]++caps.toArray) W fun e' W'=>(∃v,e'=.returned v)∧((∃L',K xs.length L'∧Ext w0 W' L')∨∃L',Kx L'∧Ext w0 W' L')
section
variable {r : Option Nat} {n : Nat} {P : Program} {Q : Exit → Act → World → Prop} {w0 : World} {L : List Res} {m : Nat} {tm : Nat → Value} {d : List Deferred}
def rgC {S T:Type} (w0:World) (D l:Nat) (rec:Loop) (R:Res) (I:S→List Res→Prop) (J:T→Exit→List Res→Prop) (st:S ⊕ T):Exit→Act→World→Prop:=fun e _ W =>
 match st with
 | .inl s'=>e=.normal∧∃L',I s' L'∧Ext w0 W (L'++[dfR D,lpR l { rec with state:=.busy },R])
 | .inr t=>∃L',J t e L'∧Ext w0 W (L'++[dfR D,lpR l { rec with state:=.busy },R])
theorem mK {S T:Type} {I:S→List Res→Prop} {J:T→Exit→List Res→Prop} {D l:Nat} {rec:Loop} {R:Res} {s':S} (L':List Res) (h:I s' L'):EX (rgC w0 D l rec R I J (.inl s')) .normal w0 (L'++[dfR D,lpR l { rec with state:=.busy },R]) m tm d :=
 fun _ hW=>⟨O,L',h,hW⟩
theorem ex_cstop {S T:Type} {I:S→List Res→Prop} {J:T→Exit→List Res→Prop} {D l:Nat} {rec:Loop} {R:Res} {t:T} {e:Exit} (L':List Res) (h:J t e L'):EX (rgC w0 D l rec R I J (.inr t)) e w0 (L'++[dfR D,lpR l { rec with state:=.busy },R]) m tm d :=
 fun _ hW=>⟨L',h,hW⟩
theorem mr {S T:Type} {bodyf:S→List Int→Option (S ⊕ T)} {g:Operand} {p:Tmp} {assign body:Code} {gf:Nat} {caps:List Value} {et:TypeId} {H:World→Prop} {xs:List (List Int)} {s0:S} {st:S ⊕ T}
  (I:S→List Res→Prop) (J:T→Exit→List Res→Prop) (hl:fz bodyf xs s0=some st) (hg:opv m tm g=.func (.func gf) #[] caps.toArray) (hgo:cN P gf=true)
  (hseq:SeqC P gf caps et H xs) (hH:∀W s L',I s L'→Ext w0 W L'→H W) (h0:I s0 L)
  (hJe:∀t e L',J t e L'→e=.ret∨∃id,e=.exit id)
  (round:∀D l rec A c s x L' st',rec.state=.ready→I s L'→bodyf s x=some st'→CX (some l) 6 P assign (asgQ 6 P l body (rgC w0 D l rec (be A c et 1 x.length (encL cI x)) I J st')) w0 (L'++[dfR D,lpR l rec,be A c et 1 x.length (encL cI x)]) m (upd tm p (.slice A x.length c)) [])
  (done:∀D s L',st=.inl s→I s L'→EX Q .normal w0 (L'++[dfR D]) m tm (⟨.collected D,#[]⟩::d))
  (stop:∀D t e L',st=.inr t→J t e L'→EX Q e w0 (L'++[dfR D]) m tm (⟨.collected D,#[]⟩::d)):CX none 8 P (.rangeFunc g #[p] assign body) Q w0 L m tm d:=fun W hW=>by
 refine wpIn_rangeFunc ?_
 intro fn hfn
 obtain⟨rec0,hrec0⟩:∃rec0:Loop,rec0={ state:=.ready,pending:=none,fn,tmps:=(act m tm d).tmps,params:=#[p],assign,body,defers:=W.heap.size }:=⟨_,O⟩
 have hW1:Ext w0 ((W.alloc (.deferred (some []))).alloc (.loop rec0)) (L++[dfR W.heap.size,lpR (W.heap.size+1) rec0]):=by
  have h1:=(hW.alloc (.deferred (some []))).alloc (.loop rec0)
  rw[World.size_alloc,List.append_assoc]at h1
  exact h1
 refine⟨W.heap.size+1,[{ target:=.collected W.heap.size,args:=#[] }],((W.alloc (.deferred (some []))).alloc (.loop rec0)),{ target:=.fn (.func gf) caps.toArray,args:=#[.func (.yield (W.heap.size+1)) #[] #[]] },((W.alloc (.deferred (some []))).alloc (.loop rec0)),gf,
  #[.func (.yield (W.heap.size+1)) #[] #[]]++caps.toArray,((W.alloc (.deferred (some []))).alloc (.loop rec0)),(by rw[hrec0];exact run_enterLoop_outer _ _ _ _ _),?_,fun _ _=>trivial,?_,fun hd=>(by cases hd),?_⟩
 ·have hg':(act m tm d).eval g=.func (.func gf) #[] caps.toArray:=by rw[dv];exact hg
  simp only[resolve,hg']
  simp[go_sem]
 ·have:=oy hgo (#[.func (.yield (W.heap.size+1)) #[] #[]]++caps.toArray) ((W.alloc (.deferred (some []))).alloc (.loop rec0))
  simp only[invoke]
  exact this
 ·generalize hl0:W.heap.size+1=l
  rw[hl0]at hW1
  generalize hD:W.heap.size=D at *
  have hseq1:=hseq w0 l
   (fun i L1=>∃s L',fz bodyf (xs.take i) s0=some (.inl s)∧I s L'∧L1=L'++[dfR D,lpR l rec0])
   (fun L1=>∃t e c L',st=.inr t∧J t e L'∧((e=.ret∧c=Code.ret)∨∃id,e=.exit id∧c=Code.exit id)∧L1=L'++[dfR D,lpR l { rec0 with state:=.done,pending:=some c }])
   ((W.alloc (.deferred (some []))).alloc (.loop rec0)) (L++[dfR D,lpR l rec0])
   (fun i L1 A hs hA=>by
    obtain⟨s,L',h1,h2,rfl⟩:=hs
    have h4:=hA.take L'.length
    rw[List.take_left]at h4
    exact hH A s L' h2 h4)
   ?_ ⟨s0,L,O,h0,O⟩ hW1
  ·refine hseq1.mono ?_
   rintro e W2 ⟨⟨v,rfl⟩,h2⟩
   rcases h2 with⟨_,⟨s,L',h3,h4,rfl⟩,h5⟩|⟨_,⟨t,e,c,L',h3,h4,h6,rfl⟩,h5⟩
   ·rw[List.take_length,hl]at h3
    have hl2:W2.heap[l]? = some (.loop rec0):=h5.mem getElem?_app1
    refine⟨rec0.pending,_,run_endLoop hl2 (by rw[hrec0];simp),?_⟩
    have hpd:rec0.pending=none:=by rw[hrec0]
    rw[hpd]
    show Q .normal _ _
    have h7:=(h5.putLoop (rec':={ rec0 with state:=.exhausted,pending:=none })).take (L'.length+1)
    have e7:(L'++[dfR D,lpR l { rec0 with state:=.exhausted,pending:=none }]).take (L'.length+1)=L'++[dfR D]:=by
     rw[List.take_append];simp[List.take_of_length_le]
    rw[e7]at h7
    exact done D s L' (Option.some.inj h3) h4 _ h7
   ·have hl2:W2.heap[l]? = some (.loop { rec0 with state:=.done,pending:=some c }):=h5.mem getElem?_app1
    refine⟨some c,_,run_endLoop hl2 (by simp),?_⟩
    have h7:=(h5.putLoop (rec':={ rec0 with state:=.exhausted,pending:=some c })).take (L'.length+1)
    have e7:(L'++[dfR D,lpR l { rec0 with state:=.exhausted,pending:=some c }]).take (L'.length+1)=L'++[dfR D]:=by
     rw[List.take_append];simp[List.take_of_length_le]
    rw[e7]at h7
    have h8:=stop D t e L' h3 h4 _ h7
    rcases h6 with⟨rfl,rfl⟩|⟨id,rfl,rfl⟩
    ·exact wpIn_ret h8
    ·exact wpIn_exit h8
  ·rintro i x A c _ W1 hx ⟨s,L',h1,h2,rfl⟩ h3
   obtain⟨st',hf,hft,hst⟩:=foldO_step hl h1 hx
   have h3':=h3.rot
   rw[List.append_assoc]at h3'
   have hl1:W1.heap[l]? = some (.loop rec0):=h3'.mem getElem?_app3
   have hy:=run_yield (P:=P) (args:=#[.slice A x.length c]) hl1 (by rw[hrec0];rfl)
   have et':((#[p]:Array Tmp).zip #[Value.slice A x.length c]).foldl (fun tmps (t,a)=>tmps.setIfInBounds t a) (act m tm d).tmps=(act m (upd tm p (.slice A x.length c)) []).tmps:=by
    have h9:(act m tm []).put (some p) (.slice A x.length c)=act m (upd tm p (.slice A x.length c)) []:=dF m tm [] (some p) (.slice A x.length c)
    rw[←h9]
    simp[Act.put]
    rfl
   refine⟨fn,_,assign,body,(by rw[hy,hrec0]),roundIn_of_wpIn (F:=Fw none) (n:=6) trivial ?_⟩
   have hr:=round D l rec0 A c s x L' st' (by rw[hrec0]) h2 hf W1 h3'
   have ea:(act m (upd tm p (.slice A x.length c)) [])={ tmps:=((#[p]:Array Tmp).zip #[Value.slice A x.length c]).foldl (fun tmps (t,a)=>tmps.setIfInBounds t a) (act m tm d).tmps,defers:=[] }:=by
    rw[et'];rfl
   rw[ea]at hr
   refine wpIn_mono (F:=(Fw none).inRound l) hr ?_
   intro e a2 W2 h4
   cases e with
   | normal =>
    obtain⟨w₂,hb,hbody⟩:=h4
    refine⟨w₂,hb,wpIn_mono hbody ?_⟩
    intro e a3 W3 h5
    cases st' with
    | inl s' =>
     obtain⟨rfl,L'',h6,h7⟩:=h5
     have hl3:W3.heap[l]? = some (.loop { rec0 with state:=.busy }):=h7.mem getElem?_app3
     refine⟨_,_,run_endRound none hl3,.inl ⟨O,?_⟩⟩
     refine⟨_,⟨s',L'',hft,h6,O⟩,?_⟩
     have:=h7.putLoop3 (rec':=rec0)
     rw[hrec0]at this ⊢
     have h8:=Ext.torr (L:=L''++[dfR D,lpR l _]) (by rw[List.append_assoc];exact this)
     exact h8
    | inr t =>
     obtain⟨L'',h6,h7⟩:=h5
     have hl3:W3.heap[l]? = some (.loop { rec0 with state:=.busy }):=h7.mem getElem?_app3
     have hstt:=hst t O
     have cut:∀rec',Ext w0 (W3.putObj l (.loop rec')) (L''++[dfR D,lpR l rec']):=fun rec'=>by
      have:=(h7.putLoop3 (rec':=rec')).take (L''.length+2)
      have e7:(L''++[dfR D,lpR l rec',be A c et 1 x.length (encL cI x)]).take (L''.length+2)=L''++[dfR D,lpR l rec']:=by
       rw[List.take_append];simp[List.take_of_length_le]
      rw[e7]at this
      exact this
     rcases hJe t e L'' h6 with rfl|⟨id,rfl⟩
     ·exact⟨_,_,run_endRound (some .ret) hl3,.inr ⟨O,_,⟨t,.ret,.ret,L'',hstt,h6,.inl ⟨O,O⟩,O⟩,cut _⟩⟩
     ·exact⟨_,_,run_endRound (some (.exit id)) hl3,.inr ⟨O,_,⟨t,.exit id,.exit id,L'',hstt,h6,.inr ⟨id,O,O⟩,O⟩,cut _⟩⟩
   | _=>exact h4.elim
end
section
variable {P : Program} {Q : Exit → Act → World → Prop} {w0 : World} {L : List Res} {m : Nat} {tm : Nat → Value} {d : List Deferred}
theorem rF {f:FuncId} {fn:Func} {c:Code} {vs:List Value} {W:World} {R:Ending→World→Prop} (hf:P.funcs[f]? = some fn) (hb:fn.body=some c) (hn:fn.ntmps=m) (hl:vs.length≤m) (hW:Ext w0 W L)
  (h:CX none 7 P c (bodyPost P fn R) w0 L m (fun i=>(vs[i]?).getD undef) []):CallsIn (Fw none) 7 P f vs.toArray W R:=by
 refine callsIn_of_wp hf hb trivial ?_ O
 rw[ou _ _ (by rw[hn];simpa using hl),hn]
 have:=h W hW
 simpa using this
variable {ops : Array Oper} {t : Tmp} {ty : TypeId} {pos : String} {af : Array Edge} {g : Option (Nat × Bool)} {rest : List Oper}
theorem ox_yieldE {p:Res} {x:Operand} {xs:List Operand} {us:Array TypeId} {l:Nat} (vs:List Value) (A B:List Res→Prop) (hw:eU ops m tm ⟨some t,.call ⟨.value x,xs.toArray,us⟩,ty,pos,af,g⟩=true) (hx:opv m tm x=.func (.yield l) #[] #[]) (ha:xs.map (opv m tm)=vs)
  (hy:∀W,Ext w0 W L→YieldAt (Fw none) 6 P l vs.toArray W fun e W'=>(e=.returned (.bool true)∧∃L',A L'∧Ext w0 W' (p::L'))∨(e=.returned (.bool false)∧∃L',B L'∧Ext w0 W' L'))
  (hA:∀L',A L'→OX none 7 P ops Q w0 (p::L') rest m (upd tm t (.bool true)) d) (hB:∀L',B L'→OX none 7 P ops Q w0 L' rest m (upd tm t (.bool false)) d) :
  OX none 7 P ops Q w0 L (⟨some t,.call ⟨.value x,xs.toArray,us⟩,ty,pos,af,g⟩::rest) m tm d:=fun W hW=>by
 unfold OL
 rw[bn,if_pos hw]
 refine⟨fun _ _=>trivial,?_⟩
 subst ha
 obtain⟨fn,tmps,assign,body,hr,hR⟩:=hy W hW
 have e:(execOp (opv m tm) ⟨some t,.call ⟨.value x,xs.toArray,us⟩,ty,pos,af,g⟩).run P W=.ok (.round l fn tmps assign body) W:=by
  have h9:(Instr.yield l (xs.map (opv m tm)).toArray).run P W=.ok (.round l fn tmps assign body) W:=hr
  simp[execOp,resolve,hx,Deferred.ofValue,invoke]
  simpa using h9
 have e0:(Fw none).round=none:=rfl
 rw[e0,fh (by intro c h;cases h),dv,e]
 refine⟨(fun hd=>by cases hd),?_⟩
 refine hR.mono ?_
 rintro e' W' (⟨rfl,L',h,hE⟩|⟨rfl,L',h,hE⟩)
 ·show OL none 7 P ops Q rest ((act m tm d).put (some t) (.bool true)) W'
  rw[dF]
  exact hA L' h W' hE
 ·show OL none 7 P ops Q rest ((act m tm d).put (some t) (.bool false)) W'
  rw[dF]
  exact hB L' h W' hE
end
open Go.RowKit (Below)
section
variable {r : Option Nat} {n : Nat} {P : Program} {ρ : Operand → Value} {w0 : World} {L : List Res}
variable {t : Option Tmp} {ty : TypeId} {pos : String} {af : Array Edge} {g : Option (Nat × Bool)} {C : World → Prop}
theorem y_makeFuncF {f:Fn} {first caps:List Operand} (us vs:List Value) (hf:first.map ρ=us) (hc:caps.map ρ=vs):OpY r n P ⟨t,.makeFunc f first.toArray caps.toArray,ty,pos,af,g⟩ ρ C C (.func f us.toArray vs.toArray) :=
 bq (by intro c h;cases h) (fun W _=>by
  subst hf hc
  simp[execOp,Instr.makeFunc])
theorem jH {f:FuncId} {x:Operand} {xs:List Operand} {us:Array TypeId} {fst caps:List Value} (vs:List Value) {v:Value} (hf:cN P f=true) (hx:ρ x=.func (.func f) fst.toArray caps.toArray) (ha:xs.map ρ=vs)
  (h:∀W,Ext w0 W L→Calls P f (fst++(vs++caps)).toArray W fun e W'=>e=.returned v∧Ext W W' []) :
  OpY r n P ⟨t,.call ⟨.value x,xs.toArray,us⟩,ty,pos,af,g⟩ ρ (fun W=>Ext w0 W L) (fun W=>Ext w0 W L) v:=fun W hW=>by
 rw[fh (by intro c h;cases h)]
 subst ha
 have e:(execOp ρ ⟨t,.call ⟨.value x,xs.toArray,us⟩,ty,pos,af,g⟩).run P W=.ok (.enter f (fst++(xs.map ρ++caps)).toArray) W:=by
  simp[execOp,resolve,hx,Deferred.ofValue,invoke,oy hf]
 rw[e]
 refine(h W hW).mono ?_
 rintro e W' ⟨rfl,hx⟩
 exact⟨O,hW.below' hx.below⟩
end
section
variable {w0 : World} {L : List Res}
theorem Ext.split {W:World} (h:Ext w0 W L) (i:Nat) {p:Res} (hp:L[i]? = some p) (p1 p2:Res) (h1:p.holds W→p1.holds W∧p2.holds W) (hd1:∀b,p1.dom b→p.dom b) (hd2:∀b,p2.dom b→p.dom b) (hs:p.holds W→∀b,p1.dom b→¬p2.dom b):Ext w0 W (L.set i p1++[p2]):=by
 have hh:=h.mem hp
 have h2:=h.tell i hp (q:=p1) (fun hh=>(h1 hh).1) hd1
 refine h2.snoc (h1 hh).2 (fun b hb=>h.new i p hp b (hd2 b hb)) (fun j q hq b hb hb'=>?_)
 rw[List.getElem?_set]at hq
 by_cases e:i=j
 ·subst e
  rw[if_pos O]at hq
  split at hq
  ·cases hq;exact hs hh b hb hb'
  ·cases hq
 ·rw[if_neg e]at hq
  exact h.sep j i q p hq hp (fun e'=>e e'.symm) b hb (hd2 b hb')
theorem Ext.join {W:World} {p1 p2:Res} (h:Ext w0 W (L++[p2])) (i:Nat) (hp:L[i]? = some p1) (p:Res) (hh:p1.holds W→p2.holds W→(∀b,p1.dom b→¬p2.dom b)→p.holds W) (hd:∀b,p.dom b→p1.dom b∨p2.dom b):Ext w0 W (L.set i p):=by
 have hi:i<L.length:=(List.getElem?_eq_some_iff.1 hp).1
 have hp1:(L++[p2])[i]? = some p1:=by rw[List.getElem?_append_left hi];exact hp
 have hp2:(L++[p2])[L.length]? = some p2:=by simp
 have hget:∀(k:Nat) (q:Res),(L.set i p)[k]? = some q→(k=i∧q=p)∨(k≠i∧k<L.length∧(L++[p2])[k]? = some q):=by
  intro k q hq
  by_cases e:i=k
  ·subst e
   rw[List.getElem?_set_self hi]at hq
   cases hq
   exact .inl ⟨O,O⟩
  ·rw[List.getElem?_set_ne e]at hq
   have hq':(L.set i p)[k]? = some q:=by rw[List.getElem?_set_ne e];exact hq
   have hk:k<L.length:=(List.getElem?_eq_some_iff.1 hq).1
   exact .inr ⟨fun e'=>e e'.symm,hk,by rw[List.getElem?_append_left hk];exact hq⟩
 refine⟨h.below,fun k q hq=>?_,fun k q hq b hb=>?_,fun k l q q' hq hq' hne b hb hb'=>?_⟩
 ·rcases hget k q hq with⟨_,rfl⟩|⟨_,_,h3⟩
  ·exact hh (h.all i p1 hp1) (h.all _ p2 hp2) (h.sep i L.length p1 p2 hp1 hp2 (by omega))
  ·exact h.all k q h3
 ·rcases hget k q hq with⟨_,rfl⟩|⟨_,_,h3⟩
  ·rcases hd b hb with h4|h4
   ·exact h.new i p1 hp1 b h4
   ·exact h.new _ p2 hp2 b h4
  ·exact h.new k q h3 b hb
 ·rcases hget k q hq with⟨a1,rfl⟩|⟨a1,a2,a3⟩ <;> rcases hget l q' hq' with⟨b1,rfl⟩|⟨b1,b2,b3⟩
  ·omega
  ·rcases hd b hb with h4|h4
   ·exact h.sep i l p1 q' hp1 b3 (fun e=>b1 e.symm) b h4 hb'
   ·exact h.sep _ l p2 q' hp2 b3 (by omega) b h4 hb'
  ·rcases hd b hb' with h4|h4
   ·exact h.sep k i q p1 a3 hp1 a1 b hb h4
   ·exact h.sep k _ q p2 a3 hp2 (by omega) b hb h4
  ·exact h.sep k l q q' a3 b3 hne b hb hb'
end
def cE:Hd:=(none,0,0)
def hdV (h:Hd):Value:=.slice h.1 h.2.1 h.2.2
section
variable {κ γ : Type} [DecidableEq κ]
structure HsOk (hs:List (κ × Hd)) (vs:List (κ × List γ)):Prop where
 len:hs.length=vs.length
 eq:∀k,(aw cE hs k).2.1=(aw [] vs k).length
theorem HsOk.nil:HsOk ([]:List (κ × Hd)) ([]:List (κ × List γ)):=⟨O,fun _=>O⟩
theorem HsOk.cons {hs:List (κ × Hd)} {vs:List (κ × List γ)} {k:κ} {h:Hd} {v:List γ} (ho:HsOk hs vs) (hv:h.2.1=v.length):HsOk ((k,h)::hs) ((k,v)::vs):=by
 refine⟨by simp[ho.len],fun q=>?_⟩
 unfold aw
 split
 ·exact hv
 ·exact ho.eq q
theorem em {β:Type} {z v:β} {k:κ} {m:List (κ × β)}:aw z ((k,v)::m) k=v:=by unfold aw;rw[if_pos O]
theorem ce {β:Type} {z v:β} {k q:κ} {m:List (κ × β)} (h:q≠k):aw z ((k,v)::m) q=aw z m q:=by
 show(if k=q then v else aw z m q)=_
 rw[if_neg (fun e=>h e.symm)]
def sS (e:TypeId) (sz:Nat) (ic:γ→List Value) (hs:List (κ × Hd)) (vs:List (κ × List γ)) (X:κ→Prop):Res where
 dom c:=∃k,¬X k∧(be (aw cE hs k).1 (aw cE hs k).2.2 e sz (aw cE hs k).2.1 (encL ic (aw [] vs k))).dom c
 holds W:=(∀k,¬X k→(be (aw cE hs k).1 (aw cE hs k).2.2 e sz (aw cE hs k).2.1 (encL ic (aw [] vs k))).holds W) ∧
  ∀k k',¬X k→¬X k'→k≠k'→∀c,(be (aw cE hs k).1 (aw cE hs k).2.2 e sz (aw cE hs k).2.1 (encL ic (aw [] vs k))).dom c→¬(be (aw cE hs k').1 (aw cE hs k').2.2 e sz (aw cE hs k').2.1 (encL ic (aw [] vs k'))).dom c
 loc W W' h hs hh:=⟨fun k hk=>Res.loc _ W W' (fun b hb=>h b ⟨k,hk,hb⟩) hs (hh.1 k hk),hh.2⟩
 inb W hh b hb:=by
  obtain⟨k,hk,hb⟩:=hb
  exact Res.inb _ W (hh.1 k hk) b hb
def mi (e:TypeId) (sz:Nat) (ic:γ→List Value) (hs:List (κ × Hd)) (vs:List (κ × List γ)):Res:=sS e sz ic hs vs (fun _=>False)
variable {w0 : World} {L : List Res} {e : TypeId} {sz : Nat} {ic : γ → List Value} {hs : List (κ × Hd)} {vs : List (κ × List γ)}
theorem rowsS_same {W:World} {k:κ} (hh:(mi e sz ic ((k,((aw cE hs k).1,(aw cE hs k).2.1,(aw cE hs k).2.2))::hs) ((k,aw [] vs k)::vs)).holds W):(mi e sz ic hs vs).holds W:=by
 have ee:∀q:κ,aw cE ((k,((aw cE hs k).1,(aw cE hs k).2.1,(aw cE hs k).2.2))::hs) q=aw cE hs q:=fun q=>by
  by_cases e1:q=k
  ·subst e1;rw[em]
  ·rw[ce e1]
 have ev:∀q:κ,aw [] ((k,aw [] vs k)::vs) q=aw [] vs q:=fun q=>by
  by_cases e1:q=k
  ·subst e1;rw[em]
  ·rw[ce e1]
 refine⟨fun q _=>?_,fun q q' _ _ hne=>?_⟩
 ·have:=hh.1 q (fun h=>h)
  rw[ee,ev]at this
  exact this
 ·have:=hh.2 q q' (fun h=>h) (fun h=>h) hne
  rw[ee,ee,ev,ev]at this
  exact this
theorem RdL.rows (ho:HsOk hs vs) (i:Nat) (hL:L[i]? = some (mi e sz ic hs vs)) (k:κ):RdL w0 L (aw cE hs k).1 (aw [] vs k).length (aw cE hs k).2.2 (encL ic (aw [] vs k)):=fun W hW =>
 ho.eq k▸gl ((hW.mem hL).1 k (fun h=>h))
theorem Ext.rowsOpen {W:World} (h:Ext w0 W L) (i:Nat) (hL:L[i]? = some (mi e sz ic hs vs)) (k:κ):Ext w0 W (L.set i (sS e sz ic hs vs (fun q=>q=k))++[be (aw cE hs k).1 (aw cE hs k).2.2 e sz (aw cE hs k).2.1 (encL ic (aw [] vs k))]) :=
 h.split i hL _ _ (fun hh=>⟨⟨fun q _=>hh.1 q (fun h=>h),fun q q' _ _=>hh.2 q q' (fun h=>h) (fun h=>h)⟩,hh.1 k (fun h=>h)⟩) (fun b hb=>by obtain⟨q,_,hb⟩:=hb;exact⟨q,fun h=>h,hb⟩) (fun b hb=>⟨k,fun h=>h,hb⟩)
  (fun hh b hb hb'=>by obtain⟨q,hq,hb⟩:=hb;exact hh.2 q k (fun h=>h) (fun h=>h) hq b hb hb')
theorem Ext.rowsClose {W:World} {k:κ} {A:Option Addr} {n c:Nat} {v:List γ} (i:Nat) (hi:i<L.length) (h:Ext w0 W (L.set i (sS e sz ic hs vs (fun q=>q=k))++[be A c e sz n (encL ic v)])):Ext w0 W (L.set i (mi e sz ic ((k,(A,n,c))::hs) ((k,v)::vs))):=by
 have hp:(L.set i (sS e sz ic hs vs (fun q=>q=k)))[i]? = some (sS e sz ic hs vs (fun q=>q=k)):=by simp[hi]
 have:=h.join i hp (mi e sz ic ((k,(A,n,c))::hs) ((k,v)::vs)) (fun h1 h2 h3=>?_) (fun b hb=>?_)
 ·rw[List.set_set]at this
  exact this
 ·refine⟨fun q _=>?_,fun q q' _ _ hne b hb hb'=>?_⟩
  ·by_cases e1:q=k
   ·subst e1
    rw[em,em]
    exact h2
   ·rw[ce e1,ce e1]
    exact h1.1 q e1
  ·by_cases e1:q=k <;> by_cases e2:q'=k
   ·exact hne (e1.trans e2.symm)
   ·subst e1
    rw[em,em]at hb
    rw[ce e2,ce e2]at hb'
    exact h3 b ⟨q',e2,hb'⟩ hb
   ·subst e2
    rw[em,em]at hb'
    rw[ce e1,ce e1]at hb
    exact h3 b ⟨q,e1,hb⟩ hb'
   ·rw[ce e1,ce e1]at hb
    rw[ce e2,ce e2]at hb'
    exact h1.2 q q' e1 e2 hne b hb hb'
 ·obtain⟨q,_,hb⟩:=hb
  by_cases e1:q=k
  ·subst e1
   rw[em,em]at hb
   exact .inr hb
  ·rw[ce e1,ce e1]at hb
   exact .inl ⟨q,e1,hb⟩
end
section
variable {r : Option Nat} {n : Nat} {P : Program} {ops : Array Oper} {Q : Exit → Act → World → Prop} {w0 : World} {L : List Res} {m : Nat} {tm : Nat → Value} {d : List Deferred}
variable {t : Tmp} {ty : TypeId} {pos : String} {af : Array Edge} {g : Option (Nat × Bool)} {l rest : List Oper}
variable {κ γ : Type} [DecidableEq κ] {ek : κ → Value} {ok : κ → Bool} {e : TypeId} {sz : Nat} {ic : γ → List Value} {hs : List (κ × Hd)} {vs : List (κ × List γ)}
theorem ox_makeMapS (kt:TypeId) (ek:κ→Value) (ok:κ→Bool) (e:TypeId) (sz:Nat) (ic:γ→List Value) {mt:TypeId} (hw:eU ops m tm ⟨some t,.makeMap mt none,ty,pos,af,g⟩=true)
  (h:∀b,OX r n P ops Q w0 (L++[mapV P kt ek ok hdV cE b ([]:List (κ × Hd)),mi e sz ic ([]:List (κ × Hd)) ([]:List (κ × List γ))]) rest m (upd tm t (.map (some b))) d):OX r n P ops Q w0 L (⟨some t,.makeMap mt none,ty,pos,af,g⟩::rest) m tm d :=
 jn kt ek ok hdV cE hw (fun b=>ox_perm (fun W hW=>by
  have hd0:∀c,¬(mi e sz ic ([]:List (κ × Hd)) ([]:List (κ × List γ))).dom c:=fun c hc=>by
   obtain⟨k,_,a,ha,_⟩:=hc
   cases ha
  have:=hW.snoc (p:=mi e sz ic ([]:List (κ × Hd)) ([]:List (κ × List γ))) ⟨fun k _=>⟨by simp[aw,encL,cE],.inl ⟨O,O⟩⟩,fun k k' _ _ _ c hc _=>hd0 c ⟨k,fun h=>h,hc⟩⟩ (fun c hc=>absurd hc (hd0 c)) (fun i q _ c _ hc=>hd0 c hc)
  rw[List.append_assoc]at this
  exact this) (h b))
section
variable {ρ : Operand → Value} {t' : Option Tmp}
theorem tr {kt et mt b:Nat} {x y:Operand} {k:κ} (ho:HsOk hs vs) (hM:MpL w0 L (mapV P kt ek ok hdV cE b hs)) (K:KeyE P kt ek ok) (hm:P.underlying mt=some (.map kt et)) (hz:cW P et=some (.slice none 0 0))
  (hx:ρ x=.map (some b)) (hy:ρ y=ek k) (hr:ok k=true) :
  OpY r n P ⟨t',.lookup mt x y false,ty,pos,af,g⟩ ρ (fun W=>Ext w0 W L) (fun W=>Ext w0 W L) (.slice (aw cE hs k).1 (aw [] vs k).length (aw cE hs k).2.2):=by
 have:=fj (r:=r) (n:=n) (t:=t') (ty:=ty) (pos:=pos) (af:=af) (g:=g) hM K hm hz hx hy hr
 rw[←ho.eq k]
 exact this
end
theorem ox_appendS (i:Nat) (k:κ) {ys:List γ} {x y:Operand} {u:TypeId} {B:Option Addr} {c' q:Nat} {by':Nat} {z:Value} (hu:P.underlying u=some (.slice e)) (hz:cW P e=some z) (hb:jQ P e z sz by'=true)
  (ho:HsOk hs vs) (hL:L[i]? = some (mi e sz ic hs vs)) (hx:opv m tm x=.slice (aw cE hs k).1 (aw [] vs k).length (aw cE hs k).2.2) (hy:opv m tm y=.slice B q c') (hR:RdL w0 L B q c' (encL ic ys)) (hn:(encL ic ys).length=q*sz) (h1:((encL ic ys).all (·.oneCell'))=true) (hg:((aw [] vs k).length+q)*by'≤140737488355328)
  (hw:eU ops m tm ⟨some t,.call ⟨.builtin .append,#[x,y],#[u,u]⟩,ty,pos,af,g⟩=true)
  (h:∀A' c',OX r n P ops Q w0 (L.set i (mi e sz ic ((k,(A',(aw [] vs k).length+q,c'))::hs) ((k,aw [] vs k++ys)::vs))) rest m (upd tm t (.slice A' ((aw [] vs k).length+q) c')) d) :
  OX r n P ops Q w0 L (⟨some t,.call ⟨.builtin .append,#[x,y],#[u,u]⟩,ty,pos,af,g⟩::rest) m tm d:=by
 have hi:i<L.length:=(List.getElem?_eq_some_iff.1 hL).1
 rw[←ho.eq k]at hx hg h
 refine ox_perm (L':=L.set i (sS e sz ic hs vs (fun q=>q=k))++[be (aw cE hs k).1 (aw cE hs k).2.2 e sz (aw cE hs k).2.1 (encL ic (aw [] vs k))]) (fun W hW=>hW.rowsOpen i hL k) ?_
 have hLk:(L.set i (sS e sz ic hs vs (fun q=>q=k))++[be (aw cE hs k).1 (aw cE hs k).2.2 e sz (aw cE hs k).2.1 (encL ic (aw [] vs k))])[L.length]? = some (be (aw cE hs k).1 (aw cE hs k).2.2 e sz (aw cE hs k).2.1 (encL ic (aw [] vs k))):=by
  rw[List.getElem?_append_right (by simp)]
  simp
 refine cr L.length hu hz hb hLk hx hy (fun W hW=>?_) hn h1 hg hw (fun A' c'=>?_)
 ·have h2:=Ext.rowsClose (k:=k) i hi hW
  have h3:=h2.tell i (p:=mi e sz ic ((k,((aw cE hs k).1,(aw cE hs k).2.1,(aw cE hs k).2.2))::hs) ((k,aw [] vs k)::vs)) (by rw[List.getElem?_set_self hi]) (q:=mi e sz ic hs vs) (fun hh=>rowsS_same hh) (fun b hb=>by
   obtain⟨q,_,hb⟩:=hb
   refine⟨q,fun h=>h,?_⟩
   by_cases e1:q=k
   ·subst e1
    rw[em,em];exact hb
   ·rw[ce e1,ce e1];exact hb)
  rw[List.set_set]at h3
  have e2:L.set i (mi e sz ic hs vs)=L:=by
   obtain⟨hi,he⟩:=List.getElem?_eq_some_iff.1 hL
   rw[←he,List.set_getElem_self]
  rw[e2]at h3
  exact hR W h3
 ·have e3:∀R:Res,(L.set i (sS e sz ic hs vs (fun q=>q=k))++[be (aw cE hs k).1 (aw cE hs k).2.2 e sz (aw cE hs k).2.1 (encL ic (aw [] vs k))]).set L.length R=L.set i (sS e sz ic hs vs (fun q=>q=k))++[R]:=fun R=>by
   rw[List.set_append_right _ _ (by simp)]
   simp
  rw[e3]
  exact ox_perm (fun W hW=>Ext.rowsClose i hi hW) (h A' c')
end
open Go.RowKit (Below)
section
variable {κ β γ : Type} [DecidableEq κ]
variable {P : Program} {kt : TypeId} {ek : κ → Value} {ok : κ → Bool} {ev : β → Value} {z : β} {b : Nat}
theorem ob {W:World} {n:Nat} {D:DataW Value} (h:W.ownsMap P kt rawR b n D):W.ownsMap P kt rawR b (Maps.size D) D:=by
 obtain⟨es,clock,hb,F,hs,rfl⟩:=h
 exact⟨es,clock,hb,F,by simp[Maps.size,length_sorted],O⟩
theorem tL {W:World} {it n cnt:Nat} {D:DataW Value} {lf:Lit→Bool} (h:W.ranges P kt rawR b it n D lf cnt):W.ranges P kt rawR b it (Maps.size D) D lf cnt:=by
 obtain⟨es,clock,since,seen,c0,hb,F,hs,rfl,h2⟩:=h
 exact⟨es,clock,since,seen,c0,hb,F,by simp[Maps.size,length_sorted],O,h2⟩
theorem ranges_mono {W:World} {it n n' cnt:Nat} {D:DataW Value} {lf:Lit→Bool} (h:W.ranges P kt rawR b it n D lf cnt) (hn:n≤n'):W.ranges P kt rawR b it n' D lf cnt:=by
 obtain⟨es,clock,since,seen,c0,hb,F,hs,hD,h2⟩:=h
 exact⟨es,clock,since,seen,c0,hb,F,Nat.le_trans hs hn,hD,h2⟩
theorem m7 {W:World} {n:Nat} {D:DataW Value} (K:KeyE P kt ek ok) (h:W.ownsMap P kt rawR b n D) {m:List (κ × β)} (h3:∀x l,ok x=true→keyOf P kt (ek x)=some l→Maps.has D l=true→bH m x=true) (h4:∀l,Maps.has D l=true→∃x,ok x=true∧keyOf P kt (ek x)=some l):Maps.size D≤m.length:=by
 obtain⟨es,rfl,hp,hk⟩:=h.entries K.keyed
 have hn:(es.map Prod.fst).Nodup:=by
  rw[List.Nodup,List.pairwise_map]
  exact hp
 have hs:∀l∈es.map Prod.fst,l∈(m.map Prod.fst).filterMap fun x=>keyOf P kt (ek x):=fun l hl=>by
  obtain⟨p,hpm,rfl⟩:=List.mem_map.1 hl
  have hh:Maps.has (.map es) p.1=true:=by
   rw[Maps.has_eq]
   exact List.any_eq_true.2 ⟨p,hpm,WideAt.sameKey_self (hk p hpm)⟩
  obtain⟨x,hx,hxl⟩:=h4 _ hh
  exact List.mem_filterMap.2 ⟨x,oh.1 (h3 x _ hx hxl hh),hxl⟩
 have h1:=kP hn hs
 have h2:=List.length_filterMap_le (fun x=>keyOf P kt (ek x)) (m.map Prod.fst)
 rw[List.length_map]at h1 h2
 have:Maps.size (.map es)=es.length:=rfl
 omega
theorem mapV_ext {W:World} (K:KeyE P kt ek ok) {m m':List (κ × β)} (h:(mapV P kt ek ok ev z b m).holds W) (he:∀q,ok q=true→aw z m q=aw z m' q∧bH m q=bH m' q):(mapV P kt ek ok ev z b m').holds W:=by
 obtain⟨D,h1,h2,h3,h4⟩:=h
 have h3':∀x l,ok x=true→keyOf P kt (ek x)=some l→D.atKey l (.held (ev z))=.held (ev (aw z m' x))∧Maps.has D l=bH m' x:=fun x l hx hl=>by
  rw[←(he x hx).1,←(he x hx).2]
  exact h3 x l hx hl
 exact⟨D,(ob h1).mono (m7 K h1 (fun x l hx hl hh=>by rw[←(h3' x l hx hl).2];exact hh) h4),h2,h3',h4⟩
end
section
variable {r : Option Nat} {n : Nat} {P : Program} {ρ : Operand → Value} {w0 : World} {L : List Res}
variable {ty : TypeId} {pos : String} {af : Array Edge} {g : Option (Nat × Bool)}
variable {κ β : Type} [DecidableEq κ] {kt : TypeId} {ek : κ → Value} {ok : κ → Bool} {ev : β → Value} {z : β}
theorem td {D:DataW Value} (K:KeyE P kt ek ok) {m:List (κ × β)} {k:κ} {kl:Lit} (hk:ok k=true) (hkl:keyOf P kt (ek k)=some kl)
  (h3:∀x l,ok x=true→keyOf P kt (ek x)=some l→D.atKey l (.held (ev z))=.held (ev (aw z m x))∧Maps.has D l=bH m x) (h4:∀l,Maps.has D l=true→∃x,ok x=true∧keyOf P kt (ek x)=some l) :
  (∀x l,ok x=true→keyOf P kt (ek x)=some l→(D.del kl).atKey l (.held (ev z))=.held (ev (aw z (oK m k) x))∧Maps.has (D.del kl) l=bH (oK m k) x)∧∀l,Maps.has (D.del kl) l=true→∃x,ok x=true∧keyOf P kt (ek x)=some l:=by
 refine⟨fun x l hx hl=>?_,fun l hl=>?_⟩
 ·rw[sN,sm]
  by_cases e:x=k
  ·subst e
   have e2:l=kl:=by rw[hl]at hkl;exact Option.some.inj hkl
   subst e2
   rw[Maps.atKey_del_same,Maps.has_del_same]
   simp
  ·have hne:l≠kl:=fun e2=>e (K.inj x k (K.keyed.inj hl (e2▸hkl)))
   rw[Maps.atKey_del_other hne,Maps.has_del_other hne,(h3 x l hx hl).1,(h3 x l hx hl).2]
   simp[e]
 ·by_cases e:l=kl
  ·subst e;rw[Maps.has_del_same]at hl;cases hl
  ·rw[Maps.has_del_other e]at hl
   exact h4 l hl
theorem y_deleteV (i:Nat) {et mt b:Nat} {m:List (κ × β)} {x y:Operand} {k:κ} (hL:L[i]? = some (mapV P kt ek ok ev z b m)) (K:KeyE P kt ek ok) (hm:P.underlying mt=some (.map kt et)) (hx:ρ x=.map (some b)) (hy:ρ y=ek k) (hr:ok k=true) :
  OpY r n P ⟨none,.call ⟨.builtin .delete,#[x,y],#[mt,kt]⟩,ty,pos,af,g⟩ ρ (fun W=>Ext w0 W L) (fun W=>Ext w0 W (L.set i (mapV P kt ek ok ev z b (oK m k)))) (.tuple #[]):=fun W hW=>by
 obtain⟨D,h1,h2,h3,h4⟩:=hW.mem hL
 obtain⟨l,hl⟩:=K.tot k hr
 obtain⟨W',hrun,hown,htn⟩:=h1.drop K.keyed hm hl ty
 obtain⟨f3,f4⟩:=td K hr hl h3 h4
 have hg:=htn.grown
 have e1:(execOp ρ ⟨none,.call ⟨.builtin .delete,#[x,y],#[mt,kt]⟩,ty,pos,af,g⟩).run P W=.ok (.value (.tuple #[])) W':=by
  simp only[execOp,resolve,invoke,builtin]
  simp[hx,hy,hrun]
 rw[fh (by intro c h;cases h),e1]
 refine⟨O,hW.set hL _ ⟨_,(ob hown).mono (m7 K hown (fun x l hx hl hh=>by rw[←(f3 x l hx hl).2];exact hh) f4),h2.del _,f3,f4⟩ hg.os hg.tape hg.output hg.size (fun c hc hn=>hg.block c hc (fun e=>hn (by cases e;rfl))) (fun c hc=>.inl hc)⟩
end
section
variable {r : Option Nat} {n : Nat} {P : Program} {ops : Array Oper} {Q : Exit → Act → World → Prop} {w0 : World} {L : List Res} {m : Nat} {tm : Nat → Value} {d : List Deferred}
variable {ty : TypeId} {pos : String} {af : Array Edge} {g : Option (Nat × Bool)} {rest : List Oper} {e : Exit}
variable {κ β : Type} [DecidableEq κ] {kt : TypeId} {ek : κ → Value} {ok : κ → Bool} {ev : β → Value} {z : β}
theorem ox_deleteR (i:Nat) {et mt b it c:Nat} {M:List (κ × β)} {left:κ→Bool} {cur:Option (Value × Value)} {x y:Operand} {k:κ} (hL:L[i]? = some (rD P kt ek ok ev z b it M left c cur)) (K:KeyE P kt ek ok) (hm:P.underlying mt=some (.map kt et)) (hx:opv m tm x=.map (some b)) (hy:opv m tm y=ek k) (hr:ok k=true) (hlk:left k=false)
  (hw:eU ops m tm ⟨none,.call ⟨.builtin .delete,#[x,y],#[mt,kt]⟩,ty,pos,af,g⟩=true)
  (h:∀c',c'≤c→OX r n P ops Q w0 (L.set i (rD P kt ek ok ev z b it (oK M k) left c' none)) rest m tm d) :
  OX r n P ops Q w0 L (⟨none,.call ⟨.builtin .delete,#[x,y],#[mt,kt]⟩,ty,pos,af,g⟩::rest) m tm d:=fun W hW=>by
 obtain⟨⟨D,lf,h1,h2,h3,h4,h5,h6⟩,_⟩:=hW.mem hL
 obtain⟨kl,hkl⟩:=K.tot k hr
 obtain⟨W',c',hrun,hown,hc',htn⟩:=h1.drop K.keyed hm hkl ty
 obtain⟨f3,f4⟩:=td K hr hkl h3 h4
 have hg:=htn.grown
 have e1:(execOp (opv m tm) ⟨none,.call ⟨.builtin .delete,#[x,y],#[mt,kt]⟩,ty,pos,af,g⟩).run P W=.ok (.value (.tuple #[])) W':=by
  simp only[execOp,resolve,invoke,builtin]
  simp[hx,hy,hrun]
 have hlf:∀l,(lf l && !l.sameKey kl)=lf l:=fun l=>by
  by_cases hh:Maps.has D l=true
  ·obtain⟨q,hq,hql⟩:=h4 l hh
   cases hs:l.sameKey kl with
   | false=>simp
   | true =>
    have e4:=WideAt.sameKey_eq hs
    have e5:q=k:=K.inj q k (K.keyed.inj hql (e4▸hkl))
    subst e5
    rw[h5 q l hq hql,hlk]
    rfl
  ·cases hf:lf l with
   | false=>rfl
   | true=>exact absurd (h6 l hf) hh
 have hown2:W'.ranges P kt rawR b it M.length (D.del kl) lf c':=by
  have e6:(fun x=>lf x && !x.sameKey kl)=lf:=funext hlf
  rw[e6]at hown
  exact hown
 have h8:(rD P kt ek ok ev z b it (oK M k) left c' none).holds W':=by
  refine⟨⟨_,lf,ranges_mono (tL hown2) (m7 K hown2.owns (fun x l hx hl hh=>by rw[←(f3 x l hx hl).2];exact hh) f4),h2.del _,f3,f4,h5,fun l hl=>?_⟩,fun q hq=>by cases hq⟩
  have h9:=h6 l hl
  by_cases e7:l=kl
  ·subst e7
   have h10:=hlf l
   rw[hl,WideAt.sameKey_self (K.keyed.key hkl)]at h10
   cases h10
  ·rw[Maps.has_del_other e7]
   exact h9
 have hE:Ext w0 W' (L.set i (rD P kt ek ok ev z b it (oK M k) left c' none)) :=
  hW.set hL _ h8 hg.os hg.tape hg.output hg.size (fun c hc hn=>hg.block c hc (fun e=>hn (.inl (by cases e;rfl)))) (fun c hc=>.inl hc)
 unfold OL
 rw[bn,if_pos hw]
 refine⟨fun _ _=>trivial,?_⟩
 show Oper.uponIn (Fw r) n P _ _ _ Q ((Oper.semAt r (act m tm d).eval _).run P W)
 rw[fh (by intro c h;cases h),dv,e1]
 exact h c' hc' W' hE
theorem nk (i:Nat) {b it c:Nat} {M:List (κ × β)} {left:κ→Bool} {cur:Option (Value × Value)} (hL:L[i]? = some (rD P kt ek ok ev z b it M left c cur)) (h:EX Q e w0 (L.set i (rD P kt ek ok ev z b it M left c none)) m tm d):EX Q e w0 L m tm d:=fun W hW =>
 h W (hW.tell i hL (fun hh=>⟨hh.1,fun q hq=>by cases hq⟩) (fun b hb=>hb))
theorem qR (i:Nat) {b it c:Nat} {M:List (κ × β)} {left:κ→Bool} {cur:Option (Value × Value)} (hL:L[i]? = some (rD P kt ek ok ev z b it M left c cur)) (h:EX Q e w0 (L.set i (mapV P kt ek ok ev z b M)) m tm d):EX Q e w0 L m tm d:=fun W hW=>h W (hW.rangeEnd i hL)
theorem re (i:Nat) {b:Nat} {M:List (κ × β)} (M':List (κ × β)) (K:KeyE P kt ek ok) (hL:L[i]? = some (mapV P kt ek ok ev z b M)) (he:∀q,ok q=true→aw z M q=aw z M' q∧bH M q=bH M' q) (h:EX Q e w0 (L.set i (mapV P kt ek ok ev z b M')) m tm d):EX Q e w0 L m tm d:=fun W hW =>
 h W (hW.tell i hL (fun hh=>mapV_ext K hh he) (fun b hb=>hb))
end
section
variable {P : Program} {κ β : Type} [DecidableEq κ] {kt : TypeId} {ek : κ → Value} {ok : κ → Bool} {ev : β → Value} {z : β}
theorem rngV_at {W W':World} {b it c:Nat} {M:List (κ × β)} {left:κ→Bool} {cur:Option (Value × Value)} (hh:(rD P kt ek ok ev z b it M left c cur).holds W) (hb:W'.heap[b]? = W.heap[b]?) (hi:W'.heap[it]? = W.heap[it]?):(rD P kt ek ok ev z b it M left c cur).holds W':=by
 obtain⟨⟨D,lf,⟨es,clock,since,seen,c0,hb0,F,hs,hD,hr,rest⟩,h2⟩,h3⟩:=hh
 exact⟨⟨D,lf,⟨es,clock,since,seen,c0,hb.trans hb0,F,hs,hD,hi.trans hr,rest⟩,h2⟩,fun q hq=>entry_at hr hb0 (hi.trans hr) (hb.trans hb0) (h3 q hq)⟩
theorem rngV_next {W:World} {b it c:Nat} {M:List (κ × β)} {left:κ→Bool} {cur:Option (Value × Value)} (K:KeyE P kt ek ok) (hh:(rD P kt ek ok ev z b it M left c cur).holds W) (ty:TypeId) :
  ((∀y,ok y=true→left y=false)∧(Instr.next (.pointer (some ⟨it,0,none⟩)) false ty).run P W=.ok (.tuple #[.bool false]) W) ∨
  ∃y W' c',ok y=true∧left y=true∧bH M y=true∧c'<c∧(Instr.next (.pointer (some ⟨it,0,none⟩)) false ty).run P W=.ok (.tuple #[.bool true,ek y,ev (aw z M y)]) W'∧(rD P kt ek ok ev z b it M (fun q=>left q && !decide (q=y)) c' (some (ek y,ev (aw z M y)))).holds W'∧W.grownBy W' (some it):=by
 obtain⟨⟨D,lf,hr,h2,h3,h4,h5,h6⟩,_⟩:=hh
 rcases hr.next K.keyed ty with⟨_,hl,hrun⟩|⟨key,v,kl,y0,W',k',hkey,hlk,hv,hat,hrun,hr',hk',hg,hs,hen⟩
 ·refine .inl ⟨fun y hy=>?_,hrun⟩
  obtain⟨l,hl'⟩:=K.tot y hy
  rw[←h5 y l hy hl']
  exact hl l
 ·obtain⟨y,hy,hyl⟩:=h4 kl (h6 kl hlk)
  have hke:key=ek y:=K.keyed.inj hkey hyl
  have hva:v=ev (aw z M y):=by
   have e1:=(h3 y kl hy hyl).1
   rw[hat]at e1
   have e2:y0=(.held v,[]):=(Option.some.inj hv).symm
   rw[e2]at e1
   simp only[DataW.held.injEq]at e1
   exact e1
  subst hke hva
  refine .inr ⟨y,W',k',hy,by rw[←h5 y kl hy hyl];exact hlk,by rw[←(h3 y kl hy hyl).2];exact h6 kl hlk,hk',hrun,⟨⟨D,_,hr',h2,h3,h4,fun q l hq hl=>?_,fun l hl=>?_⟩,fun q hq=>by cases hq;exact hen⟩,hg⟩
  ·show(lf l && !l.sameKey kl)=(left q && !decide (q=y))
   rw[h5 q l hq hl]
   by_cases e:q=y
   ·subst e
    have e3:l=kl:=by rw[hl]at hyl;exact Option.some.inj hyl
    rw[e3,WideAt.sameKey_self (K.keyed.key hyl)]
    simp
   ·have e3:l.sameKey kl=false:=by
     cases hsk:l.sameKey kl with
     | false=>rfl
     | true =>
      have e4:=WideAt.sameKey_eq hsk
      exact absurd (K.inj q y (K.keyed.inj hl (e4▸hyl))) e
    rw[e3]
    simp[e]
  ·have hl2:(lf l && !l.sameKey kl)=true:=hl
   rw[Bool.and_eq_true]at hl2
   exact h6 l hl2.1
def rngA (w0:World) (P:Program) (kt:TypeId) (ek:κ→Value) (ok:κ→Bool) (ev:β→Value) (z:β) (b it:Nat) (M:List (κ × β)) (left:κ→Bool) (c:Nat) (cur:Option (Value × Value)):Res where
 dom x:=x=it
 holds W:=it<W.heap.size∧∀W',W'.heap[it]? = W.heap[it]?→W'.heap[b]? = w0.heap[b]?→(rD P kt ek ok ev z b it M left c cur).holds W'
 loc W W' h hs hh:=⟨Nat.lt_of_lt_of_le hh.1 hs,fun W2 h1 h2=>hh.2 W2 (h1.trans (h it O)) h2⟩
 inb W hh x hx:=by
  have hx':x=it:=hx
  rw[hx']
  exact hh.1
theorem Cy.rngA {B:Nat} {w0:World} {b it c:Nat} {M:List (κ × β)} {left:κ→Bool} {cur:Option (Value × Value)} (h:it<B):Cy B (rngA w0 P kt ek ok ev z b it M left c cur):=fun W x _ hx=>by
 have hx':x=it:=hx
 exact .inl (by omega)
end
section
variable {r : Option Nat} {n : Nat} {P : Program} {ops : Array Oper} {Q : Exit → Act → World → Prop} {w0 : World} {L : List Res} {m : Nat} {tm : Nat → Value} {d : List Deferred}
variable {t : Tmp} {ty : TypeId} {pos : String} {af : Array Edge} {g : Option (Nat × Bool)} {rest : List Oper} {e : Exit}
variable {κ β : Type} [DecidableEq κ] {kt : TypeId} {ek : κ → Value} {ok : κ → Bool} {ev : β → Value} {z : β}
theorem ox_rangeA {mt et b:Nat} {M:List (κ × β)} {x:Operand} (hM:(mapV P kt ek ok ev z b M).holds w0) (K:KeyE P kt ek ok) (hm:P.underlying mt=some (.map kt et)) (hx:opv m tm x=.map (some b))
  (hw:eU ops m tm ⟨some t,.range mt x,ty,pos,af,g⟩=true)
  (h:∀it k,k≤M.length→OX r n P ops Q w0 (L++[rngA w0 P kt ek ok ev z b it M (fun y=>bH M y) k none]) rest m (upd tm t (.pointer (some ⟨it,0,none⟩))) d) :
  OX r n P ops Q w0 L (⟨some t,.range mt x,ty,pos,af,g⟩::rest) m tm d :=
 kq hw (by intro c h;cases h) fun W hW=>by
  have hb0:b<w0.heap.size:=(mapV P kt ek ok ev z b M).inb w0 hM b O
  have hMW:=mapV.later hM hW.below
  obtain⟨D,h1,h2,h3,h4⟩:=hMW
  obtain⟨W',hrun,hr,hg,hs⟩:=h1.range K.keyed hm
  have hsz:=hW.size
  have hbW:W'.heap[b]? = w0.heap[b]?:=by rw[hg.block b (by omega) (by simp),hW.below.block b hb0]
  have hrv:(rD P kt ek ok ev z b W.heap.size M (fun y=>bH M y) (Maps.size D) none).holds W':=⟨⟨D,Maps.has D,hr,h2,h3,h4,fun y l hy hl=>(h3 y l hy hl).2,fun _ h=>h⟩,fun q hq=>by cases hq⟩
  refine⟨_,W',_,by simp[execOp,hx,hrun],?_,h W.heap.size (Maps.size D) h1.size_le⟩
  have h7:Ext w0 W' L:=hW.keep (hW.below.trans ⟨hg.os,hg.tape,hg.output,hg.size,fun c hc=>hg.block c (by omega) (by simp)⟩) hg.size (fun i p hp c hd=>hg.block c (p.inb W (hW.all i p hp) c hd) (by simp))
  refine h7.snoc ⟨by rw[hs];exact Nat.lt_succ_self _,fun W2 e1 e2=>rngV_at hrv (e2.trans hbW.symm) e1⟩ (fun c hc=>?_) (fun i q hq c hc hc'=>?_)
  ·have hc':c=W.heap.size:=hc
   omega
  ·have hc'':c=W.heap.size:=hc'
   have:=q.inb W (hW.all i q hq) c hc
   omega
theorem ox_nextA (i:Nat) {b it k:Nat} {M:List (κ × β)} {left:κ→Bool} {cur:Option (Value × Value)} {x:Operand} (hb0:b<w0.heap.size) (hL:L[i]? = some (rngA w0 P kt ek ok ev z b it M left k cur)) (K:KeyE P kt ek ok) (hx:opv m tm x=.pointer (some ⟨it,0,none⟩))
  (hw:eU ops m tm ⟨some t,.next x false,ty,pos,af,g⟩=true)
  (h0:(∀y,ok y=true→left y=false)→OX r n P ops Q w0 L rest m (upd tm t (.tuple #[.bool false])) d)
  (h1:∀y k',ok y=true→left y=true→bH M y=true→k'<k→OX r n P ops Q w0 (L.set i (rngA w0 P kt ek ok ev z b it M (fun q=>left q && !decide (q=y)) k' (some (ek y,ev (aw z M y))))) rest m (upd tm t (.tuple #[.bool true,ek y,ev (aw z M y)])) d) :
  OX r n P ops Q w0 L (⟨some t,.next x false,ty,pos,af,g⟩::rest) m tm d :=
 kq hw (by intro c h;cases h) fun W hW=>by
  have hh:=hW.mem hL
  have hbW:W.heap[b]? = w0.heap[b]?:=hW.below.block b hb0
  rcases rngV_next K (hh.2 W O hbW) ty with⟨hno,hrun⟩|⟨y,W',k',hy,hly,hM,hk',hrun,hrv,hg⟩
  ·exact⟨_,W,L,by simp[execOp,hx,hrun],hW,h0 hno⟩
  ·have hne:b≠it:=fun e=>by
    have:=hW.new i _ hL it O
    omega
   have hbW':W'.heap[b]? = w0.heap[b]?:=by rw[hg.block b (by have:=hW.size;omega) (by simpa using fun e=>hne e),hbW]
   refine⟨_,W',_,by simp[execOp,hx,hrun],?_,h1 y k' hy hly hM hk'⟩
   exact hW.set hL _ ⟨Nat.lt_of_lt_of_le hh.1 hg.size,fun W2 e1 e2=>rngV_at hrv (e2.trans hbW'.symm) e1⟩ hg.os hg.tape hg.output hg.size (fun c hc hn=>hg.block c hc (fun e=>hn (by cases e;rfl))) (fun c hc=>.inl hc)
theorem rr (i:Nat) {b it c:Nat} {M:List (κ × β)} {left:κ→Bool} {cur:Option (Value × Value)} (hL:L[i]? = some (rngA w0 P kt ek ok ev z b it M left c cur)) (h:EX Q e w0 (L.set i (rngA w0 P kt ek ok ev z b it M left c none)) m tm d):EX Q e w0 L m tm d:=fun W hW =>
 h W (hW.tell i hL (fun hh=>⟨hh.1,fun W2 e1 e2=>⟨(hh.2 W2 e1 e2).1,fun q hq=>by cases hq⟩⟩) (fun b hb=>hb))
end
section
variable {r : Option Nat} {n : Nat} {P : Program} {ρ : Operand → Value} {w0 : World} {L : List Res}
variable {t : Option Tmp} {ty : TypeId} {pos : String} {af : Array Edge} {g : Option (Nat × Bool)}
variable {κ β : Type} [DecidableEq κ] {kt : TypeId} {ek : κ → Value} {ok : κ → Bool} {ev : β → Value} {z : β}
theorem y_entryA (i:Nat) {b it k:Nat} {M:List (κ × β)} {left:κ→Bool} {a c:Value} {x:Operand} (hb0:b<w0.heap.size) (hL:L[i]? = some (rngA w0 P kt ek ok ev z b it M left k (some (a,c)))) (hx:ρ x=.pointer (some ⟨it,0,none⟩)) :
  OpY r n P ⟨t,.entry x,ty,pos,af,g⟩ ρ (fun W=>Ext w0 W L) (fun W=>Ext w0 W L) (.tuple #[a,c]) :=
 bq (by intro c h;cases h) (fun W hW=>by
  obtain⟨_,h⟩:=(hW.mem hL).2 W O (hW.below.block b hb0)
  simp[execOp,hx,h _ O])
end
section
variable {κ β γ : Type} [DecidableEq κ] {ok : κ → Bool}
structure UnionI (ok:κ→Bool) (z v:γ) (M:List (κ × β)) (m0:List (κ × γ)) (s:Nat × (κ→Bool) × List (κ × γ)):Prop where
 len:s.2.2.length+s.1≤m0.length+M.length
 val:∀q,ok q=true→aw z s.2.2 q=(if(bH M q && !s.2.1 q)=true then v else aw z m0 q)∧bH s.2.2 q=(bH M q && !s.2.1 q||bH m0 q)
theorem UnionI.start {z v:γ} {M:List (κ × β)} {m0:List (κ × γ)} {k:Nat} (hk:k≤M.length):UnionI ok z v M m0 (k,(fun y=>bH M y),m0) :=
 ⟨by simp;omega,fun q _=>by simp⟩
theorem UnionI.step {z v:γ} {M:List (κ × β)} {m0:List (κ × γ)} {s:Nat × (κ→Bool) × List (κ × γ)} (h:UnionI ok z v M m0 s) {y:κ} {k:Nat} (hy:ok y=true) (hM:bH M y=true) (hk:k<s.1) :
  UnionI ok z v M m0 (k,(fun q=>s.2.1 q && !decide (q=y)),(y,v)::s.2.2):=by
 refine⟨by have:=h.len;simp only[List.length_cons];omega,fun q hq=>?_⟩
 obtain⟨h1,h2⟩:=h.val q hq
 simp only[iI,iR,h1,h2]
 by_cases e:y=q
 ·subst e
  simp[hM]
 ·have e':¬q=y:=fun h=>e h.symm
  simp[e,e']
theorem UnionI.room {z v:γ} {M:List (κ × β)} {m0:List (κ × γ)} {s:Nat × (κ→Bool) × List (κ × γ)} (h:UnionI ok z v M m0 s) {k:Nat} (hk:k<s.1) (hg:m0.length+M.length≤1000000):s.2.2.length<1000000000:=by have:=h.len;omega
theorem UnionI.done {z v:γ} {M:List (κ × β)} {m0:List (κ × γ)} {s:Nat × (κ→Bool) × List (κ × γ)} (h:UnionI ok z v M m0 s) (hno:∀y,ok y=true→s.2.1 y=false):∀q,ok q=true→aw z s.2.2 q=aw z (lQ v M m0) q∧bH s.2.2 q=bH (lQ v M m0) q:=fun q hq=>by
 obtain⟨h1,h2⟩:=h.val q hq
 rw[sf,mhas_union,h1,h2,hno q hq]
 simp
structure DiffI (ok:κ→Bool) (z:γ) (M:List (κ × β)) (m0:List (κ × γ)) (s:Nat × (κ→Bool) × List (κ × γ)):Prop where
 val:∀q,ok q=true→aw z s.2.2 q=(if(bH M q && !s.2.1 q)=true then z else aw z m0 q)∧bH s.2.2 q=(!(bH M q && !s.2.1 q)&&bH m0 q)
theorem DiffI.start {z:γ} {M:List (κ × β)} {m0:List (κ × γ)} {k:Nat}:DiffI ok z M m0 (k,(fun y=>bH M y),m0):=⟨fun q _=>by simp⟩
theorem DiffI.step {z:γ} {M:List (κ × β)} {m0:List (κ × γ)} {s:Nat × (κ→Bool) × List (κ × γ)} (h:DiffI ok z M m0 s) {y:κ} {k:Nat} (hy:ok y=true) (hM:bH M y=true) :
  DiffI ok z M m0 (k,(fun q=>s.2.1 q && !decide (q=y)),oK s.2.2 y):=by
 refine⟨fun q hq=>?_⟩
 obtain⟨h1,h2⟩:=h.val q hq
 simp only[sN,sm,h1,h2]
 by_cases e:q=y
 ·subst e;simp[hM]
 ·simp[e]
theorem DiffI.done {z:γ} {M:List (κ × β)} {m0:List (κ × γ)} {s:Nat × (κ→Bool) × List (κ × γ)} (h:DiffI ok z M m0 s) (hno:∀y,ok y=true→s.2.1 y=false):∀q,ok q=true→aw z s.2.2 q=aw z (tT M m0) q∧bH s.2.2 q=bH (tT M m0) q:=fun q hq=>by
 obtain⟨h1,h2⟩:=h.val q hq
 unfold tT
 rw[mD z (fun x => !bH M x),nK (fun x => !bH M x),h1,h2,hno q hq]
 cases bH M q <;> simp
structure DropI (ok:κ→Bool) (z:β) (c:κ→Bool) (M:List (κ × β)) (s:Nat × (κ→Bool) × List (κ × β)):Prop where
 val:∀q,ok q=true→aw z s.2.2 q=(if(bH M q && !s.2.1 q&&c q)=true then z else aw z M q)∧bH s.2.2 q=(!(bH M q && !s.2.1 q&&c q)&&bH M q)
theorem DropI.start {z:β} {c:κ→Bool} {M:List (κ × β)} {k:Nat}:DropI ok z c M (k,(fun y=>bH M y),M):=⟨fun q _=>by simp⟩
theorem DropI.keep {z:β} {c:κ→Bool} {M:List (κ × β)} {s:Nat × (κ→Bool) × List (κ × β)} (h:DropI ok z c M s) {y:κ} {k:Nat} (hc:c y=false):DropI ok z c M (k,(fun q=>s.2.1 q && !decide (q=y)),s.2.2):=by
 refine⟨fun q hq=>?_⟩
 obtain⟨h1,h2⟩:=h.val q hq
 simp only[h1,h2]
 by_cases e:q=y
 ·subst e;simp[hc]
 ·simp[e]
theorem DropI.del {z:β} {c:κ→Bool} {M:List (κ × β)} {s:Nat × (κ→Bool) × List (κ × β)} (h:DropI ok z c M s) {y:κ} {k:Nat} (hc:c y=true) (hM:bH s.2.2 y=true):DropI ok z c M (k,(fun q=>s.2.1 q && !decide (q=y)),oK s.2.2 y):=by
 refine⟨fun q hq=>?_⟩
 obtain⟨h1,h2⟩:=h.val q hq
 have hMy:q=y→bH M q=true:=fun e=>by
  subst e
  rw[hM]at h2
  have:=h2.symm
  rw[Bool.and_eq_true]at this
  exact this.2
 simp only[sN,sm,h1,h2]
 by_cases e:q=y
 ·have:=hMy e
  subst e;simp[hc,this]
 ·simp[e]
theorem DropI.done {z:β} {c:κ→Bool} {M:List (κ × β)} {s:Nat × (κ→Bool) × List (κ × β)} (h:DropI ok z c M s) (hno:∀y,ok y=true→s.2.1 y=false):∀q,ok q=true→aw z s.2.2 q=aw z (M.filter fun p => !c p.1) q∧bH s.2.2 q=bH (M.filter fun p => !c p.1) q:=fun q hq=>by
 obtain⟨h1,h2⟩:=h.val q hq
 rw[mD z (fun x => !c x),nK (fun x => !c x),h1,h2,hno q hq]
 cases hm:bH M q with
 | true=>cases c q <;> simp
 | false=>rw[od hm];cases c q <;> simp
structure CollI (ok:κ→Bool) (M:List (κ × Bool)) (s:Nat × (κ→Bool) × List κ):Prop where
 len:s.2.2.length+s.1≤M.length
 nd:s.2.2.Nodup
 val:∀q,q∈s.2.2↔ok q=true∧bH M q=true∧s.2.1 q=false∧aw false M q=true
theorem CollI.start {M:List (κ × Bool)} {k:Nat} (hk:k≤M.length):CollI ok M (k,(fun y=>bH M y),[]) :=
 ⟨by simpa using hk,List.Pairwise.nil,fun q=>by
  simp only[List.not_mem_nil,false_iff]
  intro h
  rw[h.2.1]at h
  exact absurd h.2.2.1 (by simp)⟩
theorem CollI.keep {M:List (κ × Bool)} {s:Nat × (κ→Bool) × List κ} (h:CollI ok M s) {y:κ} {k:Nat} (hk:k<s.1) (hv:aw false M y=false):CollI ok M (k,(fun q=>s.2.1 q && !decide (q=y)),s.2.2):=by
 refine⟨by have:=h.len;simp only;omega,h.nd,fun q=>?_⟩
 rw[h.val q]
 by_cases e:q=y
 ·subst e;simp[hv]
 ·simp[e]
theorem CollI.app {M:List (κ × Bool)} {s:Nat × (κ→Bool) × List κ} (h:CollI ok M s) {y:κ} {k:Nat} (hy:ok y=true) (hly:s.2.1 y=true) (hM:bH M y=true) (hk:k<s.1) (hv:aw false M y=true):CollI ok M (k,(fun q=>s.2.1 q && !decide (q=y)),s.2.2++[y]):=by
 refine⟨by have:=h.len;simp only[List.length_append,List.length_cons,List.length_nil];omega,?_,fun q=>?_⟩
 ·rw[List.nodup_append]
  refine⟨h.nd,by simp,fun a ha b hb=>?_⟩
  rw[List.mem_singleton.1 hb]
  intro e
  subst e
  have:=((h.val a).1 ha).2.2.1
  rw[hly]at this
  cases this
 ·rw[List.mem_append,h.val q,List.mem_singleton]
  by_cases e:q=y
  ·subst e;simp[hy,hM,hv]
  ·simp[e]
end
open Go.RowKit (Below)
section
variable {β γ : Type} {sel : β → List γ} {ic : γ → List Value} {wb : World} {Hb Hb' : World → Prop}
def Pv (ic:γ→List Value) (wb:World) (Hb:World→Prop) (h:Hd) (cs:List γ):Prop:=∀W,Below wb.heap.size wb W→Hb W→Rd W h.1 h.2.1 h.2.2 (encL ic cs)
def PvL (sel:β→List γ) (ic:γ→List Value) (wb:World) (Hb:World→Prop) (ys:List (Hd × β)):Prop:=∀y∈ys,Pv ic wb Hb y.1 (sel y.2)
theorem Pv.nil {cs:List γ} (h:cs=[]):Pv ic wb Hb (none,0,0) cs:=fun _ _ _=>Rd.nil (by subst h;rfl)
theorem Pv.cut {cells:γ→List Value} {sz:Nat} (hc:∀x,(cells x).length=sz) {A:Option Addr} {n c:Nat} {xs:List γ} {lo hi:Int} (_h0:0≤lo) (h1:lo≤hi) (h2:hi≤(n:Int)) (_hn:n=xs.length) (hp:Pv cells wb Hb (A,n,c) xs) :
  Pv cells wb Hb ((if c=lo.toNat then A else A.map (fun x=>x.add (lo.toNat*sz))),hi.toNat-lo.toNat,c-lo.toNat) ((xs.drop lo.toNat).take (hi.toNat-lo.toNat)):=fun W hb hh=>by
 have:=(hp W hb hh).cut (sz:=sz) (l:=lo.toNat) (h:=hi.toNat) (by omega) (by show hi.toNat≤n;omega)
 rw[ka hc,m5 hc]at this
 exact this
theorem Pv.cutL {cells:γ→List Value} {sz:Nat} (hc:∀x,(cells x).length=sz) {A:Option Addr} {n c:Nat} {xs:List γ} {lo:Int} (h0:0≤lo) (h1:lo≤(n:Int)) (hn:n=xs.length) (hp:Pv cells wb Hb (A,n,c) xs) :
  Pv cells wb Hb ((if c=lo.toNat then A else A.map (fun x=>x.add (lo.toNat*sz))),n-lo.toNat,c-lo.toNat) (xs.drop lo.toNat):=by
 have h:=Pv.cut hc h0 h1 (Int.le_refl (n:Int)) hn hp
 have e:(xs.drop lo.toNat).take ((n:Int).toNat-lo.toNat)=xs.drop lo.toNat:=List.take_of_length_le (by rw[List.length_drop];simp only[Int.toNat_natCast];omega)
 rw[e]at h
 exact h
theorem Pv.mono {h:Hd} {cs:List γ} (hp:Pv ic wb Hb h cs) (hi:∀W,Below wb.heap.size wb W→Hb' W→Hb W):Pv ic wb Hb' h cs:=fun W hb hh=>hp W hb (hi W hb hh)
theorem PvL.of_nest {W:World} {ys:List (Hd × β)} {xs:List β} (h:NestW W sel ic ys xs):PvL sel ic W (fun _=>True) ys:=fun y hy W' hb _=>(h.inn y hy).later hb
theorem PvL.mono {ys:List (Hd × β)} (hp:PvL sel ic wb Hb ys) (hi:∀W,Below wb.heap.size wb W→Hb' W→Hb W):PvL sel ic wb Hb' ys:=fun y hy=>(hp y hy).mono hi
theorem PvL.nil:PvL sel ic wb Hb []:=fun y hy=>by cases hy
theorem PvL.cons {y:Hd × β} {ys:List (Hd × β)} (h1:Pv ic wb Hb y.1 (sel y.2)) (h2:PvL sel ic wb Hb ys):PvL sel ic wb Hb (y::ys):=fun z hz=>by
 rcases List.mem_cons.1 hz with rfl|hz
 ·exact h1
 ·exact h2 z hz
theorem PvL.app {ys zs:List (Hd × β)} (h1:PvL sel ic wb Hb ys) (h2:PvL sel ic wb Hb zs):PvL sel ic wb Hb (ys++zs):=fun z hz=>by
 rcases List.mem_append.1 hz with hz|hz
 ·exact h1 z hz
 ·exact h2 z hz
theorem PvL.set {y:Hd × β} {ys:List (Hd × β)} (j:Nat) (h:PvL sel ic wb Hb ys) (hv:Pv ic wb Hb y.1 (sel y.2)):PvL sel ic wb Hb (ys.set j y):=fun z hz=>by
 rcases List.mem_or_eq_of_mem_set hz with hz|rfl
 ·exact h z hz
 ·exact hv
theorem NestP.nil:NestP sel ([]:List (Hd × β)) []:=⟨O,fun y hy=>by cases hy⟩
theorem NestP.zip {ys:List (Hd × β)} {xs:List β} (h:NestP sel ys xs):ys=(ys.map Prod.fst).zip xs:=by
 rw[←h.eq]
 clear h
 induction ys with
 | nil=>rfl
 | cons y ys ih =>
  rw[List.map_cons,List.map_cons,List.zip_cons_cons,←ih]
theorem NestP.cons {y:Hd × β} {ys:List (Hd × β)} {xs:List β} (h1:y.1.2.1=(sel y.2).length) (h2:NestP sel ys xs):NestP sel (y::ys) (y.2::xs):=⟨by simp[h2.eq],fun z hz=>by
 rcases List.mem_cons.1 hz with rfl|hz
 ·exact h1
 ·exact h2.ln z hz⟩
theorem NestP.app {ys zs:List (Hd × β)} {xs us:List β} (h1:NestP sel ys xs) (h2:NestP sel zs us):NestP sel (ys++zs) (xs++us):=⟨by rw[List.map_append,h1.eq,h2.eq],fun z hz=>by
 rcases List.mem_append.1 hz with hz|hz
 ·exact h1.ln z hz
 ·exact h2.ln z hz⟩
theorem NestP.set {y:Hd × β} {ys:List (Hd × β)} {xs:List β} (j:Nat) (h:NestP sel ys xs) (hv:y.1.2.1=(sel y.2).length) {x:β} (hx:y.2=x):NestP sel (ys.set j y) (xs.set j x):=⟨by rw[List.map_set,h.eq,hx],fun z hz=>by
 rcases List.mem_or_eq_of_mem_set hz with hz|rfl
 ·exact h.ln z hz
 ·exact hv⟩
theorem PvL.nestL {w0:World} {L:List Res} {ys:List (Hd × β)} {xs:List β} (hP:NestP sel ys xs) (hv:PvL sel ic wb Hb ys) (hB:∀W,Ext w0 W L→Below wb.heap.size wb W∧Hb W):NestL w0 L sel ic ys xs:=⟨hP,fun y hy W hW=>hv y hy W (hB W hW).1 (hB W hW).2⟩
variable [Inhabited β] [Inhabited γ]
omit [Inhabited γ] in
theorem PvL.get {ys:List (Hd × β)} {xs:List β} (h:PvL sel ic wb Hb ys) (hP:NestP sel ys xs) {i:Int} (h0:0≤i) (h1:i<(xs.length:Int)):Pv ic wb Hb ((rdL ys i).1.1,(sel (rdL xs i)).length,(rdL ys i).1.2.2) (sel (rdL xs i)):=by
 have hl:xs.length=ys.length:=hP.hn O
 have h2:=hP.len h0 h1
 have h3:=h _ (rk (xs:=ys) h0 (by omega))
 rw[hP.snd i]at h3
 intro W hb hh
 have h4:=h3 W hb hh
 rw[h2]at h4
 exact h4
end
section
variable {w0 : World} {L : List Res}
def tP (p q:Res):Res where
 dom b:=p.dom b∨q.dom b
 holds W:=p.holds W∧q.holds W∧∀b,p.dom b→¬q.dom b
 loc W W' h hs hh:=⟨p.loc W W' (fun b hb=>h b (.inl hb)) hs hh.1,q.loc W W' (fun b hb=>h b (.inr hb)) hs hh.2.1,hh.2.2⟩
 inb W hh b hb:=by
  rcases hb with hb|hb
  ·exact p.inb W hh.1 b hb
  ·exact q.inb W hh.2.1 b hb
theorem Ext.joinF {W:World} (h:Ext w0 W L) (i j:Nat) (hij:i≠j) {p q:Res} (hp:L[i]? = some p) (hq:L[j]? = some q):Ext w0 W ((L.set j noR).set i (tP p q)):=by
 have hget:∀(k:Nat) (s:Res),((L.set j noR).set i (tP p q))[k]? = some s→(k=i∧s=tP p q)∨s=noR∨(k≠i∧k≠j∧L[k]? = some s):=by
  intro k s hk
  by_cases e:i=k
  ·subst e
   have hi:i<(L.set j noR).length:=by rw[List.length_set];exact(List.getElem?_eq_some_iff.1 hp).1
   rw[List.getElem?_set_self hi]at hk
   cases hk
   exact .inl ⟨O,O⟩
  ·rw[List.getElem?_set_ne e]at hk
   by_cases e2:j=k
   ·subst e2
    rw[List.getElem?_set_self (List.getElem?_eq_some_iff.1 hq).1]at hk
    cases hk
    exact .inr (.inl O)
   ·rw[List.getElem?_set_ne e2]at hk
    exact .inr (.inr ⟨fun h=>e h.symm,fun h=>e2 h.symm,hk⟩)
 refine⟨h.below,fun k s hk=>?_,fun k s hk b hb=>?_,fun k l s s' hk hl hne b hb hb'=>?_⟩
 ·rcases hget k s hk with⟨_,rfl⟩|rfl|⟨_,_,h3⟩
  ·exact⟨h.all i p hp,h.all j q hq,h.sep i j p q hp hq hij⟩
  ·trivial
  ·exact h.all k _ h3
 ·rcases hget k s hk with⟨_,rfl⟩|rfl|⟨_,_,h3⟩
  ·rcases hb with hb|hb
   ·exact h.new i p hp b hb
   ·exact h.new j q hq b hb
  ·exact hb.elim
  ·exact h.new k _ h3 b hb
 ·rcases hget k s hk with⟨a1,rfl⟩|rfl|⟨a1,a2,a3⟩
  ·rcases hget l s' hl with⟨b1,rfl⟩|rfl|⟨b1,b2,b3⟩
   ·exact hne (a1.trans b1.symm)
   ·exact hb'.elim
   ·rcases hb with hb|hb
    ·exact h.sep i l p s' hp b3 (fun e=>b1 e.symm) b hb hb'
    ·exact h.sep j l q s' hq b3 (fun e=>b2 e.symm) b hb hb'
  ·exact hb.elim
  ·rcases hget l s' hl with⟨b1,rfl⟩|rfl|⟨b1,b2,b3⟩
   ·rcases hb' with hb' | hb'
    ·exact h.sep k i s p a3 hp a1 b hb hb'
    ·exact h.sep k j s q a3 hq a2 b hb hb'
   ·exact hb'.elim
   ·exact h.sep k l s s' a3 b3 hne b hb hb'
theorem Ext.addNo {W:World} (h:Ext w0 W L):Ext w0 W (L++[noR]):=h.snoc (p:=noR) trivial (fun b hb=>hb.elim) (fun i q _ b _ hb=>hb.elim)
theorem Pv.rdl {γ:Type} {A:Option Addr} {n c:Nat} {cs:List γ} {ic:γ→List Value} {wb:World} {Hb:World→Prop} (h:Pv ic wb Hb (A,n,c) cs) (hh:∀W,Ext w0 W L→Below wb.heap.size wb W∧Hb W):RdL w0 L A n c (encL ic cs):=fun W hW=>h W (hh W hW).1 (hh W hW).2
theorem Ext.pickL {W:World} (h:Ext w0 W L) (is:List Nat) {ps:List Res} (hnd:decide is.Nodup=true) (hp:is.map (fun i=>L[i]?)=ps.map some):Ext w0 W ps:=by
 have hnd:=of_decide_eq_true hnd
 have hget:∀(k:Nat) (s:Res),ps[k]? = some s→∃i,is[k]? = some i∧L[i]? = some s:=by
  intro k s hk
  have h1:(ps.map some)[k]? = some (some s):=by rw[List.getElem?_map,hk];rfl
  rw[←hp,List.getElem?_map]at h1
  cases hi:is[k]? with
  | none=>rw[hi]at h1;cases h1
  | some i=>rw[hi]at h1;exact⟨i,O,by simpa using h1⟩
 refine⟨h.below,fun k s hk=>?_,fun k s hk=>?_,fun k l s s' hk hl hne=>?_⟩
 ·obtain⟨i,_,h2⟩:=hget k s hk;exact h.all i s h2
 ·obtain⟨i,_,h2⟩:=hget k s hk;exact h.new i s h2
 ·obtain⟨i,h1,h2⟩:=hget k s hk
  obtain⟨j,h3,h4⟩:=hget l s' hl
  refine h.sep i j s s' h2 h4 (fun e=>?_)
  subst e
  obtain⟨a1,a2⟩:=List.getElem?_eq_some_iff.1 h1
  obtain⟨b1,b2⟩:=List.getElem?_eq_some_iff.1 h3
  have hpw:=List.pairwise_iff_getElem.1 hnd
  rcases Nat.lt_trichotomy k l with h5|h5|h5
  ·exact hpw k l a1 b1 h5 (a2.trans b2.symm)
  ·exact hne h5
  ·exact hpw l k b1 a1 h5 (b2.trans a2.symm)
end
section
variable {r : Option Nat} {n : Nat} {P : Program} {ops : Array Oper} {Q : Exit → Act → World → Prop} {w0 : World} {L : List Res} {m : Nat} {tm : Nat → Value} {d : List Deferred} {l : List Oper} {e : Exit}
theorem ox_addNo (h:OX r n P ops Q w0 (L++[noR]) l m tm d):OX r n P ops Q w0 L l m tm d:=fun W hW=>h W hW.addNo
theorem cx_addNo {c:Code} (h:CX r n P c Q w0 (L++[noR]) m tm d):CX r n P c Q w0 L m tm d:=fun W hW=>h W hW.addNo
theorem nr (i j:Nat) (hij:i≠j) {p q:Res} (hp:L[i]? = some p) (hq:L[j]? = some q) (h:OX r n P ops Q w0 ((L.set j noR).set i (tP p q)) l m tm d):OX r n P ops Q w0 L l m tm d:=fun W hW=>h W (hW.joinF i j hij hp hq)
end
section
variable {r : Option Nat} {n : Nat} {P : Program} {ρ : Operand → Value} {w0 : World} {L : List Res}
variable {t : Option Tmp} {ty : TypeId} {pos : String} {af : Array Edge} {g : Option (Nat × Bool)}
variable {A : Option Addr} {k c : Nat} {cs : List Value}
theorem y_cut3 {x a b d:Operand} {u e:TypeId} {sz:Nat} {q q' q2:IntKind} {lo hi mx:Int} (hs:slOf P u=some (e,sz)) (h0:0≤lo) (h1:lo≤hi) (h2:hi≤mx) (h3:mx≤k) (hR:RdL w0 L A k c cs) (hx:ρ x=.slice A k c) (ha:ρ a=.int q lo) (hb:ρ b=.int q' hi) (hd:ρ d=.int q2 mx) :
  OpY r n P ⟨t,.slice u x (some a) (some b) (some d),ty,pos,af,g⟩ ρ (fun W=>Ext w0 W L) (fun W=>Ext w0 W L) (.slice (if mx.toNat=lo.toNat then A else A.map (·.add (lo.toNat*sz))) (hi.toNat-lo.toNat) (mx.toNat-lo.toNat)) :=
 bq (by intro c h;cases h) (fun W hW=>by
  obtain⟨hu',hsz⟩:=su hs
  have hcap:=(hR W hW).cap
  have h4:mx≤(c:Int):=by omega
  simp only[execOp,hx,ha,hb,hd,Option.map_some,Sem.run_bind,run_sliceAt_slice W u _ _ _ _ hu',run_slice_lhm W u A k c hu' q q' q2 lo hi mx h0 h1 h2 h4,hsz,Result.andThen_ok,sliced]
  rfl)
theorem Rd.cut3 {W:World} {l h m sz:Nat} (hr:Rd W A k c cs) (h1:l≤h) (h2:h≤m) (h3:m≤k):Rd W (if m=l then A else A.map (·.add (l*sz))) (h-l) (m-l) ((cs.drop (l*sz)).take ((h-l)*sz)):=by
 have hc:=hr.cut (sz:=sz) h1 (Nat.le_trans h2 h3)
 have hcap:=hr.cap
 refine⟨fun j v hj=>?_,by omega⟩
 by_cases hm:m=l
 ·have hh:h-l=0:=by omega
  rw[hh,Nat.zero_mul,List.take_zero]at hj
  simp at hj
 ·rw[if_neg hm]
  have:=hc.cell j v hj
  by_cases hcl:c=l
  ·omega
  ·rw[if_neg hcl]at this
   exact this
theorem RdL.cut3 {α:Type} {cells:α→List Value} {sz:Nat} (hc:∀x,(cells x).length=sz) {xs:List α} {lo hi mx:Int} (h:RdL w0 L A k c (encL cells xs)) (h0:0≤lo) (h1:lo≤hi) (h2:hi≤mx) (h3:mx≤(k:Int)) :
  RdL w0 L (if mx.toNat=lo.toNat then A else A.map (fun x=>x.add (lo.toNat*sz))) (hi.toNat-lo.toNat) (mx.toNat-lo.toNat) (encL cells ((xs.drop lo.toNat).take (hi.toNat-lo.toNat))):=fun W hW=>by
 have:=(h W hW).cut3 (sz:=sz) (l:=lo.toNat) (h:=hi.toNat) (m:=mx.toNat) (by omega) (by omega) (by omega)
 rw[ka hc,m5 hc]at this
 exact this
theorem cut3_len {α:Type} {xs:List α} {n:Nat} {lo hi mx:Int} (h0:0≤lo) (h1:lo≤hi) (h2:hi≤mx) (h3:mx≤(n:Int)) (hn:n=xs.length):hi.toNat-lo.toNat=((xs.drop lo.toNat).take (hi.toNat-lo.toNat)).length:=cut_len h0 h1 (by omega) hn
end
section
variable {β γ : Type} {sel : β → List γ} {ic : γ → List Value} {wb : World} {Hb : World → Prop}
theorem PvL.sub {ys zs:List (Hd × β)} (h:PvL sel ic wb Hb ys) (hs:∀y∈zs,y∈ys):PvL sel ic wb Hb zs:=fun y hy=>h y (hs y hy)
theorem NestP.take {ys:List (Hd × β)} {xs:List β} (k:Nat) (h:NestP sel ys xs):NestP sel (ys.take k) (xs.take k):=⟨by rw[List.map_take,h.eq],fun y hy=>h.ln y (List.mem_of_mem_take hy)⟩
theorem NestP.drop {ys:List (Hd × β)} {xs:List β} (k:Nat) (h:NestP sel ys xs):NestP sel (ys.drop k) (xs.drop k):=⟨by rw[List.map_drop,h.eq],fun y hy=>h.ln y (List.mem_of_mem_drop hy)⟩
end
section
variable {r : Option Nat} {n : Nat} {P : Program} {ops : Array Oper} {Q : Exit → Act → World → Prop} {w0 : World} {L : List Res} {m : Nat} {tm : Nat → Value} {d : List Deferred}
variable {t : Tmp} {ty : TypeId} {pos : String} {af : Array Edge} {g : Option (Nat × Bool)} {rest : List Oper}
end
section
variable {r : Option Nat} {n : Nat} {P : Program} {ρ : Operand → Value} {w0 : World} {L : List Res}
variable {t : Option Tmp} {ty : TypeId} {pos : String} {af : Array Edge} {g : Option (Nat × Bool)}
end
end Go.Proofs.YtbblpokfbmekfaaGreat
