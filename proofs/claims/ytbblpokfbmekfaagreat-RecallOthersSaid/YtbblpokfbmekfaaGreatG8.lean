import Derived.Test.YtbblpokfbmekfaaGreatGs
import Derived.WalkKit
import Derived.ProofKit
import Derived.OpenShut
import Derived.Carry
import Derived.ChangeOld
import Derived.RangeFuncNested
import Derived.Laws.OwnMore
import Derived.Lib.SliceRun
import Derived.Maps.OwnSet
import Derived.DeepKeys4
import Derived.Maps.Range
set_option linter.unusedVariables false
namespace Go.Proofs.YtbblpokfbmekfaaGreat
open Go.RowKit (Below)
inductive Lf where
 | i (k:IntKind)
 | b
 | sl (ks:List Lf)
def All2 (ok:Lf→Value→Prop):List Lf→List Value→Prop
 | [],[]=>True
 | k::ks,v::vs=>ok k v∧All2 ok ks vs
 | _,_=>False
def Lf.okN (W:World):Nat→Lf→Value→Prop
 | _,.i k,v=>∃n,v=.int k n∧(Lit.int k n).wf=true
 | _,.b,v=>∃x,v=.bool x
 | 0,.sl _,_=>False
 | m+1,.sl ks,v=>∃A n c,v=.slice A n c∧∃css:List (List Value),n=css.length∧n≤maxLen∧Rd W A n c css.flatten∧∀cs∈css,All2 (Lf.okN W m) ks cs
def flatB (P:Program):Nat→TypeId→List Lf→Bool
 | 0,_,_=>false
 | fuel+1,t,ks=>match P.underlying t with
  | some .bool=>match ks with | [.b]=>true|_=>false
  | some (.int k)=>match ks with | [.i k']=>decide (k'=k)|_=>false
  | some (.slice e)=>match ks with | [.sl ks']=>decide (ks'.length=P.cellsOf e)&&flatB P fuel e ks' | _=>false
  | some (.struct fs)=>(List.range ks.length).all (fun i=>fs.toList.any fun f=>decide (f.offset≤i)&&decide (i<f.offset+P.cellsOf f.type)) &&
    fs.toList.all fun f=>flatB P fuel f.type ((ks.drop f.offset).take (P.cellsOf f.type))
  | some (.array n e)=>(List.range ks.length).all (fun i=>(List.range n).any fun j=>decide (j*P.cellsOf e≤i)&&decide (i<j*P.cellsOf e+P.cellsOf e)) &&
    (List.range n).all fun j=>flatB P fuel e ((ks.drop (j*P.cellsOf e)).take (P.cellsOf e))
  | _=>false
theorem nv {α β:Type} {f:α→Option β}:∀{l:List α} {r:List β},l.mapM f=some r→∀x∈l,∃y,f x=some y
 | [],_,_,x,hx=>by cases hx
 | a::l,r,h,x,hx=>by
  rw[List.mapM_cons]at h
  cases ha:f a with
  | none=>rw[ha]at h;cases h
  | some y =>
   rw[ha]at h
   cases hl:l.mapM f with
   | none=>rw[hl]at h;cases h
   | some r' =>
    rcases List.mem_cons.1 hx with rfl|hx
    ·exact⟨y,ha⟩
    ·exact nv hl x hx
theorem pY {α:Type} {l:List α} {o n i:Nat} (h1:o≤i) (h2:i<o+n):((l.drop o).take n)[i-o]? = l[i]?:=by
 rw[List.getElem?_take,if_pos (by omega),List.getElem?_drop]
 congr 1
 omega
theorem listed {α:Type} {Q:Nat→α→Prop}:∀(n:Nat),(∀i,i<n→∃x,Q i x)→∃l:List α,l.length=n∧∀i x,l[i]? = some x→Q i x
 | 0,_=>⟨[],O,fun i x h=>by simp at h⟩
 | n+1,h=>by
  obtain⟨l,hl,hq⟩:=listed n (fun i hi=>h i (by omega))
  obtain⟨x,hx⟩:=h n (by omega)
  refine⟨l++[x],by simp[hl],fun i y hy=>?_⟩
  rcases Nat.lt_or_ge i l.length with hlt|hge
  ·rw[List.getElem?_append_left hlt]at hy;exact hq i y hy
  ·rw[List.getElem?_append_right hge]at hy
   by_cases e:i-l.length=0
   ·rw[e]at hy
    have hyx:x=y:=by simpa using hy
    subst hyx
    have:i=n:=by omega
    rw[this];exact hx
   ·rw[List.getElem?_eq_none (by simp;omega)]at hy;cases hy
theorem rH {α:Type} {C:Nat→α→Prop} {sz:Nat}:∀(css:List (List α)) (o:Nat),(∀i cs,css[i]? = some cs→cs.length=sz∧∀q v,cs[q]? = some v→C (o+(i*sz+q)) v)→∀j v,css.flatten[j]? = some v→C (o+j) v
 | [],_,_,j,v,h=>by simp at h
 | cs::css,o,hh,j,v,h=>by
  obtain⟨hl,hc⟩:=hh 0 cs O
  rw[List.flatten_cons]at h
  rcases Nat.lt_or_ge j cs.length with hlt|hge
  ·rw[List.getElem?_append_left hlt]at h
   have:=hc j v h
   rw[Nat.zero_mul,Nat.zero_add]at this
   exact this
  ·rw[List.getElem?_append_right hge]at h
   have:=rH css (o+sz) (fun i cs' hi=>by
    obtain⟨h1,h2⟩:=hh (i+1) cs' hi
    refine⟨h1,fun q v hq=>?_⟩
    have:=h2 q v hq
    rw[Nat.add_mul,Nat.one_mul]at this
    rw[show o+sz+(i*sz+q)=o+(i*sz+sz+q) by omega]
    exact this) (j-cs.length) v h
   rw[show o+sz+(j-cs.length)=o+j by omega]at this
   exact this
theorem All2.of {ok:Lf→Value→Prop}:∀{ks:List Lf} {vs:List Value},vs.length=ks.length→(∀(i:Nat) (k:Lf),ks[i]? = some k→∃v,vs[i]? = some v∧ok k v)→All2 ok ks vs
 | [],[],_,_=>trivial
 | [],_::_,h,_=>by simp at h
 | _::_,[],h,_=>by simp at h
 | k::ks,v::vs,h,hh=>by
  obtain⟨u,hu,hok⟩:=hh 0 k O
  have:v=u:=by simpa using hu
  subst this
  exact⟨hok,All2.of (by simpa using h) (fun i k hk=>by simpa using hh (i+1) k (by simpa using hk))⟩
theorem sw {H:Type} {enc:TypeId × Value→H} {P:Program} {w:World} {base:Nat} {sp:Nat→Bool} {held:Bool}:∀(fl m fuel:Nat) (t:TypeId) (ks:List Lf) (cs:List Value) (x:DataW H × List MemPlace),fl≤m→flatB P fl t ks=true→DataW.trod enc P w base sp held fuel t cs=some x →
  ∀(i:Nat) (k:Lf),ks[i]? = some k→∃v,cs[i]? = some v∧Lf.okN w m k v:=by
 intro fl
 induction fl with
 | zero=>intro m fuel t ks cs x _ h;cases h
 | succ fl ih =>
  intro m fuel t ks cs x hm h ht i k hk
  cases m with
  | zero=>omega
  | succ m =>
  cases fuel with
  | zero=>cases ht
  | succ fuel =>
   unfold flatB at h
   unfold DataW.trod at ht
   cases hu:P.underlying t with
   | none=>rw[hu]at h;cases h
   | some d =>
    rw[hu]at h ht
    cases d with
    | bool =>
     match ks,h with
     | [.b],_ =>
     cases i with
     | succ i=>simp at hk
     | zero =>
      obtain rfl:Lf.b=k:=by simpa using hk
      match cs,ht with
      | [.bool b],_=>exact⟨.bool b,O,b,O⟩
    | int q =>
     match ks,h with
     | [.i q0],h =>
     obtain rfl:=of_decide_eq_true h
     cases i with
     | succ i=>simp at hk
     | zero =>
      obtain rfl:Lf.i q0=k:=by simpa using hk
      match cs,ht with
      | [.int q' n],ht =>
       simp only at ht
       split at ht
       ·rename_i hc
        obtain⟨rfl,hw⟩:=hc
        exact⟨.int q' n,O,n,O,hw⟩
       ·cases ht
    | slice e =>
     match ks,h with
     | [.sl ks'],h =>
     simp only[Bool.and_eq_true,decide_eq_true_eq]at h
     obtain⟨hsz,hf⟩:=h
     cases i with
     | succ i=>simp at hk
     | zero =>
      obtain rfl:Lf.sl ks'=k:=by simpa using hk
      match cs,ht with
      | [.slice none 0 0],_=>exact⟨_,O,none,0,0,O,[],O,Nat.zero_le _,⟨fun j v hj=>by simp at hj,Nat.le_refl _⟩,fun cs hc=>by cases hc⟩
      | [.slice (some a) len cap],ht =>
       simp only at ht
       split at ht
       ·rename_i hc
        obtain⟨hb,hlc,hcm⟩:=hc
        cases hmm:((List.range len).mapM fun i=>(w.cells? base (a.add (i*P.cellsOf e)) (P.cellsOf e)).bind (DataW.trod enc P w base sp held fuel e))with
        | none=>rw[hmm]at ht;cases ht
        | some els =>
         obtain⟨css,hlen,hcss⟩:=listed (Q:=fun i cs=>(∃y,DataW.trod enc P w base sp held fuel e cs=some y)∧w.cells? base (a.add (i*P.cellsOf e)) (P.cellsOf e)=some cs) len (fun i hi=>by
          obtain⟨y,hy⟩:=nv hmm i (List.mem_range.2 hi)
          cases hcc:w.cells? base (a.add (i*P.cellsOf e)) (P.cellsOf e)with
          | none=>rw[hcc]at hy;cases hy
          | some cs=>rw[hcc]at hy;exact⟨cs,⟨y,hy⟩,O⟩)
         have hall:∀(i:Nat) (cs:List Value),css[i]? = some cs→cs.length=P.cellsOf e∧∀q v,cs[q]? = some v→w.cell? (a.add (0+(i*P.cellsOf e+q)))=some v:=fun i cs hi=>by
          obtain⟨_,hcc⟩:=hcss i cs hi
          obtain⟨_,h1,h2⟩:=World.cells?_some hcc
          refine⟨h1,fun q v hq=>?_⟩
          have hlt:q<P.cellsOf e:=by rw[←h1];exact(List.getElem?_eq_some_iff.1 hq).1
          have:=h2 q hlt
          rw[hq,Addr.add_add]at this
          rw[Nat.zero_add]
          exact this
         refine⟨_,O,some a,len,cap,O,css,hlen.symm,Nat.le_trans hlc hcm,⟨fun j v hj=>?_,hlc⟩,fun cs hc=>?_⟩
         ·have:=rH (C:=fun k v=>w.cell? (a.add k)=some v) css 0 hall j v hj
          simp only[Nat.zero_add]at this
          have h0:0<css.flatten.length:=by
           have:=(List.getElem?_eq_some_iff.1 hj).1
           omega
          have t0:=rH (C:=fun k v=>w.cell? (a.add k)=some v) css 0 hall 0 _ (List.getElem?_eq_getElem h0)
          obtain⟨b,off,spot⟩:=a
          have hspot:spot=none:=World.cell?_spot (by simpa [Addr.add]using t0)
          subst hspot
          exact⟨b,off,O,by simpa [Addr.add_lit]using this⟩
         ·obtain⟨i,hi⟩:=List.getElem?_of_mem hc
          obtain⟨⟨y,hy⟩,_⟩:=hcss i cs hi
          exact All2.of (by rw[(hall i cs hi).1,hsz]) (ih m fuel e ks' cs y (by omega) hf hy)
       ·cases ht
    | struct fs =>
     simp only[Bool.and_eq_true]at h
     obtain⟨hc,hf⟩:=h
     have hi:i<ks.length:=(List.getElem?_eq_some_iff.1 hk).1
     obtain⟨f,hfm,hfi⟩:=List.any_eq_true.1 (List.all_eq_true.1 hc i (List.mem_range.2 hi))
     simp only[Bool.and_eq_true,decide_eq_true_eq]at hfi
     have hff:=List.all_eq_true.1 hf f hfm
     simp only at ht
     split at ht
     ·cases hmm:(fs.toList.mapM fun f=>DataW.trod enc P w base sp held fuel f.type ((cs.drop f.offset).take (P.cellsOf f.type)))with
      | none=>rw[hmm]at ht;cases ht
      | some ys =>
       obtain⟨y,hy⟩:=nv hmm f hfm
       obtain⟨v,hv,hok⟩:=ih (m+1) fuel f.type _ _ y (by omega) hff hy (i-f.offset) k (by rw[pY hfi.1 hfi.2];exact hk)
       rw[pY hfi.1 hfi.2]at hv
       exact⟨v,hv,hok⟩
     ·cases ht
    | array n e =>
     simp only[Bool.and_eq_true]at h
     obtain⟨hc,hf⟩:=h
     have hi:i<ks.length:=(List.getElem?_eq_some_iff.1 hk).1
     obtain⟨j,hjm,hji⟩:=List.any_eq_true.1 (List.all_eq_true.1 hc i (List.mem_range.2 hi))
     simp only[Bool.and_eq_true,decide_eq_true_eq]at hji
     have hff:=List.all_eq_true.1 hf j hjm
     simp only at ht
     split at ht
     ·cases hmm:((List.range n).mapM fun i=>DataW.trod enc P w base sp held fuel e ((cs.drop (i*P.cellsOf e)).take (P.cellsOf e)))with
      | none=>rw[hmm]at ht;cases ht
      | some ys =>
       obtain⟨y,hy⟩:=nv hmm j hjm
       obtain⟨v,hv,hok⟩:=ih (m+1) fuel e _ _ y (by omega) hff hy (i-j*P.cellsOf e) k (by rw[pY hji.1 hji.2];exact hk)
       rw[pY hji.1 hji.2]at hv
       exact⟨v,hv,hok⟩
     ·cases ht
    | _=>cases h
theorem All2.inv {ok:Lf→Value→Prop} {k:Lf} {ks:List Lf} {vs:List Value} (h:All2 ok (k::ks) vs):∃v us,vs=v::us∧ok k v∧All2 ok ks us:=by
 cases vs with
 | nil=>exact h.elim
 | cons v us=>exact⟨v,us,O,h.1,h.2⟩
theorem All2.inv0 {ok:Lf→Value→Prop} {vs:List Value} (h:All2 ok [] vs):vs=[]:=by
 cases vs with
 | nil=>rfl
 | cons v us=>exact h.elim
theorem okN_i {W:World} {m:Nat} {k:IntKind} {v:Value} (h:Lf.okN W m (.i k) v):∃n,v=.int k n∧(Lit.int k n).wf=true:=by cases m <;> exact h
theorem okN_sl {W:World} {m:Nat} {ks:List Lf} {v:Value} (h:Lf.okN W (m+1) (.sl ks) v):∃A n c,v=.slice A n c∧∃css:List (List Value),n=css.length∧n≤maxLen∧Rd W A n c css.flatten∧∀cs∈css,All2 (Lf.okN W m) ks cs:=h
def isAggB (P:Program) (t:TypeId):Bool:=match P.underlying t with
 | some (.struct _)=>true
 | some (.array _ _)=>true
 | _=>false
theorem open_flat {H:Type} {enc:TypeId × Value→H} {P:Program} {W:World} {base:Nat} {sp:Nat→Bool} {held:Bool} {r:Reach} {b0:Nat} {t:TypeId} {v:Value} {d:DataW H} {ps:List MemPlace} (ks:List Lf) (hf:flatB P 8 t ks=true) (ha:isAggB P t=true) (hsz:P.cellsOf t=ks.length)
  (hval:Value.okWide P W r b0 t v) (hd:DataW.Trod enc P W base sp held t v d ps):∃vs:List Value,v=.agg vs.toArray∧All2 (Lf.okN W 8) ks vs:=by
 obtain⟨cs,rfl,hcs⟩:∃cs,v=.agg cs∧cs.size=P.cellsOf t:=by
  unfold Value.okWide at hval
  unfold isAggB at ha
  split at ha
  ·rename_i hu
   rw[hu]at hval
   obtain⟨cs,h1,h2,_⟩:=hval
   exact⟨cs,h1,h2⟩
  ·rename_i hu
   rw[hu]at hval
   obtain⟨cs,h1,h2,_⟩:=hval
   exact⟨cs,h1,h2⟩
  ·cases ha
 obtain⟨fuel,hfu⟩:=hd
 refine⟨cs.toList,O,All2.of (by simp[hcs,hsz]) (sw 8 8 fuel t ks _ _ (Nat.le_refl _) hf hfu)⟩
theorem open_sl {H:Type} {enc:TypeId × Value→H} {P:Program} {W:World} {base:Nat} {sp:Nat→Bool} {held:Bool} {r:Reach} {b0:Nat} {t e:TypeId} {v:Value} {d:DataW H} {ps:List MemPlace} (ks:List Lf) (hu:P.underlying t=some (.slice e)) (hf:flatB P 8 t [.sl ks]=true)
  (hval:Value.okWide P W r b0 t v) (hd:DataW.Trod enc P W base sp held t v d ps):Lf.okN W 8 (.sl ks) v:=by
 obtain⟨a,len,cap,rfl⟩:=Go.WideShapes.okWide_slice hu hval
 obtain⟨fuel,hfu⟩:=hd
 obtain⟨v,hv,hok⟩:=sw 8 8 fuel t _ _ _ (Nat.le_refl _) hf hfu 0 _ O
 simp[Value.cells]at hv
 subst hv
 exact hok
theorem rows_with {α:Type} {cells:α→List Value} {ok:List Value→Prop} {R:α→Prop} (h:∀cs,ok cs→∃x,cells x=cs∧R x):∀(css:List (List Value)),(∀cs∈css,ok cs)→∃xs:List α,css.length=xs.length∧css.flatten=encL cells xs∧∀x∈xs,R x
 | [],_=>⟨[],O,O,fun x h=>by cases h⟩
 | cs::css,hh=>by
  obtain⟨x,rfl,hx⟩:=h cs (hh cs (List.mem_cons_self ..))
  obtain⟨xs,h1,h2,h3⟩:=rows_with h css (fun c hc=>hh c (List.mem_cons_of_mem _ hc))
  refine⟨x::xs,by simp[h1],by simp[encL]at h2 ⊢;exact h2,fun y hy=>?_⟩
  rcases List.mem_cons.1 hy with rfl|hy
  ·exact hx
  ·exact h3 y hy
theorem rg_i64 {n:Int} (h:(Lit.int .i64 n).wf=true):Rg_i64 n:=Go.bounds_i64 h
open Go.RowKit (Below)
section
variable {w0 : World} {L : List Res}
def mw (L:List Res) (S:List Nat):Res where
 dom b:=∃(j:Nat) (p:Res),j∉S∧L[j]? = some p∧p.dom b
 holds W:=(∀(j:Nat) (p:Res),j∉S→L[j]? = some p→p.holds W)∧∀(j k:Nat) (p q:Res),j∉S→k∉S→L[j]? = some p→L[k]? = some q→j≠k→∀b,p.dom b→¬q.dom b
 loc W W' h hs hh:=⟨fun j p hj hp=>p.loc W W' (fun b hb=>h b ⟨j,p,hj,hp,hb⟩) hs (hh.1 j p hj hp),hh.2⟩
 inb W hh b hb:=by
  obtain⟨j,p,hj,hp,hd⟩:=hb
  exact p.inb W (hh.1 j p hj hp) b hd
def noR:Res where
 dom _:=False
 holds _:=True
 loc _ _ _ _ _:=trivial
 inb _ _ _ hb:=hb.elim
theorem Ext.focus {W:World} (h:Ext w0 W L) (i:Nat) {p:Res} (hp:L[i]? = some p):Ext w0 W [mw L [i],p] where
 below:=h.below
 all k q hq:=by
  match k,hq with
  | 0,hq=>cases hq;exact⟨fun j p _ hp=>h.all j p hp,fun j k p q _ _ hp hq hne=>h.sep j k p q hp hq hne⟩
  | 1,hq=>cases hq;exact h.all i p hp
 new k q hq b hb:=by
  match k,hq with
  | 0,hq=>cases hq;obtain⟨j,p',_,hp',hd⟩:=hb;exact h.new j p' hp' b hd
  | 1,hq=>cases hq;exact h.new i p hp b hb
 sep k l q q' hq hq' hne b hb hb':=by
  match k,hq,l,hq' with
  | 0,hq,0,hq'=>exact hne O
  | 1,hq,1,hq'=>exact hne O
  | 0,hq,1,hq' =>
   cases hq;cases hq'
   obtain⟨j,p',hj,hp',hd⟩:=hb
   exact h.sep j i _ _ hp' hp (fun e=>hj (by simp[e])) b hd hb'
  | 1,hq,0,hq' =>
   cases hq;cases hq'
   obtain⟨j,p',hj,hp',hd⟩:=hb'
   exact h.sep i j _ _ hp hp' (fun e=>hj (by simp[e])) b hb hd
theorem Ext.unfocus {W W2:World} (h:Ext w0 W L) (i:Nat) {p p':Res} (hp:L[i]? = some p) {X:List Res} (h2:Ext w0 W2 (mw L [i]::p'::X)):Ext w0 W2 (L.set i p'++X):=by
 have hi:i<L.length:=(List.getElem?_eq_some_iff.1 hp).1
 have hget:∀(k:Nat) (q:Res),(L.set i p'++X)[k]? = some q→(k=i∧q=p')∨(k≠i∧L[k]? = some q)∨(L.length≤k∧(mw L [i]::p'::X)[k-L.length+2]? = some q):=by
  intro k q hq
  by_cases hk:k<L.length
  ·rw[List.getElem?_append_left (by simpa using hk),List.getElem?_set]at hq
   by_cases e:i=k
   ·subst e
    simp[hi]at hq
    exact .inl ⟨O,hq.symm⟩
   ·rw[if_neg e]at hq
    exact .inr (.inl ⟨fun e'=>e e'.symm,hq⟩)
  ·rw[List.getElem?_append_right (by simpa using Nat.le_of_not_lt hk),List.length_set]at hq
   exact .inr (.inr ⟨Nat.le_of_not_lt hk,by simpa using hq⟩)
 have hr:∀(k:Nat) (q:Res) (b:Nat),k≠i→L[k]? = some q→q.dom b→(mw L [i]).dom b:=fun k q b hk hq hb=>⟨k,q,by simpa using hk,hq,hb⟩
 refine⟨h2.below,fun k q hq=>?_,fun k q hq b hb=>?_,fun k l q q' hq hq' hne b hb hb'=>?_⟩
 ·rcases hget k q hq with⟨_,rfl⟩|⟨h3,h4⟩|⟨h3,h4⟩
  ·exact h2.all 1 _ O
  ·exact(h2.all 0 _ O).1 k q (by simpa using h3) h4
  ·exact h2.all _ q h4
 ·rcases hget k q hq with⟨_,rfl⟩|⟨h3,h4⟩|⟨h3,h4⟩
  ·exact h2.new 1 _ O b hb
  ·exact h.new k q h4 b hb
  ·exact h2.new _ q h4 b hb
 ·rcases hget k q hq with⟨a1,a2⟩|⟨h3,h4⟩|⟨h3,h4⟩ <;> rcases hget l q' hq' with⟨b1,b2⟩|⟨h5,h6⟩|⟨h5,h6⟩
  ·exact hne (a1.trans b1.symm)
  ·subst a2
   exact h2.sep 1 0 _ _ O O (by decide) b hb (hr l q' b h5 h6 hb')
  ·subst a2
   exact h2.sep 1 _ _ _ O h6 (by omega) b hb hb'
  ·subst b2
   exact h2.sep 1 0 _ _ O O (by decide) b hb' (hr k q b h3 h4 hb)
  ·exact h.sep k l q q' h4 h6 hne b hb hb'
  ·exact h2.sep _ 0 _ _ h6 O (by omega) b hb' (hr k q b h3 h4 hb)
  ·subst b2
   exact h2.sep _ 1 _ _ h4 O (by omega) b hb hb'
  ·exact h2.sep _ 0 _ _ h4 O (by omega) b hb (hr l q' b h5 h6 hb')
  ·exact h2.sep _ _ _ _ h4 h6 (by omega) b hb hb'
theorem Ext.rest {W W3:World} {i:Nat} {X:List Res} (h:Ext w0 W (mw L [i]::X)) (hb:Below w0.heap.size w0 W3) (hR:(mw L [i]).holds W3):Ext w0 W3 (L.set i noR):=by
 have hget:∀(k:Nat) (q:Res),(L.set i noR)[k]? = some q→q=noR∨(k∉[i]∧L[k]? = some q):=by
  intro k q hq
  rw[List.getElem?_set]at hq
  by_cases e:i=k
  ·subst e
   rw[if_pos O]at hq
   split at hq
   ·cases hq;exact .inl O
   ·cases hq
  ·rw[if_neg e]at hq
   exact .inr ⟨by simp;exact fun e'=>e e'.symm,hq⟩
 refine⟨hb,fun k q hq=>?_,fun k q hq b hd=>?_,fun k l q q' hq hq' hne b hd hd'=>?_⟩
 ·rcases hget k q hq with rfl|⟨h1,h2⟩
  ·trivial
  ·exact hR.1 k q h1 h2
 ·rcases hget k q hq with rfl|⟨h1,h2⟩
  ·exact hd.elim
  ·exact h.new 0 _ O b ⟨k,q,h1,h2,hd⟩
 ·rcases hget k q hq with rfl|⟨h1,h2⟩
  ·exact hd.elim
  ·rcases hget l q' hq' with rfl|⟨h3,h4⟩
   ·exact hd'.elim
   ·exact hR.2 k l q q' h1 h3 h2 h4 hne b hd hd'
end
section
variable {r : Option Nat} {n : Nat} {P : Program} {ops : Array Oper} {Q : Exit → Act → World → Prop} {w0 : World} {L L' : List Res} {m : Nat} {tm : Nat → Value} {d : List Deferred}
variable {t : Tmp} {ty : TypeId} {pos : String} {af : Array Edge} {g : Option (Nat × Bool)} {rest : List Oper}
theorem jG {α:Type} {f:FuncId} {xs:List Operand} {us:Array TypeId} (i:Nat) {p:Res} (vs:List Value) (φ:α→Prop) (val:α→Value) (p':α→Res) (res:α→List Res) (hL:L[i]? = some p)
  (hw:eE ops m tm ⟨some t,.call ⟨.value (.func f),xs.toArray,us⟩,ty,pos,af,g⟩=true) (hf:cE P f=true) (ha:xs.map (opv m tm)=vs)
  (hc:∀W,Ext w0 W [mw L [i],p]→Calls P f vs.toArray W fun e W'=>∃x:α,φ x∧e=.returned (val x)∧Ext w0 W' (mw L [i]::p' x::res x))
  (h:∀x,φ x→OX r n P ops Q w0 (L.set i (p' x)++res x) rest m (upd tm t (val x)) d):OX r n P ops Q w0 L (⟨some t,.call ⟨.value (.func f),xs.toArray,us⟩,ty,pos,af,g⟩::rest) m tm d:=fun W hW=>by
 unfold OL
 rw[bu,if_pos hw]
 refine⟨fun _ _=>trivial,?_⟩
 show Oper.uponIn (Fw r) n P _ _ _ Q ((Oper.semAt r (act m tm d).eval _).run P W)
 have e:(execOp (opv m tm) ⟨some t,.call ⟨.value (.func f),xs.toArray,us⟩,ty,pos,af,g⟩).run P W=.ok (.enter f (xs.map (opv m tm)).toArray) W:=by
  have hρ:opv m tm (.func f)=.func (.func f) #[] #[]:=rfl
  simp[execOp,resolve,hρ,Deferred.ofValue,invoke,nN hf]
 rw[ec (by intro c h;cases h),dG,e,ha]
 refine⟨(fun hd=>by cases hd),?_⟩
 refine(callsW (hc W (hW.focus i hL))).mono ?_
 rintro e W' ⟨x,hφ,rfl,hx⟩
 show OL r n P ops Q rest ((act m tm d).put (some t) (val x)) W'
 rw[dP]
 exact h x hφ W' (hW.unfocus i hL hx)
theorem ff {f:FuncId} {fn:Func} {c:Code} {vs:List Value} {W:World} {R:Ending→World→Prop} (hf:P.funcs[f]? = some fn) (hb:fn.body=some c) (hn:fn.ntmps=m) (hl:vs.length≤m) (hW:Ext w0 W L)
  (h:CX none 8 P c (bodyPost P fn R) w0 L m (fun i=>(vs[i]?).getD undef) []):Calls P f vs.toArray W R:=by
 refine callsW' (r:=none) (n:=8) (callsIn_of_wp hf hb trivial ?_ O)
 rw[nT _ _ (by rw[hn];simpa using hl),hn]
 have:=h W hW
 simpa using this
end
section
variable {r : Option Nat} {n : Nat} {P : Program} {ρ : Operand → Value} {w0 : World} {L L' : List Res}
variable {t : Option Tmp} {ty : TypeId} {pos : String} {af : Array Edge} {g : Option (Nat × Bool)} {C C' : World → Prop}
theorem run_eqnil {W:World} {A:Option Addr} {l c:Nat} {e u:TypeId} (hu:P.underlying u=some (.slice e)):(Op.equalIn 10000 u (.slice A l c) (.slice none 0 0)).run P W=.ok A.isNone W:=by
 have h1:(underlying u).run P W=.ok (.slice e) W:=by simp[underlying,hu]
 unfold Op.equalIn
 simp only[Sem.run_bind,h1,Result.andThen_ok]
 cases A <;> rfl
theorem y_eqnil {x y:Operand} {A:Option Addr} {l c:Nat} {e u u':TypeId} (hu:P.underlying u=some (.slice e)) (hx:ρ x=.slice A l c) (hy:ρ y=.slice none 0 0):OpY r n P ⟨t,.binOp .eql u x y u',ty,pos,af,g⟩ ρ C C (.bool A.isNone) :=
 bk (by intro c h;cases h) (fun W _=>by
  have:=run_eqnil (W:=W) (A:=A) (l:=l) (c:=c) hu
  simp[execOp,hx,hy,go_sem,binOp,Op.equal,Op.maxDepth,this])
theorem y_convertU {x:Operand} {u v:TypeId} {a:Int} (hu:P.underlying u=some (.int .i64)) (hv:P.underlying v=some (.int .u64)) (h:0≤a∧a≤9223372036854775807) (hx:ρ x=.int .i64 a):OpY r n P ⟨t,.convert u v x,ty,pos,af,g⟩ ρ C C (.int .u64 a) :=
 bk (by intro c h;cases h) (fun W _=>by
  have h2:IntKind.u64.wrap a=a:=by
   simp[IntKind.wrap,IntKind.bits,IntKind.signed]
   omega
  have h1:(convert u v (.int .i64 a)).run P W=.ok (.int .u64 a) W:=by
   simp[convert,underlying,hu,hv,Conv.intToInt,h2]
  simp[execOp,hx,h1])
end
open Go.RowKit (Below)
section
variable {r : Option Nat} {n : Nat} {P : Program} {Q : Exit → Act → World → Prop} {w0 : World} {L : List Res} {m : Nat} {tm : Nat → Value} {d : List Deferred}
end
open Go.RowKit (Below)
section
variable {w0 : World} {L : List Res}
theorem sH {W:World} {A:Option Addr} {c:Nat} {e:TypeId} {sz n k:Nat} {cs:List Value} (h:(aO A c e sz n cs).holds W) (hk:k≤n) (h0:A=none→k=0):(aO A c e sz k (cs.take (k*sz))).holds W:=by
 obtain⟨h1,h2⟩:=h
 have hks:k*sz≤n*sz:=Nat.mul_le_mul_right _ hk
 refine⟨by rw[List.length_take,h1];omega,?_⟩
 rcases h2 with⟨h2,h3⟩|⟨g,cap,cur,hv,hb,hg,h3,h4,h5,h6⟩
 ·simp only[Value.slice.injEq]at h2
  obtain⟨rfl,_,rfl⟩:=h2
  have:=h0 O
  subst this
  exact .inl ⟨O,O⟩
 ·simp only[Value.slice.injEq]at hv
  obtain⟨rfl,_,rfl⟩:=hv
  refine .inr ⟨g,c,cur,O,hb,hg,by omega,h4,h5,?_⟩
  rw[←h6,List.take_take,Nat.min_eq_left hks]
theorem Ext.tell {W:World} (h:Ext w0 W L) (i:Nat) {p q:Res} (hp:L[i]? = some p) (hq:p.holds W→q.holds W) (hd:∀b,q.dom b→p.dom b):Ext w0 W (L.set i q) :=
 h.set hp q (hq (h.all i p hp)) O O O (Nat.le_refl _) (fun _ _ _=>O) (fun b hb=>.inl (hd b hb))
end
section
variable {r : Option Nat} {n : Nat} {P : Program} {ρ : Operand → Value} {w0 : World} {L : List Res}
variable {t : Option Tmp} {ty : TypeId} {pos : String} {af : Array Edge} {g : Option (Nat × Bool)}
variable {A : Option Addr} {k c : Nat} {cs : List Value}
theorem oK {u e:TypeId} {sz:Nat} (hs:r8 P u=some (e,sz)):P.underlying u=some (.slice (P.elem u))∧∀W,(Go.sizeOf (P.elem u)).run P W=.ok sz W:=by
 unfold r8 at hs
 cases hu:P.underlying u with
 | none=>rw[hu]at hs;cases hs
 | some d =>
  rw[hu]at hs
  cases d with
  | slice e' =>
   simp only[]at hs
   cases hinf:P.info? e' with
   | none=>rw[hinf]at hs;cases hs
   | some inf =>
    rw[hinf]at hs
    simp only[Option.map_some,Option.some.injEq,Prod.mk.injEq]at hs
    obtain⟨rfl,rfl⟩:=hs
    have e1:P.elem u=e':=by simp[Program.elem,hu]
    exact⟨by rw[e1],fun W=>by rw[e1];simp[Go.sizeOf,typeInfo,hinf]⟩
  | _=>cases hs
theorem y_cutL {x a:Operand} {u e:TypeId} {sz:Nat} {q:IntKind} {lo:Int} (hs:r8 P u=some (e,sz)) (h0:0≤lo) (h1:lo≤k) (_hR:RdL w0 L A k c cs) (hx:ρ x=.slice A k c) (ha:ρ a=.int q lo) :
  OpY r n P ⟨t,.slice u x (some a) none none,ty,pos,af,g⟩ ρ (fun W=>Ext w0 W L) (fun W=>Ext w0 W L) (.slice (if c=lo.toNat then A else A.map (·.add (lo.toNat*sz))) (k-lo.toNat) (c-lo.toNat)) :=
 bk (by intro c h;cases h) (fun W _=>by
  obtain⟨hu',hsz⟩:=oK hs
  simp only[execOp,hx,ha,Option.map_some,Option.map_none,Sem.run_bind,run_sliceAt_slice W u _ _ _ _ hu',run_slice_l W u A k c hu' q lo h0 h1,hsz,Result.andThen_ok,sliced]
  rfl)
theorem y_cutH {x b:Operand} {u e:TypeId} {sz:Nat} {q:IntKind} {hi:Int} (hs:r8 P u=some (e,sz)) (h0:0≤hi) (h2:hi≤k) (hR:RdL w0 L A k c cs) (hx:ρ x=.slice A k c) (hb:ρ b=.int q hi) :
  OpY r n P ⟨t,.slice u x none (some b) none,ty,pos,af,g⟩ ρ (fun W=>Ext w0 W L) (fun W=>Ext w0 W L) (.slice A hi.toNat c) :=
 bk (by intro c h;cases h) (fun W hW=>by
  obtain⟨hu',hsz⟩:=oK hs
  have hcap:=(hR W hW).cap
  have h3:hi≤(c:Int):=by omega
  simp only[execOp,hx,hb,Option.map_some,Option.map_none,Sem.run_bind,run_sliceAt_slice W u _ _ _ _ hu',run_slice_h W u A k c hu' q hi h0 h3,hsz,Result.andThen_ok,sliced]
  have e1:(if c=0 then A else Option.map (fun x=>x.add (0*sz)) A)=A:=by
   split
   ·rfl
   ·cases A <;> simp[Addr.add]
  rw[e1]
  rfl)
theorem RdL.cutH {α:Type} {cells:α→List Value} {sz:Nat} (hc:∀x,(cells x).length=sz) {A:Option Addr} {n c:Nat} {xs:List α} {hi:Int} (h:RdL w0 L A n c (encL cells xs)) (_h0:0≤hi) (h2:hi≤(n:Int)) :
  RdL w0 L A hi.toNat c (encL cells (xs.take hi.toNat)):=fun W hW=>by
 have hr:=h W hW
 refine⟨fun j v hj=>hr.cell j v ?_,by have:=hr.cap;omega⟩
 rw[←iP hc,List.getElem?_take]at hj
 split at hj
 ·exact hj
 ·cases hj
theorem cutH_len {α:Type} {xs:List α} {n:Nat} {hi:Int} (h2:hi≤(n:Int)) (hn:n=xs.length):hi.toNat=(xs.take hi.toNat).length:=by rw[List.length_take,←hn];omega
end
section
variable {r : Option Nat} {n : Nat} {P : Program} {ops : Array Oper} {Q : Exit → Act → World → Prop} {w0 : World} {L : List Res} {m : Nat} {tm : Nat → Value} {d : List Deferred}
variable {t : Tmp} {ty : TypeId} {pos : String} {af : Array Edge} {g : Option (Nat × Bool)} {l rest : List Oper}
theorem bg (i:Nat) {α:Type} {cells:α→List Value} {xs ys:List α} {x y:Operand} {u e:TypeId} {A B:Option Addr} {c c' k q:Nat} {sz by':Nat} {z:Value} (hu:P.underlying u=some (.slice e)) (hz:cW P e=some z) (hb:iY P e z sz by'=true)
  (hL:L[i]? = some (aO A c e sz k (encL cells xs))) (hx:opv m tm x=.slice A k c) (hy:opv m tm y=.slice B q c') (hR:RdL w0 L B q c' (encL cells ys)) (hn:(encL cells ys).length=q*sz) (h1:((encL cells ys).all (·.oneCell'))=true) (hg:(k+q)*by'≤140737488355328)
  (hw:eE ops m tm ⟨some t,.call ⟨.builtin .append,#[x,y],#[u,u]⟩,ty,pos,af,g⟩=true)
  (h:∀A' c',OX r n P ops Q w0 (L.set i (aO A' c' e sz (k+q) (encL cells (xs++ys)))) rest m (upd tm t (.slice A' (k+q) c')) d) :
  OX r n P ops Q w0 L (⟨some t,.call ⟨.builtin .append,#[x,y],#[u,u]⟩,ty,pos,af,g⟩::rest) m tm d:=by
 rcases Nat.eq_zero_or_pos q with hq|hq
 ·subst hq
  have hys:encL cells ys=[]:=by
   have:=hn
   rw[Nat.zero_mul]at this
   exact List.eq_nil_of_length_eq_zero this
  refine jt hw (by intro c h;cases h) fun W hW=>?_
  obtain⟨inf,hinf,hzz⟩:∃inf,P.info? e=some inf∧inf.zero=some z:=by
   unfold cW at hz
   cases hi:P.info? e with
   | none=>rw[hi]at hz;cases hz
   | some inf=>rw[hi]at hz;exact⟨inf,O,hz⟩
  have hcap:=(eU (hW.mem hL)).cap
  have hrun:(Builtin.append_ #[u,u] ty #[.slice A k c,.slice B 0 c']).run P W=.ok (.slice A k c) W:=by
   cases A <;> cases B <;> simp[Builtin.append_,run_underlying hu,sizeOf,typeInfo,hinf,Builtin.lenOf,Builtin.firstCells,hcap,storeCells,loadCells,loadCellsFrom]
  refine⟨_,W,_,?_,?_,h A c⟩
  ·simp only[execOp,resolve,invoke,builtin]
   simp[hx,hy,hrun]
  ·have e1:encL cells (xs++ys)=encL cells xs:=by rw[←rI,hys,List.append_nil]
   rw[e1,Nat.add_zero]
   have e2:L.set i (aO A c e sz k (encL cells xs))=L:=by
    obtain⟨hi,he⟩:=List.getElem?_eq_some_iff.1 hL
    rw[←he,List.set_getElem_self]
   rw[e2]
   exact hW
 ·exact ox_appendE i hu hz hb hL hx hy hq hR hn h1 hg hw h
end
def rawR (v:Value):Option (DataW Value × List MemPlace):=some (.held v,[])
structure KeyE (P:Program) (kt:TypeId) {κ:Type} (ek:κ→Value) (ok:κ→Bool):Prop where
 keyed:Maps.Keyed P kt
 tot:∀x,ok x=true→∃l,keyOf P kt (ek x)=some l
 inj:∀x y,ek x=ek y→x=y
def mapV (P:Program) (kt:TypeId) {κ β:Type} [DecidableEq κ] (ek:κ→Value) (ok:κ→Bool) (ev:β→Value) (z:β) (b:Nat) (m:List (κ × β)):Res where
 dom c:=c=b
 holds W:=∃D:DataW Value,W.ownsMap P kt rawR b m.length D∧Maps.IsMap D∧(∀x l,ok x=true→keyOf P kt (ek x)=some l→D.atKey l (.held (ev z))=.held (ev (ax z m x))∧Maps.has D l=bH m x)∧∀l,Maps.has D l=true→∃x,ok x=true∧keyOf P kt (ek x)=some l
 loc W W' h _ hh:=by
  obtain⟨D,⟨es,clock,hb,h1⟩,h2⟩:=hh
  exact⟨D,⟨es,clock,(h b O).trans hb,h1⟩,h2⟩
 inb W h c hc:=by
  obtain⟨D,h1,_⟩:=h
  have hc':c=b:=hc
  rw[hc']
  exact h1.lt
theorem Cy.mapV {B:Nat} {P:Program} {kt:TypeId} {κ β:Type} [DecidableEq κ] {ek:κ→Value} {ok:κ→Bool} {ev:β→Value} {z:β} {b:Nat} {m:List (κ × β)} (h:b<B):Cy B (mapV P kt ek ok ev z b m):=fun W c _ hc=>by
 have hc':c=b:=hc
 exact .inl (by omega)
theorem mapV.later {P:Program} {kt:TypeId} {κ β:Type} [DecidableEq κ] {ek:κ→Value} {ok:κ→Bool} {ev:β→Value} {z:β} {b:Nat} {m:List (κ × β)} {W W':World} (h:(mapV P kt ek ok ev z b m).holds W) (hb:Below W.heap.size W W'):(mapV P kt ek ok ev z b m).holds W' :=
 (mapV P kt ek ok ev z b m).loc W W' (fun c hc=>by
  have hc':c=b:=hc
  obtain⟨D,h1,_⟩:=h
  rw[hc']
  exact hb.block b h1.lt) hb.size h
def MpL (w0:World) (L:List Res) (p:Res):Prop:=∀W,Ext w0 W L→p.holds W
theorem MpL.own {w0:World} {L:List Res} {p:Res} (i:Nat) (h:L[i]? = some p):MpL w0 L p:=fun _ hW=>hW.mem h
theorem MpL.arg {w0:World} {L:List Res} {P:Program} {kt:TypeId} {κ β:Type} [DecidableEq κ] {ek:κ→Value} {ok:κ→Bool} {ev:β→Value} {z:β} {b:Nat} {m:List (κ × β)} (h:(mapV P kt ek ok ev z b m).holds w0):MpL w0 L (mapV P kt ek ok ev z b m):=fun _ hW=>mapV.later h hW.below
def kI (x:Int):Value:=.int .i64 x
def kB (x:Bool):Value:=.bool x
theorem keyE_int {P:Program} {kt:TypeId} (hk:P.underlying kt=some (.int .i64)):KeyE P kt kI dx :=
 ⟨Maps.int_keyed hk,fun x h=>⟨_,keyI hk h⟩,fun x y h=>by cases h;rfl⟩
section
variable {r : Option Nat} {n : Nat} {P : Program} {ρ : Operand → Value} {w0 : World} {L : List Res}
variable {t : Option Tmp} {ty : TypeId} {pos : String} {af : Array Edge} {g : Option (Nat × Bool)}
variable {κ β : Type} [DecidableEq κ] {ek : κ → Value} {ok : κ → Bool} {ev : β → Value} {z : β}
theorem ga {kt et mt b:Nat} {m:List (κ × β)} {x y:Operand} {k:κ} (hM:MpL w0 L (mapV P kt ek ok ev z b m)) (K:KeyE P kt ek ok) (hm:P.underlying mt=some (.map kt et)) (hz:cW P et=some (ev z))
  (hx:ρ x=.map (some b)) (hy:ρ y=ek k) (hr:ok k=true) :
  OpY r n P ⟨t,.lookup mt x y false,ty,pos,af,g⟩ ρ (fun W=>Ext w0 W L) (fun W=>Ext w0 W L) (ev (ax z m k)) :=
 bk (by intro c h;cases h) (fun W hW=>by
  obtain⟨D,h1,_,h3,_⟩:=hM W hW
  obtain⟨l,hl⟩:=K.tot k hr
  obtain⟨v,ps,hrun,hv⟩:=h1.lookup K.keyed hm (rF hz) (zd:=.held (ev z)) (zp:=[]) O hl
  rw[(h3 k l hr hl).1]at hv
  have:v=ev (ax z m k):=by
   have:=Option.some.inj hv
   simp only[Prod.mk.injEq,DataW.held.injEq]at this
   exact this.1
  subst this
  simp[execOp,hx,hy,hrun])
theorem iR (i:Nat) {kt et mt b:Nat} {m:List (κ × β)} {x y u:Operand} {k:κ} {v:β} (hL:L[i]? = some (mapV P kt ek ok ev z b m)) (K:KeyE P kt ek ok) (hm:P.underlying mt=some (.map kt et))
  (hx:ρ x=.map (some b)) (hy:ρ y=ek k) (hv:ρ u=ev v) (hr:ok k=true∧m.length<1000000000) :
  OpY r n P ⟨t,.mapUpdate mt x y u,ty,pos,af,g⟩ ρ (fun W=>Ext w0 W L) (fun W=>Ext w0 W (L.set i (mapV P kt ek ok ev z b ((k,v)::m)))) undef :=
 mZ (by intro c h;cases h) (fun W hW=>by
  obtain⟨D,h1,h2,h3,h4⟩:=hW.mem hL
  obtain⟨l,hl⟩:=K.tot k hr.1
  obtain⟨W',hrun,hown,hg⟩:=h1.update K.keyed hm (by simp only[maxLen];omega) (val:=ev v) (d:=.held (ev v)) (ps:=[]) hl O
  refine⟨W',by simp[execOp,hx,hy,hv,hrun],?_⟩
  refine hW.set hL (mapV P kt ek ok ev z b ((k,v)::m)) ⟨_,hown,h2.put _ _,fun q l' hq hl'=>?_,fun l' hl'=>?_⟩ hg.os hg.tape hg.output hg.size (fun c hc hn=>hg.block c hc (fun e=>hn (by cases e;rfl))) (fun c hc=>.inl hc)
  rotate_left
  ·by_cases e:l'=l
   ·exact⟨k,hr.1,by rw[e];exact hl⟩
   ·rw[Maps.has_put_other e]at hl'
    exact h4 l' hl'
  unfold ax bH
  by_cases e:k=q
  ·subst e
   have e2:l'=l:=by rw[hl]at hl';exact(Option.some.inj hl').symm
   subst e2
   rw[Maps.atKey_put_same h2 (K.keyed.key hl),Maps.has_put_same h2 (K.keyed.key hl)]
   simp
  ·have hne:l'≠l:=fun e2=>e (K.inj k q (K.keyed.inj hl (e2▸hl')))
   rw[Maps.atKey_put_other hne,Maps.has_put_other hne,(h3 q l' hq hl').1,(h3 q l' hq hl').2]
   simp[e])
end
section
variable {r : Option Nat} {n : Nat} {P : Program} {ops : Array Oper} {Q : Exit → Act → World → Prop} {w0 : World} {L : List Res} {m : Nat} {tm : Nat → Value} {d : List Deferred}
variable {t : Tmp} {ty : TypeId} {pos : String} {af : Array Edge} {g : Option (Nat × Bool)} {l rest : List Oper}
theorem jx (kt:TypeId) {κ β:Type} [DecidableEq κ] (ek:κ→Value) (ok:κ→Bool) (ev:β→Value) (z:β) {mt:TypeId} (hw:eE ops m tm ⟨some t,.makeMap mt none,ty,pos,af,g⟩=true)
  (h:∀b,OX r n P ops Q w0 (L++[mapV P kt ek ok ev z b []]) rest m (upd tm t (.map (some b))) d):OX r n P ops Q w0 L (⟨some t,.makeMap mt none,ty,pos,af,g⟩::rest) m tm d :=
 jt hw (by intro c h;cases h) fun W hW=>by
  refine⟨_,W.alloc (.map #[] 0),_,?_,?_,h W.heap.size⟩
  ·simp[execOp,Instr.makeMap,newObj]
   rfl
  ·have h7:Ext w0 (W.alloc (.map #[] 0)) L:=hW.keep (hW.below.alloc hW.size _) (by simp) (fun i p hp b hd=>Below.heap_alloc W _ b (p.inb W (hW.all i p hp) b hd))
   refine h7.snoc (p:=mapV P kt ek ok ev z W.heap.size []) ⟨_,World.ownsMap_made W P kt _,⟨_,O⟩,fun x _ _ _=>⟨O,O⟩,fun l hl=>by cases hl⟩ (fun b hb=>?_) (fun i q hq b hb hb'=>?_)
   ·have hb':b=W.heap.size:=hb
    have:=hW.size
    omega
   ·have hb'':b=W.heap.size:=hb'
    have:=q.inb W (hW.all i q hq) _ hb
    omega
end
theorem encL_setF {α:Type} [Inhabited α] {cells:α→List Value} {sz:Nat} (hc:∀x,(cells x).length=sz) {xs:List α} {v:α} {j q:Nat} {w:Value} (hj:j<xs.length) (hq:q<sz) (hv:cells v=(cells (xs.getD j default)).set q w):(encL cells xs).set (j*sz+q) w=encL cells (xs.set j v):=by
 rw[←oH hc v xs j hj,hv]
 have e0:=oH hc (xs.getD j default) xs j hj
 have e1:xs.set j (xs.getD j default)=xs:=by
  rw[List.getD_eq_getElem?_getD,List.getElem?_eq_getElem hj]
  simp
 rw[e1]at e0
 conv=>lhs;rw[←e0]
 have hl:((encL cells xs).take (j*sz)).length=j*sz:=by
  rw[List.length_take,eL hc O,Nat.min_eq_left (Nat.mul_le_mul_right _ (Nat.le_of_lt hj))]
 rw[List.append_assoc,List.set_append_right _ _ (by omega),hl,Nat.add_sub_cancel_left,List.set_append_left _ _ (by rw[hc];exact hq),List.append_assoc]
section
variable {r : Option Nat} {n : Nat} {P : Program} {ρ : Operand → Value} {w0 : World} {L : List Res}
variable {t : Option Tmp} {ty : TypeId} {pos : String} {af : Array Edge} {g : Option (Nat × Bool)}
theorem sR (i:Nat) {α:Type} [Inhabited α] {cells:α→List Value} {sz:Nat} (hc:∀x,(cells x).length=sz) {xs:List α} (v:α) (q:Nat) (hq:q<sz) {x y:Operand} {u e:TypeId} {A:Option Addr} {k c:Nat} {j:Int} {w:Value} (hs:szB P u 1=true) (hL:L[i]? = some (aO A c e sz k (encL cells xs))) (h0:0≤j) (h1:j<(xs.length:Int)) (hx:ρ x=slA A (j.toNat*sz+q)) (hv:cells v=(cells (rdL xs j)).set q w) (hy:ρ y=w) (ho:w.oneCell'=true) :
  OpY r n P ⟨t,.store u x y,ty,pos,af,g⟩ ρ (fun W=>Ext w0 W L) (fun W=>Ext w0 W (L.set i (aO A c e sz k (encL cells (xs.set j.toNat v))))) undef :=
 mZ (by intro c h;cases h) (fun W hW=>by
  have hown:W.ownsRow 0 e sz (.slice A k c) k (encL cells xs):=hW.mem hL
  have hk:xs.length=k:=by
   have h5:=hown.1
   rw[eL hc O]at h5
   exact Nat.eq_of_mul_eq_mul_right (by omega) h5
  rcases hown.2 with⟨_,h3⟩|⟨g',cap,cur,hv',_,hg,h3,h4,h5,h6⟩
  ·omega
  ·simp only[Value.slice.injEq]at hv'
   obtain⟨rfl,_,rfl⟩:=hv'
   have hjk:j.toNat<k:=by omega
   have hjs:j.toNat*sz+sz≤k*sz:=by
    have:=Nat.mul_le_mul_right sz (show j.toNat+1≤k by omega)
    rw[Nat.add_mul,Nat.one_mul]at this
    exact this
   have hcs:k*sz≤cur.size:=by
    have:=Nat.mul_le_mul_right sz h3
    omega
   have hcur:j.toNat*sz+q<cur.size:=by omega
   have hx':ρ x=.pointer (some ⟨g',j.toNat*sz+q,none⟩):=by
    rw[hx]
    simp[slA]
   have hcw:w.cells = #[w]:=by cases w <;> first|rfl|cases ho
   have hst:=run_storeCells_at (P:=P) g' (j.toNat*sz+q) e w.cells.toList 0 cur W hg (by rw[hcw];simp;omega) (by rw[hcw];simpa using ho)
   simp only[Nat.add_zero]at hst
   refine⟨_,by
    simp only[execOp,hx',hy,Sem.run_bind]
    have:(Instr.storeAt u (.pointer (some ⟨g',j.toNat*sz+q,none⟩)) w).run P W=.ok () (W.setRow g' (cur.toList.take (j.toNat*sz+q)++w.cells.toList++cur.toList.drop (j.toNat*sz+q+w.cells.toList.length)).toArray):=by
     simp[Instr.storeAt,Instr.sureAddr,storeVar,kq (show szB P u w.cells.size=true by rw[hcw];exact hs),hst]
    rw[this]
    rfl,?_⟩
   have e1:cur.toList.take (j.toNat*sz+q)++w.cells.toList++cur.toList.drop (j.toNat*sz+q+w.cells.toList.length)=cur.toList.set (j.toNat*sz+q) w:=by
    rw[hcw]
    simp only[List.length_cons,List.length_nil]
    rw[List.set_eq_take_append_cons_drop,if_pos (by simpa using hcur)]
    simp
   rw[e1]
   refine hW.set hL (aO (some ⟨g',0,none⟩) c e sz k (encL cells (xs.set j.toNat v))) ?_ O O O (by simp[World.setRow]) (fun b' _ hn=>?_) (fun b' hb'=>.inl hb')
   ·refine⟨?_,.inr ⟨g',c,(cur.toList.set (j.toNat*sz+q) w).toArray,O,Nat.zero_le _,setRow_heap W g' _ _ e _ hg,h3,h4,by simpa using h5,?_⟩⟩
    ·rw[eL hc O];simp[hk]
    ·have h6':cur.toList.take (k*sz)=encL cells xs:=h6
     show(cur.toList.set (j.toNat*sz+q) w).take (k*sz)=_
     rw[←encL_setF hc (w:=w) (q:=q) (by omega) hq hv,←h6',List.take_set]
   ·show(W.heap.modify g' _)[b']? = _
    rw[Array.getElem?_modify,if_neg (fun e'=>hn ⟨_,O,e'⟩)])
theorem n5 {zs:Array Value} (h:(zs.toList.all (·.oneCell'))=true) (hp:0<zs.size) (n:Nat):∀u∈(Builtin.zeroCells zs n).toList,u.oneCell'=true:=by
 intro u hu
 simp only[Builtin.zeroCells,Array.toList_map,List.mem_map]at hu
 obtain⟨j,_,rfl⟩:=hu
 have hlt:j % zs.size<zs.size:=Nat.mod_lt _ hp
 rw[getElem!_pos zs _ hlt]
 exact List.all_eq_true.1 h _ (by simp)
theorem y_clearH (i:Nat) {α:Type} {cells:α→List Value} {xs:List α} {x:Operand} {u e:TypeId} {A:Option Addr} {k c sz:Nat} {lo:Int} {z:Value} (hu:P.underlying u=some (.slice e)) (hz:cW P e=some z) (hzs:z.cells.size=sz) (hpos:0<sz) (hz1:(z.cells.toList.all (·.oneCell'))=true)
  (hc:∀x,(cells x).length=sz) (hL:L[i]? = some (aO A c e sz k (encL cells xs))) (_h0:0≤lo) (h1:lo≤k)
  (hx:ρ x=.slice (if c=lo.toNat then A else A.map (fun x=>x.add (lo.toNat*sz))) (k-lo.toNat) (c-lo.toNat)) :
  OpY r n P ⟨none,.call ⟨.builtin .clear,#[x],#[u]⟩,ty,pos,af,g⟩ ρ (fun W=>Ext w0 W L) (fun W=>Ext w0 W (L.set i (aO A c e sz lo.toNat (encL cells (xs.take lo.toNat))))) (.tuple #[]):=fun W hW=>by
 have hrow:(aO A c e sz k (encL cells xs)).holds W:=hW.mem hL
 have hcap:=(eU hrow).cap
 have hlo:lo.toNat≤k:=by omega
 have hA0:A=none→lo.toNat=0:=by
  intro hA
  subst hA
  rcases hrow.2 with⟨h2,h3⟩|⟨g,cap,cur,hv,_⟩
  ·omega
  ·simp at hv
 have hhead:∀W',(aO A c e sz k (encL cells xs)).holds W'→(aO A c e sz lo.toNat (encL cells (xs.take lo.toNat))).holds W':=fun W' h'=>by
  have:=sH h' hlo hA0
  rw[iP hc]at this
  exact this
 have hdom:∀b,(aO A c e sz lo.toNat (encL cells (xs.take lo.toNat))).dom b→(aO A c e sz k (encL cells xs)).dom b:=fun b hb=>hb
 suffices hs:∃W',(Builtin.clear_ #[u] ty #[.slice (if c=lo.toNat then A else A.map (fun x=>x.add (lo.toNat*sz))) (k-lo.toNat) (c-lo.toNat)]).run P W=.ok (.tuple #[]) W'∧Ext w0 W' (L.set i (aO A c e sz lo.toNat (encL cells (xs.take lo.toNat)))) by
  obtain⟨W',hrun,hE⟩:=hs
  have e1:(execOp ρ ⟨none,.call ⟨.builtin .clear,#[x],#[u]⟩,ty,pos,af,g⟩).run P W=.ok (.value (.tuple #[])) W':=by
   simp only[execOp,resolve,invoke,builtin]
   simp[hx,hrun]
  rw[ec (by intro c h;cases h),e1]
  exact⟨O,hE⟩
 by_cases hk:k-lo.toNat=0
 ·refine⟨W,?_,hW.tell i hL (hhead W) hdom⟩
  rw[hk]
  have hh:∀(B:Option Addr) (q:Nat),(Builtin.clear_ #[u] ty #[.slice B 0 q]).run P W=.ok (.tuple #[]) W:=fun B q=>by
   cases B <;> simp[Builtin.clear_,run_underlying hu]
  exact hh _ _
 ·have hcl:¬c=lo.toNat:=by omega
  rw[if_neg hcl]
  obtain⟨h1',h2'⟩:=hrow
  rcases h2' with⟨h2,h3⟩|⟨g',cap,cur,hv',_,hg,h3,h4,h5,h6⟩
  ·omega
  ·simp only[Value.slice.injEq]at hv'
   obtain⟨rfl,_,rfl⟩:=hv'
   obtain⟨zn,hzn⟩:∃zn,k-lo.toNat=zn+1:=⟨k-lo.toNat-1,by omega⟩
   have hzl:(Builtin.zeroCells z.cells (k-lo.toNat)).toList.length=(k-lo.toNat)*sz:=by simp[Builtin.zeroCells,hzs]
   have hbd:lo.toNat*sz+(k-lo.toNat)*sz≤cur.size:=by
    rw[←Nat.add_mul,Nat.add_sub_cancel' hlo,h5]
    exact Nat.mul_le_mul_right _ h3
   have hst:=run_storeCells_at (P:=P) g' (lo.toNat*sz) e (Builtin.zeroCells z.cells (k-lo.toNat)).toList 0 cur W hg (by rw[hzl];omega) (n5 hz1 (by omega) _)
   simp only[Nat.add_zero]at hst
   have hzr:=rF (P:=P) (W:=W) hz
   have hadd:Option.map (fun x=>x.add (lo.toNat*sz)) (some (⟨g',0,none⟩:Addr))=some ⟨g',lo.toNat*sz,none⟩:=by
    simp only[Option.map_some,Addr.add_lit,Nat.zero_add]
   refine⟨W.setRow g' (cur.toList.take (lo.toNat*sz)++(Builtin.zeroCells z.cells (k-lo.toNat)).toList++cur.toList.drop (lo.toNat*sz+(Builtin.zeroCells z.cells (k-lo.toNat)).toList.length)).toArray,?_,?_⟩
   ·rw[hadd]
    rw[hzn]at hst ⊢
    simp[Builtin.clear_,run_underlying hu,hzr,hst]
   ·have hlen:(cur.toList.take (lo.toNat*sz)++(Builtin.zeroCells z.cells (k-lo.toNat)).toList++cur.toList.drop (lo.toNat*sz+(Builtin.zeroCells z.cells (k-lo.toNat)).toList.length)).length=cur.size:=by
     rw[List.length_append,List.length_append,List.length_take,List.length_drop,hzl,Array.length_toList]
     omega
    refine hW.set hL _ ?_ O O O (by simp[World.setRow]) (fun b' _ hn=>?_) (fun b' hb'=>.inl hb')
    ·refine⟨?_,.inr ⟨g',c,_,O,Nat.zero_le _,setRow_heap W g' _ _ e _ hg,by omega,h4,by simp only[List.size_toArray];rw[hlen];exact h5,?_⟩⟩
     ·rw[←iP hc,List.length_take,h1']
      exact Nat.min_eq_left (Nat.mul_le_mul_right _ hlo)
     ·show List.take (lo.toNat*sz) (cur.toList.take (lo.toNat*sz)++(Builtin.zeroCells z.cells (k-lo.toNat)).toList++cur.toList.drop _)=_
      rw[List.append_assoc,List.take_append_of_le_length (by rw[List.length_take,Array.length_toList];omega),List.take_take,Nat.min_self,←iP hc,←h6,List.take_take,Nat.min_eq_left (Nat.mul_le_mul_right _ hlo)]
    ·show(W.heap.modify g' _)[b']? = _
     rw[Array.getElem?_modify,if_neg (fun e'=>hn ⟨_,O,e'⟩)]
theorem y_cutHc {A:Option Addr} {k c:Nat} {x b:Operand} {u e:TypeId} {sz:Nat} {q:IntKind} {hi:Int} (hs:r8 P u=some (e,sz)) (h0:0≤hi) (h2:∀W,Ext w0 W L→hi.toNat≤c) (hx:ρ x=.slice A k c) (hb:ρ b=.int q hi) :
  OpY r n P ⟨t,.slice u x none (some b) none,ty,pos,af,g⟩ ρ (fun W=>Ext w0 W L) (fun W=>Ext w0 W L) (.slice A hi.toNat c) :=
 bk (by intro c h;cases h) (fun W hW=>by
  obtain⟨hu',hsz⟩:=oK hs
  have h3:hi≤(c:Int):=by have:=h2 W hW;omega
  simp only[execOp,hx,hb,Option.map_some,Option.map_none,Sem.run_bind,run_sliceAt_slice W u _ _ _ _ hu',run_slice_h W u A k c hu' q hi h0 h3,hsz,Result.andThen_ok,sliced]
  have e1:(if c=0 then A else Option.map (fun x=>x.add (0*sz)) A)=A:=by
   split
   ·rfl
   ·cases A <;> simp[Addr.add]
  rw[e1]
  rfl)
end
theorem rd_none {W:World} {n c sz:Nat} {α:Type} {cells:α→List Value} {xs:List α} (h:Rd W none n c (encL cells xs)) (hc:∀x,(cells x).length=sz) (hp:0<sz):xs=[]:=by
 cases xs with
 | nil=>rfl
 | cons x xs =>
  have hl:0<(encL cells (x::xs)).length:=by rw[eL hc O];exact Nat.mul_pos (Nat.succ_pos _) hp
  obtain⟨b,o,e,_⟩:=h.cell 0 (encL cells (x::xs))[0] (by simp[hl])
  cases e
section
variable {r : Option Nat} {n : Nat} {P : Program} {ops : Array Oper} {Q : Exit → Act → World → Prop} {w0 : World} {L : List Res} {m : Nat} {tm : Nat → Value} {d : List Deferred}
variable {t : Tmp} {ty : TypeId} {pos : String} {af : Array Edge} {g : Option (Nat × Bool)} {l rest : List Oper}
theorem eH {α:Type} (cells:α→List Value) {u e:TypeId} {z:Value} {sz by':Nat} (hu:P.underlying u=some (.slice e)) (hz:cW P e=some z) (_hb:iY P e z sz by'=true)
  (hw:eE ops m tm ⟨some t,.buildSlice u 0 #[],ty,pos,af,g⟩=true)
  (h:∀b,OX r n P ops Q w0 (L++[aO (some ⟨b,0,none⟩) 0 e sz 0 (encL cells [])]) rest m (upd tm t (.slice (some ⟨b,0,none⟩) 0 0)) d) :
  OX r n P ops Q w0 L (⟨some t,.buildSlice u 0 #[],ty,pos,af,g⟩::rest) m tm d :=
 jt hw (by intro c h;cases h) fun W hW=>by
  obtain⟨inf,hinf,hzz⟩:∃inf,P.info? e=some inf∧inf.zero=some z:=by
   unfold cW at hz
   cases hi:P.info? e with
   | none=>rw[hi]at hz;cases hz
   | some inf=>rw[hi]at hz;exact⟨inf,O,hz⟩
  have hu1:(underlying u).run P W=.ok (.slice e) W:=by simp[underlying,hu]
  have hsz:(Go.sizeOf e).run P W=.ok inf.size W:=by simp[Go.sizeOf,typeInfo,hinf]
  have hb:(Instr.buildSlice u 0 #[]).run P W=.ok (.slice (some ⟨W.heap.size,0,none⟩) 0 0) (W.alloc (.cells #[] e)):=by
   simp[Instr.buildSlice,hu1,Result.andThen_ok,hsz,Instr.fill,newRow]
   rw[show(Array.range 0) = #[] by simp[Array.range]]
   simp
  refine⟨_,W.alloc (.cells #[] e),_,?_,?_,h W.heap.size⟩
  ·simp only[execOp,Sem.run_bind,List.map_toArray,List.map_nil,hb]
   rfl
  ·have hk:(aO (some ⟨W.heap.size,0,none⟩) 0 e sz 0 (encL cells [])).holds (W.alloc (.cells #[] e)):=by
    have:=World.ownsRow_lit (base:=0) (e:=e) (size:=sz) W #[] 0 (Nat.zero_le _) (Nat.zero_le _) (by simp)
    exact this
   have h7:Ext w0 (W.alloc (.cells #[] e)) L:=hW.keep (hW.below.alloc hW.size _) (by simp) (fun i p hp b hd=>Below.heap_alloc W _ b (p.inb W (hW.all i p hp) b hd))
   refine h7.snoc hk (fun b hb=>?_) (fun i q hq b hb hb'=>?_)
   ·obtain⟨a,ha,rfl⟩:=hb
    cases ha
    exact hW.size
   ·obtain⟨a,ha,rfl⟩:=hb'
    cases ha
    have:=q.inb W (hW.all i q hq) _ hb
    exact absurd this (Nat.lt_irrefl _)
end
section
variable {r : Option Nat} {n : Nat} {P : Program} {ρ : Operand → Value} {C : World → Prop}
variable {t : Option Tmp} {ty : TypeId} {pos : String} {af : Array Edge} {g : Option (Nat × Bool)}
theorem y_convQ {x:Operand} {u v:TypeId} {q q':IntKind} {a a':Int} (hu:P.underlying u=some (.int q)) (hv:P.underlying v=some (.int q')) (h:q'.wrap a=a') (hx:ρ x=.int q a):OpY r n P ⟨t,.convert u v x,ty,pos,af,g⟩ ρ C C (.int q' a') :=
 bk (by intro c h;cases h) (fun W _=>by
  have h1:(convert u v (.int q a)).run P W=.ok (.int q' a') W:=by
   simp[convert,underlying,hu,hv,Conv.intToInt,h]
  simp[execOp,hx,h1])
theorem y_indexStr {x ix:Operand} {u:TypeId} {s:ByteArray} {k:IntKind} {i:Int} {b:UInt8} (hu:P.underlying u=some .string) (h0:0≤i) (hb:s[i.toNat]? = some b) (hx:ρ x=.string s) (hi:ρ ix=.int k i):OpY r n P ⟨t,.index u x ix,ty,pos,af,g⟩ ρ C C (.int .u8 b.toNat) :=
 bk (by intro c h;cases h) (fun W _=>by
  simp[execOp,hx,hi,Instr.index,asIntOf,underlying,hu,h0,hb])
end
section
variable {r : Option Nat} {n : Nat} {P : Program} {ρ : Operand → Value} {C : World → Prop}
variable {t : Option Tmp} {ty : TypeId} {pos : String} {af : Array Edge} {g : Option (Nat × Bool)}
end
section
variable {P : Program} {w0 : World} {L : List Res} {m : Nat} {tm : Nat → Value}
end
section
variable {r : Option Nat} {n : Nat} {P : Program} {ρ : Operand → Value} {C : World → Prop} {w0 : World} {L : List Res}
variable {t : Option Tmp} {ty : TypeId} {pos : String} {af : Array Edge} {g : Option (Nat × Bool)}
theorem RdL.under {R:Res} {A:Option Addr} {k c:Nat} {cs:List Value} (h:∀W2,Below w0.heap.size w0 W2→R.holds W2→Rd W2 A k c cs):RdL w0 (R::L) A k c cs:=fun W hW=>h W hW.below (hW.mem (i:=0) O)
end
open Go.RowKit (Below)
abbrev Hd:=Option Addr × Nat × Nat
theorem rdL_snd {α β:Type} [Inhabited α] [Inhabited β] {ys:List (α × β)} {xs:List β} (h:ys.map Prod.snd=xs) (i:Int):(rdL ys i).2=rdL xs i:=by
 subst h
 unfold rdL
 rw[List.getD_eq_getElem?_getD,List.getD_eq_getElem?_getD,List.getElem?_map]
 cases ys[i.toNat]? <;> rfl
theorem pr {α:Type} [Inhabited α] {xs:List α} {i:Int} (h0:0≤i) (h1:i<(xs.length:Int)):rdL xs i∈xs:=by
 unfold rdL
 rw[List.getD_eq_getElem?_getD,List.getElem?_eq_getElem (show i.toNat<xs.length by omega)]
 exact List.getElem_mem _
section
variable {β γ : Type} {sel : β → List γ} {ic : γ → List Value}
structure NestP (sel:β→List γ) (ys:List (Hd × β)) (xs:List β):Prop where
 eq:ys.map Prod.snd=xs
 ln:∀y∈ys,y.1.2.1=(sel y.2).length
structure NestW (W:World) (sel:β→List γ) (ic:γ→List Value) (ys:List (Hd × β)) (xs:List β):Prop where
 p:NestP sel ys xs
 inn:∀y∈ys,Rd W y.1.1 y.1.2.1 y.1.2.2 (encL ic (sel y.2))
structure NestL (w0:World) (L:List Res) (sel:β→List γ) (ic:γ→List Value) (ys:List (Hd × β)) (xs:List β):Prop where
 p:NestP sel ys xs
 inn:∀y∈ys,RdL w0 L y.1.1 y.1.2.1 y.1.2.2 (encL ic (sel y.2))
variable {w0 W : World} {L : List Res} {ys : List (Hd × β)} {xs : List β}
theorem NestL.arg (h:NestW w0 sel ic ys xs):NestL w0 L sel ic ys xs:=⟨h.p,fun y hy=>RdL.arg (h.inn y hy)⟩
theorem NestL.at (h:NestL w0 L sel ic ys xs) (W:World) (hW:Ext w0 W L):NestW W sel ic ys xs:=⟨h.p,fun y hy=>h.inn y hy W hW⟩
theorem NestW.later {W':World} (h:NestW W sel ic ys xs) (hb:Below W.heap.size W W'):NestW W' sel ic ys xs:=⟨h.p,fun y hy=>(h.inn y hy).later hb⟩
theorem NestP.hn {n:Nat} (h:NestP sel ys xs) (hn:n=xs.length):n=ys.length:=by rw[hn,←h.eq,List.length_map]
variable [Inhabited β] [Inhabited γ]
omit [Inhabited γ] in
theorem NestP.snd (h:NestP sel ys xs) (i:Int):(rdL ys i).2=rdL xs i:=rdL_snd h.eq i
omit [Inhabited γ] in
theorem NestP.len (h:NestP sel ys xs) {i:Int} (h0:0≤i) (h1:i<(xs.length:Int)):(rdL ys i).1.2.1=(sel (rdL xs i)).length:=by
 have hl:xs.length=ys.length:=h.hn O
 rw[←h.snd i]
 exact h.ln _ (pr h0 (by omega))
omit [Inhabited γ] in
theorem NestL.rd (h:NestL w0 L sel ic ys xs) {i:Int} (h0:0≤i) (h1:i<(xs.length:Int)):RdL w0 L (rdL ys i).1.1 (sel (rdL xs i)).length (rdL ys i).1.2.2 (encL ic (sel (rdL xs i))):=by
 have hl:xs.length=ys.length:=h.p.hn O
 have h2:=h.p.len h0 h1
 have h3:=h.inn _ (pr (xs:=ys) h0 (by omega))
 rw[h2,h.p.snd i]at h3
 exact h3
end
theorem iL {cs vs us:List Value} {j:Nat} (he:vs=us) (h:∀q v,us[q]? = some v→cs[j+q]? = some v):∀q v,vs[q]? = some v→cs[j+q]? = some v:=by subst he;exact h
open Go.RowKit (Below)
section
variable {r : Option Nat} {n : Nat} {P : Program} {Q : Exit → Act → World → Prop} {w0 : World} {L : List Res} {m : Nat} {tm : Nat → Value} {d : List Deferred}
def rndM {S:Type} (I:S→List Res→(Nat→Value)→Prop) (μ:S→Nat) (Q:Exit→Act→World→Prop) (w0:World) (m:Nat) (d:List Deferred) (s:S):Exit→Act→World→Prop:=rndS (fun s a W=>∃L tm,a=act m tm d∧Ext w0 W L∧I s L tm) μ Q s
theorem n7 {S:Type} {c:Code} (I:S→List Res→(Nat→Value)→Prop) (μ:S→Nat) (s0:S) (h0:I s0 L tm)
  (round:∀s L tm,I s L tm→CX r n P c (rndM I μ Q w0 m d s) w0 L m tm d):CX r n P (.loop c) Q w0 L m tm d:=fun W hW =>
 wp_loopS (fun s a W=>∃L tm,a=act m tm d∧Ext w0 W L∧I s L tm) μ (s0:=s0) ⟨L,tm,O,hW,h0⟩ (fun s a W h=>by
  obtain⟨L',tm',rfl,hE,hI⟩:=h
  exact round s L' tm' hI W hE)
theorem l3 {S:Type} {I:S→List Res→(Nat→Value)→Prop} {μ:S→Nat} {s:S} (s':S) (h:I s' L tm) (hμ:μ s'<μ s):EX (rndM I μ Q w0 m d s) .normal w0 L m tm d:=fun W hW=>⟨fun _=>⟨s',⟨L,tm,O,hW,h⟩,hμ⟩,fun h=>absurd O h⟩
theorem pk {S:Type} {I:S→List Res→(Nat→Value)→Prop} {μ:S→Nat} {s:S} {e:Exit} (he:e ≠ .normal) (h:EX Q e w0 L m tm d):EX (rndM I μ Q w0 m d s) e w0 L m tm d:=fun W hW=>⟨fun h'=>absurd h' he,fun _=>h W hW⟩
end
theorem entry_at {P:Program} {W W':World} {b it:Nat} {s:Nat} {seen:Array Nat} {c0 clock:Nat} {es:Array MapEntry} {v:Value} (h1:W.heap[it]? = some (.mapIter (some b) s seen c0)) (h2:W.heap[b]? = some (.map es clock)) (h1':W'.heap[it]? = some (.mapIter (some b) s seen c0)) (h2':W'.heap[b]? = some (.map es clock))
  (h:(Instr.entry (.pointer (some ⟨it,0,none⟩))).run P W=.ok v W):(Instr.entry (.pointer (some ⟨it,0,none⟩))).run P W'=.ok v W':=by
 cases hb:seen.back? with
 | none =>
  simp[Instr.entry,getObj,Sem.run_bind,Sem.run,h1,hb,Result.andThen,stuck]at h
 | some q =>
  by_cases hc:clock=c0
  ·cases hf:es.find? (·.born==q)with
   | none=>simp[Instr.entry,getObj,Sem.run_bind,Sem.run,h1,h2,hb,hc,hf,Result.andThen,unsupported]at h
   | some e =>
    have e1:∀(X:World),X.heap[it]? = some (.mapIter (some b) s seen c0)→X.heap[b]? = some (.map es clock)→(Instr.entry (.pointer (some ⟨it,0,none⟩))).run P X=.ok (.tuple #[e.key,e.val]) X:=fun X hx hy=>by
     simp[Instr.entry,getObj,Sem.run_bind,Sem.run,hx,hy,hb,hc,hf,Result.andThen]
     try rfl
    rw[e1 W h1 h2]at h
    cases h
    exact e1 W' h1' h2'
  ·simp[Instr.entry,getObj,Sem.run_bind,Sem.run,h1,h2,hb,hc,Result.andThen,unsupported]at h
section
variable {κ β : Type} [DecidableEq κ]
def rc (P:Program) (kt:TypeId) (ek:κ→Value) (ok:κ→Bool) (ev:β→Value) (z:β) (b it:Nat) (m:List (κ × β)) (left:κ→Bool) (cnt:Nat) (cur:Option (Value × Value)):Res where
 dom c:=c=b∨c=it
 holds W:=(∃D lf,W.ranges P kt rawR b it m.length D lf cnt∧Maps.IsMap D∧(∀x l,ok x=true→keyOf P kt (ek x)=some l→D.atKey l (.held (ev z))=.held (ev (ax z m x))∧Maps.has D l=bH m x)∧(∀l,Maps.has D l=true→∃x,ok x=true∧keyOf P kt (ek x)=some l)∧(∀x l,ok x=true→keyOf P kt (ek x)=some l→lf l=left x)∧∀l,lf l=true→Maps.has D l=true) ∧
  ∀q,cur=some q→(Instr.entry (.pointer (some ⟨it,0,none⟩))).run P W=.ok (.tuple #[q.1,q.2]) W
 loc W W' h _ hh:=by
  obtain⟨⟨D,lf,⟨es,clock,since,seen,c0,hb,F,hs,hD,hr,rest⟩,h2⟩,h3⟩:=hh
  have hb':=(h b (.inl O)).trans hb
  have hr':=(h it (.inr O)).trans hr
  exact⟨⟨D,lf,⟨es,clock,since,seen,c0,hb',F,hs,hD,hr',rest⟩,h2⟩,fun q hq=>entry_at hr hb hr' hb' (h3 q hq)⟩
 inb W hh c hc:=by
  obtain⟨⟨D,lf,h1,_⟩,_⟩:=hh
  rcases hc with rfl|rfl
  ·exact h1.owns.lt
  ·exact h1.lt
end
section
variable {r : Option Nat} {n : Nat} {P : Program} {ops : Array Oper} {Q : Exit → Act → World → Prop} {w0 : World} {L : List Res} {m : Nat} {tm : Nat → Value} {d : List Deferred}
variable {t : Tmp} {ty : TypeId} {pos : String} {af : Array Edge} {g : Option (Nat × Bool)} {rest : List Oper}
variable {κ β : Type} [DecidableEq κ] {kt : TypeId} {ek : κ → Value} {ok : κ → Bool} {ev : β → Value} {z : β}
theorem ql (i:Nat) {mt et b:Nat} {M:List (κ × β)} {x:Operand} (hL:L[i]? = some (mapV P kt ek ok ev z b M)) (K:KeyE P kt ek ok) (hm:P.underlying mt=some (.map kt et)) (hx:opv m tm x=.map (some b))
  (hw:eE ops m tm ⟨some t,.range mt x,ty,pos,af,g⟩=true)
  (h:∀it k,k≤M.length→OX r n P ops Q w0 (L.set i (rc P kt ek ok ev z b it M (fun y=>bH M y) k none)) rest m (upd tm t (.pointer (some ⟨it,0,none⟩))) d) :
  OX r n P ops Q w0 L (⟨some t,.range mt x,ty,pos,af,g⟩::rest) m tm d :=
 jt hw (by intro c h;cases h) fun W hW=>by
  obtain⟨D,h1,h2,h3,h4⟩:=hW.mem hL
  obtain⟨W',hrun,hr,hg,hs⟩:=h1.range K.keyed hm
  refine⟨_,W',_,by simp[execOp,hx,hrun],?_,h W.heap.size (Maps.size D) h1.size_le⟩
  refine hW.set hL _ ⟨⟨D,Maps.has D,hr,h2,h3,h4,fun y l hy hl=>(h3 y l hy hl).2,fun _ h=>h⟩,fun q hq=>by cases hq⟩ hg.os hg.tape hg.output hg.size (fun c hc _=>hg.block c hc (by simp)) (fun c hc=>?_)
  rcases hc with rfl|rfl
  ·exact .inl O
  ·exact .inr (Nat.le_refl _)
theorem Ext.rangeEnd {W:World} (i:Nat) {b it k:Nat} {M:List (κ × β)} {left:κ→Bool} {cur:Option (Value × Value)} (h:Ext w0 W L) (hL:L[i]? = some (rc P kt ek ok ev z b it M left k cur)):Ext w0 W (L.set i (mapV P kt ek ok ev z b M)):=by
 obtain⟨⟨D,lf,h1,h2,h3,h4,_⟩,_⟩:=h.mem hL
 exact h.set hL _ ⟨D,h1.owns,h2,h3,h4⟩ O O O (Nat.le_refl _) (fun c hc _=>O) (fun c hc=>.inl (.inl hc))
theorem rQ (i:Nat) {b it k:Nat} {M:List (κ × β)} {left:κ→Bool} {cur:Option (Value × Value)} {x:Operand} (hL:L[i]? = some (rc P kt ek ok ev z b it M left k cur)) (K:KeyE P kt ek ok) (hx:opv m tm x=.pointer (some ⟨it,0,none⟩))
  (hw:eE ops m tm ⟨some t,.next x false,ty,pos,af,g⟩=true)
  (h0:(∀y,ok y=true→left y=false)→OX r n P ops Q w0 L rest m (upd tm t (.tuple #[.bool false])) d)
  (h1:∀y k',ok y=true→left y=true→bH M y=true→k'<k→OX r n P ops Q w0 (L.set i (rc P kt ek ok ev z b it M (fun q=>left q && !decide (q=y)) k' (some (ek y,ev (ax z M y))))) rest m (upd tm t (.tuple #[.bool true,ek y,ev (ax z M y)])) d) :
  OX r n P ops Q w0 L (⟨some t,.next x false,ty,pos,af,g⟩::rest) m tm d :=
 jt hw (by intro c h;cases h) fun W hW=>by
  obtain⟨⟨D,lf,hr,h2,h3,h4,h5,h6⟩,_⟩:=hW.mem hL
  rcases hr.next K.keyed ty with⟨_,hl,hrun⟩|⟨key,v,kl,y0,W',k',hkey,hlk,hv,hat,hrun,hr',hk',hg,hs,hen⟩
  ·refine⟨_,W,L,by simp[execOp,hx,hrun],hW,h0 (fun y hy=>?_)⟩
   obtain⟨l,hl'⟩:=K.tot y hy
   rw[←h5 y l hy hl']
   exact hl l
  ·obtain⟨y,hy,hyl⟩:=h4 kl (h6 kl hlk)
   have hke:key=ek y:=K.keyed.inj hkey hyl
   have hva:v=ev (ax z M y):=by
    have e1:=(h3 y kl hy hyl).1
    rw[hat]at e1
    have e2:y0=(.held v,[]):=(Option.some.inj hv).symm
    rw[e2]at e1
    simp only[DataW.held.injEq]at e1
    exact e1
   subst hke hva
   refine⟨_,W',_,by simp[execOp,hx,hrun],?_,h1 y k' hy (by rw[←h5 y kl hy hyl];exact hlk) (by rw[←(h3 y kl hy hyl).2];exact h6 kl hlk) hk'⟩
   refine hW.set hL _ ⟨⟨D,_,hr',h2,h3,h4,fun q l hq hl=>?_,fun l hl=>?_⟩,fun q hq=>by cases hq;exact hen⟩ hg.os hg.tape hg.output hg.size (fun c hc hn=>hg.block c hc (fun e=>hn (.inr (by cases e;rfl)))) (fun c hc=>.inl hc)
   ·show(lf l && !l.sameKey kl)=(left q && !decide (q=y))
    rw[h5 q l hq hl]
    by_cases e:q=y
    ·subst e
     have e3:l=kl:=by rw[hl]at hyl;exact Option.some.inj hyl
     rw[e3,WideAt.sameKey_self (K.keyed.key hyl)]
     simp
    ·have e3:l.sameKey kl=false:=by
      cases hsk:l.sameKey kl with
      | false=>rfl
      | true =>
       have e4:=WideAt.sameKey_eq hsk
       exact absurd (K.inj q y (K.keyed.inj hl (e4▸hyl))) e
     rw[e3]
     simp[e]
   ·have hl2:(lf l && !l.sameKey kl)=true:=hl
    rw[Bool.and_eq_true]at hl2
    exact h6 l hl2.1
end
section
variable {r : Option Nat} {n : Nat} {P : Program} {ρ : Operand → Value} {w0 : World} {L : List Res}
variable {t : Option Tmp} {ty : TypeId} {pos : String} {af : Array Edge} {g : Option (Nat × Bool)}
variable {κ β : Type} [DecidableEq κ] {kt : TypeId} {ek : κ → Value} {ok : κ → Bool} {ev : β → Value} {z : β}
theorem rK (i:Nat) {b it k:Nat} {M:List (κ × β)} {left:κ→Bool} {a c:Value} {x:Operand} (hL:L[i]? = some (rc P kt ek ok ev z b it M left k (some (a,c)))) (hx:ρ x=.pointer (some ⟨it,0,none⟩)) :
  OpY r n P ⟨t,.entry x,ty,pos,af,g⟩ ρ (fun W=>Ext w0 W L) (fun W=>Ext w0 W L) (.tuple #[a,c]) :=
 bk (by intro c h;cases h) (fun W hW=>by
  obtain⟨_,h⟩:=hW.mem hL
  simp[execOp,hx,h _ O])
end
open Go.RowKit (Below)
section
variable {w0 : World} {L : List Res}
theorem Ext.rot {W:World} {p:Res} (h:Ext w0 W (p::L)):Ext w0 W (L++[p]):=by
 have hg:∀(k:Nat) (q:Res),(L++[p])[k]? = some q→∃j,(p::L)[j]? = some q∧(k<L.length→j=k+1)∧(L.length≤k→j=0∧k=L.length):=by
  intro k q hq
  rcases Nat.lt_or_ge k L.length with hk|hk
  ·rw[List.getElem?_append_left hk]at hq
   exact⟨k+1,by simpa using hq,fun _=>O,fun h'=>by omega⟩
  ·rw[List.getElem?_append_right hk]at hq
   have:k-L.length=0:=by
    cases hkk:k-L.length with
    | zero=>rfl
    | succ z=>rw[hkk]at hq;simp at hq
   rw[this]at hq
   exact⟨0,by simpa using hq,fun h'=>by omega,fun _=>⟨O,by omega⟩⟩
 refine⟨h.below,fun k q hq=>?_,fun k q hq=>?_,fun k l q q' hq hq' hne=>?_⟩
 ·obtain⟨j,hj,_⟩:=hg k q hq;exact h.all j q hj
 ·obtain⟨j,hj,_⟩:=hg k q hq;exact h.new j q hj
 ·obtain⟨j,hj,a1,a2⟩:=hg k q hq
  obtain⟨i,hi,b1,b2⟩:=hg l q' hq'
  refine h.sep j i q q' hj hi (fun e=>hne ?_)
  rcases Nat.lt_or_ge k L.length with hk|hk <;> rcases Nat.lt_or_ge l L.length with hl|hl
  ·have:=a1 hk;have:=b1 hl;omega
  ·have:=a1 hk;have:=(b2 hl).1;omega
  ·have:=(a2 hk).1;have:=b1 hl;omega
  ·have:=(a2 hk).2;have:=(b2 hl).2;omega
theorem Ext.torr {W:World} {p:Res} (h:Ext w0 W (L++[p])):Ext w0 W (p::L):=by
 have hg:∀(k:Nat) (q:Res),(p::L)[k]? = some q→∃j,(L++[p])[j]? = some q∧(0<k→k=j+1)∧(k=0→j=L.length)∧(0<k→j<L.length):=by
  intro k q hq
  cases k with
  | zero=>exact⟨L.length,by simpa using hq,fun h'=>by omega,fun _=>rfl,fun h'=>by omega⟩
  | succ k =>
   have hq':L[k]? = some q:=by simpa using hq
   have hk:k<L.length:=(List.getElem?_eq_some_iff.1 hq').1
   exact⟨k,by rw[List.getElem?_append_left hk];exact hq',fun _=>O,fun h'=>by omega,fun _=>hk⟩
 refine⟨h.below,fun k q hq=>?_,fun k q hq=>?_,fun k l q q' hq hq' hne=>?_⟩
 ·obtain⟨j,hj,_⟩:=hg k q hq;exact h.all j q hj
 ·obtain⟨j,hj,_⟩:=hg k q hq;exact h.new j q hj
 ·obtain⟨j,hj,a1,a2,a3⟩:=hg k q hq
  obtain⟨i,hi,b1,b2,b3⟩:=hg l q' hq'
  refine h.sep j i q q' hj hi (fun e=>hne ?_)
  rcases Nat.eq_zero_or_pos k with hk|hk <;> rcases Nat.eq_zero_or_pos l with hl|hl
  ·omega
  ·have:=a2 hk;have:=b3 hl;omega
  ·have:=b2 hl;have:=a3 hk;omega
  ·have:=a1 hk;have:=b1 hl;omega
theorem Ext.tail {W:World} {p:Res} (h:Ext w0 W (p::L)):Ext w0 W L:=by
 have:=h.rot.take L.length
 rw[List.take_left]at this
 exact this
theorem Ext.torr' {W:World} {p:Res} (h:Ext w0 W (p::L)):Ext w0 W L:=h.tail
theorem getElem?_app3 {p q s:Res}:(L++[p,q,s])[L.length+1]? = some q:=by simp
theorem Ext.putLoop3 {W:World} {p s:Res} {l:Nat} {rec rec':Loop} (h:Ext w0 W (L++[p,lpR l rec,s])):Ext w0 (W.putObj l (.loop rec')) (L++[p,lpR l rec',s]):=by
 have hl:W.heap[l]? = some (.loop rec):=h.mem getElem?_app3
 have hlt:l<W.heap.size:=lc hl
 have:=h.set getElem?_app3 (lpR l rec') (W':=W.putObj l (.loop rec')) (World.putObj_heap_same hlt) O O O (by simp[World.putObj]) (fun b hb hn=>World.putObj_heap_other (fun e=>hn e)) (fun b hb=>.inl hb)
 have e:(L++[p,lpR l rec,s]).set (L.length+1) (lpR l rec')=L++[p,lpR l rec',s]:=by rw[List.set_append_right _ _ (by omega)];simp
 rw[e]at this
 exact this
end
def SeqC (P:Program) (g:Nat) (caps:List Value) (e:TypeId) (H:World→Prop) (xs:List (List Int)):Prop :=
 ∀(w0:World) (l:Nat) (K:Nat→List Res→Prop) (Kx:List Res→Prop) (W:World) (L:List Res),
  (∀i L W,K i L→Ext w0 W L→H W) →
  (∀i x A c L W,xs[i]? = some x→K i L→Ext w0 W (aO A c e 1 x.length (encL cI x)::L) →
   YieldAt (Fw none) 6 P l #[.slice A x.length c] W fun e' W' =>
    (e'=.returned (.bool true)∧∃L',K (i+1) L'∧Ext w0 W' (aO A c e 1 x.length (encL cI x)::L'))∨(e'=.returned (.bool false)∧∃L',Kx L'∧Ext w0 W' L')) →
  K 0 L→Ext w0 W L →
  CallsIn (Fw none) 7 P g (#[.func (.yield l) #[] #[]]++caps.toArray) W fun e' W'=>(∃v,e'=.returned v)∧((∃L',K xs.length L'∧Ext w0 W' L')∨∃L',Kx L'∧Ext w0 W' L')
section
variable {r : Option Nat} {n : Nat} {P : Program} {Q : Exit → Act → World → Prop} {w0 : World} {L : List Res} {m : Nat} {tm : Nat → Value} {d : List Deferred}
def rgC {S T:Type} (w0:World) (D l:Nat) (rec:Loop) (R:Res) (I:S→List Res→Prop) (J:T→Exit→List Res→Prop) (st:S ⊕ T):Exit→Act→World→Prop:=fun e _ W =>
 match st with
 | .inl s'=>e=.normal∧∃L',I s' L'∧Ext w0 W (L'++[dfR D,lpR l { rec with state:=.busy },R])
 | .inr t=>∃L',J t e L'∧Ext w0 W (L'++[dfR D,lpR l { rec with state:=.busy },R])
theorem mX {S T:Type} {I:S→List Res→Prop} {J:T→Exit→List Res→Prop} {D l:Nat} {rec:Loop} {R:Res} {s':S} (L':List Res) (h:I s' L'):EX (rgC w0 D l rec R I J (.inl s')) .normal w0 (L'++[dfR D,lpR l { rec with state:=.busy },R]) m tm d :=
 fun _ hW=>⟨O,L',h,hW⟩
theorem ex_cstop {S T:Type} {I:S→List Res→Prop} {J:T→Exit→List Res→Prop} {D l:Nat} {rec:Loop} {R:Res} {t:T} {e:Exit} (L':List Res) (h:J t e L'):EX (rgC w0 D l rec R I J (.inr t)) e w0 (L'++[dfR D,lpR l { rec with state:=.busy },R]) m tm d :=
 fun _ hW=>⟨L',h,hW⟩
theorem mH {S T:Type} {bodyf:S→List Int→Option (S ⊕ T)} {g:Operand} {p:Tmp} {assign body:Code} {gf:Nat} {caps:List Value} {et:TypeId} {H:World→Prop} {xs:List (List Int)} {s0:S} {st:S ⊕ T}
  (I:S→List Res→Prop) (J:T→Exit→List Res→Prop) (hl:gA bodyf xs s0=some st) (hg:opv m tm g=.func (.func gf) #[] caps.toArray) (hgo:cE P gf=true)
  (hseq:SeqC P gf caps et H xs) (hH:∀W s L',I s L'→Ext w0 W L'→H W) (h0:I s0 L)
  (hJe:∀t e L',J t e L'→e=.ret∨∃id,e=.exit id)
  (round:∀D l rec A c s x L' st',rec.state=.ready→I s L'→bodyf s x=some st'→CX (some l) 6 P assign (asgQ 6 P l body (rgC w0 D l rec (aO A c et 1 x.length (encL cI x)) I J st')) w0 (L'++[dfR D,lpR l rec,aO A c et 1 x.length (encL cI x)]) m (upd tm p (.slice A x.length c)) [])
  (done:∀D s L',st=.inl s→I s L'→EX Q .normal w0 (L'++[dfR D]) m tm (⟨.collected D,#[]⟩::d))
  (stop:∀D t e L',st=.inr t→J t e L'→EX Q e w0 (L'++[dfR D]) m tm (⟨.collected D,#[]⟩::d)):CX none 8 P (.rangeFunc g #[p] assign body) Q w0 L m tm d:=fun W hW=>by
 refine wpIn_rangeFunc ?_
 intro fn hfn
 obtain⟨rec0,hrec0⟩:∃rec0:Loop,rec0={ state:=.ready,pending:=none,fn,tmps:=(act m tm d).tmps,params:=#[p],assign,body,defers:=W.heap.size }:=⟨_,O⟩
 have hW1:Ext w0 ((W.alloc (.deferred (some []))).alloc (.loop rec0)) (L++[dfR W.heap.size,lpR (W.heap.size+1) rec0]):=by
  have h1:=(hW.alloc (.deferred (some []))).alloc (.loop rec0)
  rw[World.size_alloc,List.append_assoc]at h1
  exact h1
 refine⟨W.heap.size+1,[{ target:=.collected W.heap.size,args:=#[] }],((W.alloc (.deferred (some []))).alloc (.loop rec0)),{ target:=.fn (.func gf) caps.toArray,args:=#[.func (.yield (W.heap.size+1)) #[] #[]] },((W.alloc (.deferred (some []))).alloc (.loop rec0)),gf,
  #[.func (.yield (W.heap.size+1)) #[] #[]]++caps.toArray,((W.alloc (.deferred (some []))).alloc (.loop rec0)),(by rw[hrec0];exact run_enterLoop_outer _ _ _ _ _),?_,fun _ _=>trivial,?_,fun hd=>(by cases hd),?_⟩
 ·have hg':(act m tm d).eval g=.func (.func gf) #[] caps.toArray:=by rw[dG];exact hg
  simp only[resolve,hg']
  simp[go_sem]
 ·have:=nN hgo (#[.func (.yield (W.heap.size+1)) #[] #[]]++caps.toArray) ((W.alloc (.deferred (some []))).alloc (.loop rec0))
  simp only[invoke]
  exact this
 ·generalize hl0:W.heap.size+1=l
  rw[hl0]at hW1
  generalize hD:W.heap.size=D at *
  have hseq1:=hseq w0 l
   (fun i L1=>∃s L',gA bodyf (xs.take i) s0=some (.inl s)∧I s L'∧L1=L'++[dfR D,lpR l rec0])
   (fun L1=>∃t e c L',st=.inr t∧J t e L'∧((e=.ret∧c=Code.ret)∨∃id,e=.exit id∧c=Code.exit id)∧L1=L'++[dfR D,lpR l { rec0 with state:=.done,pending:=some c }])
   ((W.alloc (.deferred (some []))).alloc (.loop rec0)) (L++[dfR D,lpR l rec0])
   (fun i L1 A hs hA=>by
    obtain⟨s,L',h1,h2,rfl⟩:=hs
    have h4:=hA.take L'.length
    rw[List.take_left]at h4
    exact hH A s L' h2 h4)
   ?_ ⟨s0,L,O,h0,O⟩ hW1
  ·refine hseq1.mono ?_
   rintro e W2 ⟨⟨v,rfl⟩,h2⟩
   rcases h2 with⟨_,⟨s,L',h3,h4,rfl⟩,h5⟩|⟨_,⟨t,e,c,L',h3,h4,h6,rfl⟩,h5⟩
   ·rw[List.take_length,hl]at h3
    have hl2:W2.heap[l]? = some (.loop rec0):=h5.mem getElem?_app1
    refine⟨rec0.pending,_,run_endLoop hl2 (by rw[hrec0];simp),?_⟩
    have hpd:rec0.pending=none:=by rw[hrec0]
    rw[hpd]
    show Q .normal _ _
    have h7:=(h5.putLoop (rec':={ rec0 with state:=.exhausted,pending:=none })).take (L'.length+1)
    have e7:(L'++[dfR D,lpR l { rec0 with state:=.exhausted,pending:=none }]).take (L'.length+1)=L'++[dfR D]:=by
     rw[List.take_append];simp[List.take_of_length_le]
    rw[e7]at h7
    exact done D s L' (Option.some.inj h3) h4 _ h7
   ·have hl2:W2.heap[l]? = some (.loop { rec0 with state:=.done,pending:=some c }):=h5.mem getElem?_app1
    refine⟨some c,_,run_endLoop hl2 (by simp),?_⟩
    have h7:=(h5.putLoop (rec':={ rec0 with state:=.exhausted,pending:=some c })).take (L'.length+1)
    have e7:(L'++[dfR D,lpR l { rec0 with state:=.exhausted,pending:=some c }]).take (L'.length+1)=L'++[dfR D]:=by
     rw[List.take_append];simp[List.take_of_length_le]
    rw[e7]at h7
    have h8:=stop D t e L' h3 h4 _ h7
    rcases h6 with⟨rfl,rfl⟩|⟨id,rfl,rfl⟩
    ·exact wpIn_ret h8
    ·exact wpIn_exit h8
  ·rintro i x A c _ W1 hx ⟨s,L',h1,h2,rfl⟩ h3
   obtain⟨st',hf,hft,hst⟩:=foldO_step hl h1 hx
   have h3':=h3.rot
   rw[List.append_assoc]at h3'
   have hl1:W1.heap[l]? = some (.loop rec0):=h3'.mem getElem?_app3
   have hy:=run_yield (P:=P) (args:=#[.slice A x.length c]) hl1 (by rw[hrec0];rfl)
   have et':((#[p]:Array Tmp).zip #[Value.slice A x.length c]).foldl (fun tmps (t,a)=>tmps.setIfInBounds t a) (act m tm d).tmps=(act m (upd tm p (.slice A x.length c)) []).tmps:=by
    have h9:(act m tm []).put (some p) (.slice A x.length c)=act m (upd tm p (.slice A x.length c)) []:=dP m tm [] (some p) (.slice A x.length c)
    rw[←h9]
    simp[Act.put]
    rfl
   refine⟨fn,_,assign,body,(by rw[hy,hrec0]),roundIn_of_wpIn (F:=Fw none) (n:=6) trivial ?_⟩
   have hr:=round D l rec0 A c s x L' st' (by rw[hrec0]) h2 hf W1 h3'
   have ea:(act m (upd tm p (.slice A x.length c)) [])={ tmps:=((#[p]:Array Tmp).zip #[Value.slice A x.length c]).foldl (fun tmps (t,a)=>tmps.setIfInBounds t a) (act m tm d).tmps,defers:=[] }:=by
    rw[et'];rfl
   rw[ea]at hr
   refine wpIn_mono (F:=(Fw none).inRound l) hr ?_
   intro e a2 W2 h4
   cases e with
   | normal =>
    obtain⟨w₂,hb,hbody⟩:=h4
    refine⟨w₂,hb,wpIn_mono hbody ?_⟩
    intro e a3 W3 h5
    cases st' with
    | inl s' =>
     obtain⟨rfl,L'',h6,h7⟩:=h5
     have hl3:W3.heap[l]? = some (.loop { rec0 with state:=.busy }):=h7.mem getElem?_app3
     refine⟨_,_,run_endRound none hl3,.inl ⟨O,?_⟩⟩
     refine⟨_,⟨s',L'',hft,h6,O⟩,?_⟩
     have:=h7.putLoop3 (rec':=rec0)
     rw[hrec0]at this ⊢
     have h8:=Ext.torr (L:=L''++[dfR D,lpR l _]) (by rw[List.append_assoc];exact this)
     exact h8
    | inr t =>
     obtain⟨L'',h6,h7⟩:=h5
     have hl3:W3.heap[l]? = some (.loop { rec0 with state:=.busy }):=h7.mem getElem?_app3
     have hstt:=hst t O
     have cut:∀rec',Ext w0 (W3.putObj l (.loop rec')) (L''++[dfR D,lpR l rec']):=fun rec'=>by
      have:=(h7.putLoop3 (rec':=rec')).take (L''.length+2)
      have e7:(L''++[dfR D,lpR l rec',aO A c et 1 x.length (encL cI x)]).take (L''.length+2)=L''++[dfR D,lpR l rec']:=by
       rw[List.take_append];simp[List.take_of_length_le]
      rw[e7]at this
      exact this
     rcases hJe t e L'' h6 with rfl|⟨id,rfl⟩
     ·exact⟨_,_,run_endRound (some .ret) hl3,.inr ⟨O,_,⟨t,.ret,.ret,L'',hstt,h6,.inl ⟨O,O⟩,O⟩,cut _⟩⟩
     ·exact⟨_,_,run_endRound (some (.exit id)) hl3,.inr ⟨O,_,⟨t,.exit id,.exit id,L'',hstt,h6,.inr ⟨id,O,O⟩,O⟩,cut _⟩⟩
   | _=>exact h4.elim
end
section
variable {P : Program} {Q : Exit → Act → World → Prop} {w0 : World} {L : List Res} {m : Nat} {tm : Nat → Value} {d : List Deferred}
theorem q7 {f:FuncId} {fn:Func} {c:Code} {vs:List Value} {W:World} {R:Ending→World→Prop} (hf:P.funcs[f]? = some fn) (hb:fn.body=some c) (hn:fn.ntmps=m) (hl:vs.length≤m) (hW:Ext w0 W L)
  (h:CX none 7 P c (bodyPost P fn R) w0 L m (fun i=>(vs[i]?).getD undef) []):CallsIn (Fw none) 7 P f vs.toArray W R:=by
 refine callsIn_of_wp hf hb trivial ?_ O
 rw[nT _ _ (by rw[hn];simpa using hl),hn]
 have:=h W hW
 simpa using this
variable {ops : Array Oper} {t : Tmp} {ty : TypeId} {pos : String} {af : Array Edge} {g : Option (Nat × Bool)} {rest : List Oper}
theorem ox_yieldE {p:Res} {x:Operand} {xs:List Operand} {us:Array TypeId} {l:Nat} (vs:List Value) (A B:List Res→Prop) (hw:eE ops m tm ⟨some t,.call ⟨.value x,xs.toArray,us⟩,ty,pos,af,g⟩=true) (hx:opv m tm x=.func (.yield l) #[] #[]) (ha:xs.map (opv m tm)=vs)
  (hy:∀W,Ext w0 W L→YieldAt (Fw none) 6 P l vs.toArray W fun e W'=>(e=.returned (.bool true)∧∃L',A L'∧Ext w0 W' (p::L'))∨(e=.returned (.bool false)∧∃L',B L'∧Ext w0 W' L'))
  (hA:∀L',A L'→OX none 7 P ops Q w0 (p::L') rest m (upd tm t (.bool true)) d) (hB:∀L',B L'→OX none 7 P ops Q w0 L' rest m (upd tm t (.bool false)) d) :
  OX none 7 P ops Q w0 L (⟨some t,.call ⟨.value x,xs.toArray,us⟩,ty,pos,af,g⟩::rest) m tm d:=fun W hW=>by
 unfold OL
 rw[bu,if_pos hw]
 refine⟨fun _ _=>trivial,?_⟩
 subst ha
 obtain⟨fn,tmps,assign,body,hr,hR⟩:=hy W hW
 have e:(execOp (opv m tm) ⟨some t,.call ⟨.value x,xs.toArray,us⟩,ty,pos,af,g⟩).run P W=.ok (.round l fn tmps assign body) W:=by
  have h9:(Instr.yield l (xs.map (opv m tm)).toArray).run P W=.ok (.round l fn tmps assign body) W:=hr
  simp[execOp,resolve,hx,Deferred.ofValue,invoke]
  simpa using h9
 have e0:(Fw none).round=none:=rfl
 rw[e0,ec (by intro c h;cases h),dG,e]
 refine⟨(fun hd=>by cases hd),?_⟩
 refine hR.mono ?_
 rintro e' W' (⟨rfl,L',h,hE⟩|⟨rfl,L',h,hE⟩)
 ·show OL none 7 P ops Q rest ((act m tm d).put (some t) (.bool true)) W'
  rw[dP]
  exact hA L' h W' hE
 ·show OL none 7 P ops Q rest ((act m tm d).put (some t) (.bool false)) W'
  rw[dP]
  exact hB L' h W' hE
end
open Go.RowKit (Below)
section
variable {r : Option Nat} {n : Nat} {P : Program} {ρ : Operand → Value} {w0 : World} {L : List Res}
variable {t : Option Tmp} {ty : TypeId} {pos : String} {af : Array Edge} {g : Option (Nat × Bool)} {C : World → Prop}
theorem td {f:Fn} {first caps:List Operand} (us vs:List Value) (hf:first.map ρ=us) (hc:caps.map ρ=vs):OpY r n P ⟨t,.makeFunc f first.toArray caps.toArray,ty,pos,af,g⟩ ρ C C (.func f us.toArray vs.toArray) :=
 bk (by intro c h;cases h) (fun W _=>by
  subst hf hc
  simp[execOp,Instr.makeFunc])
theorem iH {f:FuncId} {x:Operand} {xs:List Operand} {us:Array TypeId} {fst caps:List Value} (vs:List Value) {v:Value} (hf:cE P f=true) (hx:ρ x=.func (.func f) fst.toArray caps.toArray) (ha:xs.map ρ=vs)
  (h:∀W,Ext w0 W L→Calls P f (fst++(vs++caps)).toArray W fun e W'=>e=.returned v∧Ext W W' []) :
  OpY r n P ⟨t,.call ⟨.value x,xs.toArray,us⟩,ty,pos,af,g⟩ ρ (fun W=>Ext w0 W L) (fun W=>Ext w0 W L) v:=fun W hW=>by
 rw[ec (by intro c h;cases h)]
 subst ha
 have e:(execOp ρ ⟨t,.call ⟨.value x,xs.toArray,us⟩,ty,pos,af,g⟩).run P W=.ok (.enter f (fst++(xs.map ρ++caps)).toArray) W:=by
  simp[execOp,resolve,hx,Deferred.ofValue,invoke,nN hf]
 rw[e]
 refine(h W hW).mono ?_
 rintro e W' ⟨rfl,hx⟩
 exact⟨O,hW.below' hx.below⟩
end
section
variable {w0 : World} {L : List Res}
theorem Ext.split {W:World} (h:Ext w0 W L) (i:Nat) {p:Res} (hp:L[i]? = some p) (p1 p2:Res) (h1:p.holds W→p1.holds W∧p2.holds W) (hd1:∀b,p1.dom b→p.dom b) (hd2:∀b,p2.dom b→p.dom b) (hs:p.holds W→∀b,p1.dom b→¬p2.dom b):Ext w0 W (L.set i p1++[p2]):=by
 have hh:=h.mem hp
 have h2:=h.tell i hp (q:=p1) (fun hh=>(h1 hh).1) hd1
 refine h2.snoc (h1 hh).2 (fun b hb=>h.new i p hp b (hd2 b hb)) (fun j q hq b hb hb'=>?_)
 rw[List.getElem?_set]at hq
 by_cases e:i=j
 ·subst e
  rw[if_pos O]at hq
  split at hq
  ·cases hq;exact hs hh b hb hb'
  ·cases hq
 ·rw[if_neg e]at hq
  exact h.sep j i q p hq hp (fun e'=>e e'.symm) b hb (hd2 b hb')
theorem Ext.join {W:World} {p1 p2:Res} (h:Ext w0 W (L++[p2])) (i:Nat) (hp:L[i]? = some p1) (p:Res) (hh:p1.holds W→p2.holds W→(∀b,p1.dom b→¬p2.dom b)→p.holds W) (hd:∀b,p.dom b→p1.dom b∨p2.dom b):Ext w0 W (L.set i p):=by
 have hi:i<L.length:=(List.getElem?_eq_some_iff.1 hp).1
 have hp1:(L++[p2])[i]? = some p1:=by rw[List.getElem?_append_left hi];exact hp
 have hp2:(L++[p2])[L.length]? = some p2:=by simp
 have hget:∀(k:Nat) (q:Res),(L.set i p)[k]? = some q→(k=i∧q=p)∨(k≠i∧k<L.length∧(L++[p2])[k]? = some q):=by
  intro k q hq
  by_cases e:i=k
  ·subst e
   rw[List.getElem?_set_self hi]at hq
   cases hq
   exact .inl ⟨O,O⟩
  ·rw[List.getElem?_set_ne e]at hq
   have hq':(L.set i p)[k]? = some q:=by rw[List.getElem?_set_ne e];exact hq
   have hk:k<L.length:=(List.getElem?_eq_some_iff.1 hq).1
   exact .inr ⟨fun e'=>e e'.symm,hk,by rw[List.getElem?_append_left hk];exact hq⟩
 refine⟨h.below,fun k q hq=>?_,fun k q hq b hb=>?_,fun k l q q' hq hq' hne b hb hb'=>?_⟩
 ·rcases hget k q hq with⟨_,rfl⟩|⟨_,_,h3⟩
  ·exact hh (h.all i p1 hp1) (h.all _ p2 hp2) (h.sep i L.length p1 p2 hp1 hp2 (by omega))
  ·exact h.all k q h3
 ·rcases hget k q hq with⟨_,rfl⟩|⟨_,_,h3⟩
  ·rcases hd b hb with h4|h4
   ·exact h.new i p1 hp1 b h4
   ·exact h.new _ p2 hp2 b h4
  ·exact h.new k q h3 b hb
 ·rcases hget k q hq with⟨a1,rfl⟩|⟨a1,a2,a3⟩ <;> rcases hget l q' hq' with⟨b1,rfl⟩|⟨b1,b2,b3⟩
  ·omega
  ·rcases hd b hb with h4|h4
   ·exact h.sep i l p1 q' hp1 b3 (fun e=>b1 e.symm) b h4 hb'
   ·exact h.sep _ l p2 q' hp2 b3 (by omega) b h4 hb'
  ·rcases hd b hb' with h4|h4
   ·exact h.sep k i q p1 a3 hp1 a1 b hb h4
   ·exact h.sep k _ q p2 a3 hp2 (by omega) b hb h4
  ·exact h.sep k l q q' a3 b3 hne b hb hb'
end
def cG:Hd:=(none,0,0)
def hdV (h:Hd):Value:=.slice h.1 h.2.1 h.2.2
section
variable {κ γ : Type} [DecidableEq κ]
structure HsOk (hs:List (κ × Hd)) (vs:List (κ × List γ)):Prop where
 len:hs.length=vs.length
 eq:∀k,(ax cG hs k).2.1=(ax [] vs k).length
theorem HsOk.nil:HsOk ([]:List (κ × Hd)) ([]:List (κ × List γ)):=⟨O,fun _=>O⟩
theorem HsOk.cons {hs:List (κ × Hd)} {vs:List (κ × List γ)} {k:κ} {h:Hd} {v:List γ} (ho:HsOk hs vs) (hv:h.2.1=v.length):HsOk ((k,h)::hs) ((k,v)::vs):=by
 refine⟨by simp[ho.len],fun q=>?_⟩
 unfold ax
 split
 ·exact hv
 ·exact ho.eq q
theorem el {β:Type} {z v:β} {k:κ} {m:List (κ × β)}:ax z ((k,v)::m) k=v:=by unfold ax;rw[if_pos O]
theorem bX {β:Type} {z v:β} {k q:κ} {m:List (κ × β)} (h:q≠k):ax z ((k,v)::m) q=ax z m q:=by
 show(if k=q then v else ax z m q)=_
 rw[if_neg (fun e=>h e.symm)]
def rM (e:TypeId) (sz:Nat) (ic:γ→List Value) (hs:List (κ × Hd)) (vs:List (κ × List γ)) (X:κ→Prop):Res where
 dom c:=∃k,¬X k∧(aO (ax cG hs k).1 (ax cG hs k).2.2 e sz (ax cG hs k).2.1 (encL ic (ax [] vs k))).dom c
 holds W:=(∀k,¬X k→(aO (ax cG hs k).1 (ax cG hs k).2.2 e sz (ax cG hs k).2.1 (encL ic (ax [] vs k))).holds W) ∧
  ∀k k',¬X k→¬X k'→k≠k'→∀c,(aO (ax cG hs k).1 (ax cG hs k).2.2 e sz (ax cG hs k).2.1 (encL ic (ax [] vs k))).dom c→¬(aO (ax cG hs k').1 (ax cG hs k').2.2 e sz (ax cG hs k').2.1 (encL ic (ax [] vs k'))).dom c
 loc W W' h hs hh:=⟨fun k hk=>Res.loc _ W W' (fun b hb=>h b ⟨k,hk,hb⟩) hs (hh.1 k hk),hh.2⟩
 inb W hh b hb:=by
  obtain⟨k,hk,hb⟩:=hb
  exact Res.inb _ W (hh.1 k hk) b hb
def lV (e:TypeId) (sz:Nat) (ic:γ→List Value) (hs:List (κ × Hd)) (vs:List (κ × List γ)):Res:=rM e sz ic hs vs (fun _=>False)
variable {w0 : World} {L : List Res} {e : TypeId} {sz : Nat} {ic : γ → List Value} {hs : List (κ × Hd)} {vs : List (κ × List γ)}
theorem rowsS_same {W:World} {k:κ} (hh:(lV e sz ic ((k,((ax cG hs k).1,(ax cG hs k).2.1,(ax cG hs k).2.2))::hs) ((k,ax [] vs k)::vs)).holds W):(lV e sz ic hs vs).holds W:=by
 have ee:∀q:κ,ax cG ((k,((ax cG hs k).1,(ax cG hs k).2.1,(ax cG hs k).2.2))::hs) q=ax cG hs q:=fun q=>by
  by_cases e1:q=k
  ·subst e1;rw[el]
  ·rw[bX e1]
 have ev:∀q:κ,ax [] ((k,ax [] vs k)::vs) q=ax [] vs q:=fun q=>by
  by_cases e1:q=k
  ·subst e1;rw[el]
  ·rw[bX e1]
 refine⟨fun q _=>?_,fun q q' _ _ hne=>?_⟩
 ·have:=hh.1 q (fun h=>h)
  rw[ee,ev]at this
  exact this
 ·have:=hh.2 q q' (fun h=>h) (fun h=>h) hne
  rw[ee,ee,ev,ev]at this
  exact this
theorem RdL.rows (ho:HsOk hs vs) (i:Nat) (hL:L[i]? = some (lV e sz ic hs vs)) (k:κ):RdL w0 L (ax cG hs k).1 (ax [] vs k).length (ax cG hs k).2.2 (encL ic (ax [] vs k)):=fun W hW =>
 ho.eq k▸eU ((hW.mem hL).1 k (fun h=>h))
theorem Ext.rowsOpen {W:World} (h:Ext w0 W L) (i:Nat) (hL:L[i]? = some (lV e sz ic hs vs)) (k:κ):Ext w0 W (L.set i (rM e sz ic hs vs (fun q=>q=k))++[aO (ax cG hs k).1 (ax cG hs k).2.2 e sz (ax cG hs k).2.1 (encL ic (ax [] vs k))]) :=
 h.split i hL _ _ (fun hh=>⟨⟨fun q _=>hh.1 q (fun h=>h),fun q q' _ _=>hh.2 q q' (fun h=>h) (fun h=>h)⟩,hh.1 k (fun h=>h)⟩) (fun b hb=>by obtain⟨q,_,hb⟩:=hb;exact⟨q,fun h=>h,hb⟩) (fun b hb=>⟨k,fun h=>h,hb⟩)
  (fun hh b hb hb'=>by obtain⟨q,hq,hb⟩:=hb;exact hh.2 q k (fun h=>h) (fun h=>h) hq b hb hb')
theorem Ext.rowsClose {W:World} {k:κ} {A:Option Addr} {n c:Nat} {v:List γ} (i:Nat) (hi:i<L.length) (h:Ext w0 W (L.set i (rM e sz ic hs vs (fun q=>q=k))++[aO A c e sz n (encL ic v)])):Ext w0 W (L.set i (lV e sz ic ((k,(A,n,c))::hs) ((k,v)::vs))):=by
 have hp:(L.set i (rM e sz ic hs vs (fun q=>q=k)))[i]? = some (rM e sz ic hs vs (fun q=>q=k)):=by simp[hi]
 have:=h.join i hp (lV e sz ic ((k,(A,n,c))::hs) ((k,v)::vs)) (fun h1 h2 h3=>?_) (fun b hb=>?_)
 ·rw[List.set_set]at this
  exact this
 ·refine⟨fun q _=>?_,fun q q' _ _ hne b hb hb'=>?_⟩
  ·by_cases e1:q=k
   ·subst e1
    rw[el,el]
    exact h2
   ·rw[bX e1,bX e1]
    exact h1.1 q e1
  ·by_cases e1:q=k <;> by_cases e2:q'=k
   ·exact hne (e1.trans e2.symm)
   ·subst e1
    rw[el,el]at hb
    rw[bX e2,bX e2]at hb'
    exact h3 b ⟨q',e2,hb'⟩ hb
   ·subst e2
    rw[el,el]at hb'
    rw[bX e1,bX e1]at hb
    exact h3 b ⟨q,e1,hb⟩ hb'
   ·rw[bX e1,bX e1]at hb
    rw[bX e2,bX e2]at hb'
    exact h1.2 q q' e1 e2 hne b hb hb'
 ·obtain⟨q,_,hb⟩:=hb
  by_cases e1:q=k
  ·subst e1
   rw[el,el]at hb
   exact .inr hb
  ·rw[bX e1,bX e1]at hb
   exact .inl ⟨q,e1,hb⟩
end
section
variable {r : Option Nat} {n : Nat} {P : Program} {ops : Array Oper} {Q : Exit → Act → World → Prop} {w0 : World} {L : List Res} {m : Nat} {tm : Nat → Value} {d : List Deferred}
variable {t : Tmp} {ty : TypeId} {pos : String} {af : Array Edge} {g : Option (Nat × Bool)} {l rest : List Oper}
variable {κ γ : Type} [DecidableEq κ] {ek : κ → Value} {ok : κ → Bool} {e : TypeId} {sz : Nat} {ic : γ → List Value} {hs : List (κ × Hd)} {vs : List (κ × List γ)}
theorem ox_makeMapS (kt:TypeId) (ek:κ→Value) (ok:κ→Bool) (e:TypeId) (sz:Nat) (ic:γ→List Value) {mt:TypeId} (hw:eE ops m tm ⟨some t,.makeMap mt none,ty,pos,af,g⟩=true)
  (h:∀b,OX r n P ops Q w0 (L++[mapV P kt ek ok hdV cG b ([]:List (κ × Hd)),lV e sz ic ([]:List (κ × Hd)) ([]:List (κ × List γ))]) rest m (upd tm t (.map (some b))) d):OX r n P ops Q w0 L (⟨some t,.makeMap mt none,ty,pos,af,g⟩::rest) m tm d :=
 jx kt ek ok hdV cG hw (fun b=>ox_perm (fun W hW=>by
  have hd0:∀c,¬(lV e sz ic ([]:List (κ × Hd)) ([]:List (κ × List γ))).dom c:=fun c hc=>by
   obtain⟨k,_,a,ha,_⟩:=hc
   cases ha
  have:=hW.snoc (p:=lV e sz ic ([]:List (κ × Hd)) ([]:List (κ × List γ))) ⟨fun k _=>⟨by simp[ax,encL,cG],.inl ⟨O,O⟩⟩,fun k k' _ _ _ c hc _=>hd0 c ⟨k,fun h=>h,hc⟩⟩ (fun c hc=>absurd hc (hd0 c)) (fun i q _ c _ hc=>hd0 c hc)
  rw[List.append_assoc]at this
  exact this) (h b))
section
variable {ρ : Operand → Value} {t' : Option Tmp}
theorem sr {kt et mt b:Nat} {x y:Operand} {k:κ} (ho:HsOk hs vs) (hM:MpL w0 L (mapV P kt ek ok hdV cG b hs)) (K:KeyE P kt ek ok) (hm:P.underlying mt=some (.map kt et)) (hz:cW P et=some (.slice none 0 0))
  (hx:ρ x=.map (some b)) (hy:ρ y=ek k) (hr:ok k=true) :
  OpY r n P ⟨t',.lookup mt x y false,ty,pos,af,g⟩ ρ (fun W=>Ext w0 W L) (fun W=>Ext w0 W L) (.slice (ax cG hs k).1 (ax [] vs k).length (ax cG hs k).2.2):=by
 have:=ga (r:=r) (n:=n) (t:=t') (ty:=ty) (pos:=pos) (af:=af) (g:=g) hM K hm hz hx hy hr
 rw[←ho.eq k]
 exact this
end
theorem ox_appendS (i:Nat) (k:κ) {ys:List γ} {x y:Operand} {u:TypeId} {B:Option Addr} {c' q:Nat} {by':Nat} {z:Value} (hu:P.underlying u=some (.slice e)) (hz:cW P e=some z) (hb:iY P e z sz by'=true)
  (ho:HsOk hs vs) (hL:L[i]? = some (lV e sz ic hs vs)) (hx:opv m tm x=.slice (ax cG hs k).1 (ax [] vs k).length (ax cG hs k).2.2) (hy:opv m tm y=.slice B q c') (hR:RdL w0 L B q c' (encL ic ys)) (hn:(encL ic ys).length=q*sz) (h1:((encL ic ys).all (·.oneCell'))=true) (hg:((ax [] vs k).length+q)*by'≤140737488355328)
  (hw:eE ops m tm ⟨some t,.call ⟨.builtin .append,#[x,y],#[u,u]⟩,ty,pos,af,g⟩=true)
  (h:∀A' c',OX r n P ops Q w0 (L.set i (lV e sz ic ((k,(A',(ax [] vs k).length+q,c'))::hs) ((k,ax [] vs k++ys)::vs))) rest m (upd tm t (.slice A' ((ax [] vs k).length+q) c')) d) :
  OX r n P ops Q w0 L (⟨some t,.call ⟨.builtin .append,#[x,y],#[u,u]⟩,ty,pos,af,g⟩::rest) m tm d:=by
 have hi:i<L.length:=(List.getElem?_eq_some_iff.1 hL).1
 rw[←ho.eq k]at hx hg h
 refine ox_perm (L':=L.set i (rM e sz ic hs vs (fun q=>q=k))++[aO (ax cG hs k).1 (ax cG hs k).2.2 e sz (ax cG hs k).2.1 (encL ic (ax [] vs k))]) (fun W hW=>hW.rowsOpen i hL k) ?_
 have hLk:(L.set i (rM e sz ic hs vs (fun q=>q=k))++[aO (ax cG hs k).1 (ax cG hs k).2.2 e sz (ax cG hs k).2.1 (encL ic (ax [] vs k))])[L.length]? = some (aO (ax cG hs k).1 (ax cG hs k).2.2 e sz (ax cG hs k).2.1 (encL ic (ax [] vs k))):=by
  rw[List.getElem?_append_right (by simp)]
  simp
 refine bg L.length hu hz hb hLk hx hy (fun W hW=>?_) hn h1 hg hw (fun A' c'=>?_)
 ·have h2:=Ext.rowsClose (k:=k) i hi hW
  have h3:=h2.tell i (p:=lV e sz ic ((k,((ax cG hs k).1,(ax cG hs k).2.1,(ax cG hs k).2.2))::hs) ((k,ax [] vs k)::vs)) (by rw[List.getElem?_set_self hi]) (q:=lV e sz ic hs vs) (fun hh=>rowsS_same hh) (fun b hb=>by
   obtain⟨q,_,hb⟩:=hb
   refine⟨q,fun h=>h,?_⟩
   by_cases e1:q=k
   ·subst e1
    rw[el,el];exact hb
   ·rw[bX e1,bX e1];exact hb)
  rw[List.set_set]at h3
  have e2:L.set i (lV e sz ic hs vs)=L:=by
   obtain⟨hi,he⟩:=List.getElem?_eq_some_iff.1 hL
   rw[←he,List.set_getElem_self]
  rw[e2]at h3
  exact hR W h3
 ·have e3:∀R:Res,(L.set i (rM e sz ic hs vs (fun q=>q=k))++[aO (ax cG hs k).1 (ax cG hs k).2.2 e sz (ax cG hs k).2.1 (encL ic (ax [] vs k))]).set L.length R=L.set i (rM e sz ic hs vs (fun q=>q=k))++[R]:=fun R=>by
   rw[List.set_append_right _ _ (by simp)]
   simp
  rw[e3]
  exact ox_perm (fun W hW=>Ext.rowsClose i hi hW) (h A' c')
end
open Go.RowKit (Below)
section
variable {κ β γ : Type} [DecidableEq κ]
variable {P : Program} {kt : TypeId} {ek : κ → Value} {ok : κ → Bool} {ev : β → Value} {z : β} {b : Nat}
theorem nP {W:World} {n:Nat} {D:DataW Value} (h:W.ownsMap P kt rawR b n D):W.ownsMap P kt rawR b (Maps.size D) D:=by
 obtain⟨es,clock,hb,F,hs,rfl⟩:=h
 exact⟨es,clock,hb,F,by simp[Maps.size,length_sorted],O⟩
theorem sA {W:World} {it n cnt:Nat} {D:DataW Value} {lf:Lit→Bool} (h:W.ranges P kt rawR b it n D lf cnt):W.ranges P kt rawR b it (Maps.size D) D lf cnt:=by
 obtain⟨es,clock,since,seen,c0,hb,F,hs,rfl,h2⟩:=h
 exact⟨es,clock,since,seen,c0,hb,F,by simp[Maps.size,length_sorted],O,h2⟩
theorem ti {W:World} {it n n' cnt:Nat} {D:DataW Value} {lf:Lit→Bool} (h:W.ranges P kt rawR b it n D lf cnt) (hn:n≤n'):W.ranges P kt rawR b it n' D lf cnt:=by
 obtain⟨es,clock,since,seen,c0,hb,F,hs,hD,h2⟩:=h
 exact⟨es,clock,since,seen,c0,hb,F,Nat.le_trans hs hn,hD,h2⟩
theorem mI {W:World} {n:Nat} {D:DataW Value} (K:KeyE P kt ek ok) (h:W.ownsMap P kt rawR b n D) {m:List (κ × β)} (h3:∀x l,ok x=true→keyOf P kt (ek x)=some l→Maps.has D l=true→bH m x=true) (h4:∀l,Maps.has D l=true→∃x,ok x=true∧keyOf P kt (ek x)=some l):Maps.size D≤m.length:=by
 obtain⟨es,rfl,hp,hk⟩:=h.entries K.keyed
 have hn:(es.map Prod.fst).Nodup:=by
  rw[List.Nodup,List.pairwise_map]
  exact hp
 have hs:∀l∈es.map Prod.fst,l∈(m.map Prod.fst).filterMap fun x=>keyOf P kt (ek x):=fun l hl=>by
  obtain⟨p,hpm,rfl⟩:=List.mem_map.1 hl
  have hh:Maps.has (.map es) p.1=true:=by
   rw[Maps.has_eq]
   exact List.any_eq_true.2 ⟨p,hpm,WideAt.sameKey_self (hk p hpm)⟩
  obtain⟨x,hx,hxl⟩:=h4 _ hh
  exact List.mem_filterMap.2 ⟨x,oI.1 (h3 x _ hx hxl hh),hxl⟩
 have h1:=lS hn hs
 have h2:=List.length_filterMap_le (fun x=>keyOf P kt (ek x)) (m.map Prod.fst)
 rw[List.length_map]at h1 h2
 have:Maps.size (.map es)=es.length:=rfl
 omega
theorem mapV_ext {W:World} (K:KeyE P kt ek ok) {m m':List (κ × β)} (h:(mapV P kt ek ok ev z b m).holds W) (he:∀q,ok q=true→ax z m q=ax z m' q∧bH m q=bH m' q):(mapV P kt ek ok ev z b m').holds W:=by
 obtain⟨D,h1,h2,h3,h4⟩:=h
 have h3':∀x l,ok x=true→keyOf P kt (ek x)=some l→D.atKey l (.held (ev z))=.held (ev (ax z m' x))∧Maps.has D l=bH m' x:=fun x l hx hl=>by
  rw[←(he x hx).1,←(he x hx).2]
  exact h3 x l hx hl
 exact⟨D,(nP h1).mono (mI K h1 (fun x l hx hl hh=>by rw[←(h3' x l hx hl).2];exact hh) h4),h2,h3',h4⟩
end
section
variable {r : Option Nat} {n : Nat} {P : Program} {ρ : Operand → Value} {w0 : World} {L : List Res}
variable {ty : TypeId} {pos : String} {af : Array Edge} {g : Option (Nat × Bool)}
variable {κ β : Type} [DecidableEq κ] {kt : TypeId} {ek : κ → Value} {ok : κ → Bool} {ev : β → Value} {z : β}
theorem sK {D:DataW Value} (K:KeyE P kt ek ok) {m:List (κ × β)} {k:κ} {kl:Lit} (hk:ok k=true) (hkl:keyOf P kt (ek k)=some kl)
  (h3:∀x l,ok x=true→keyOf P kt (ek x)=some l→D.atKey l (.held (ev z))=.held (ev (ax z m x))∧Maps.has D l=bH m x) (h4:∀l,Maps.has D l=true→∃x,ok x=true∧keyOf P kt (ek x)=some l) :
  (∀x l,ok x=true→keyOf P kt (ek x)=some l→(D.del kl).atKey l (.held (ev z))=.held (ev (ax z (nx m k) x))∧Maps.has (D.del kl) l=bH (nx m k) x)∧∀l,Maps.has (D.del kl) l=true→∃x,ok x=true∧keyOf P kt (ek x)=some l:=by
 refine⟨fun x l hx hl=>?_,fun l hl=>?_⟩
 ·rw[rA,rS]
  by_cases e:x=k
  ·subst e
   have e2:l=kl:=by rw[hl]at hkl;exact Option.some.inj hkl
   subst e2
   rw[Maps.atKey_del_same,Maps.has_del_same]
   simp
  ·have hne:l≠kl:=fun e2=>e (K.inj x k (K.keyed.inj hl (e2▸hkl)))
   rw[Maps.atKey_del_other hne,Maps.has_del_other hne,(h3 x l hx hl).1,(h3 x l hx hl).2]
   simp[e]
 ·by_cases e:l=kl
  ·subst e;rw[Maps.has_del_same]at hl;cases hl
  ·rw[Maps.has_del_other e]at hl
   exact h4 l hl
theorem y_deleteV (i:Nat) {et mt b:Nat} {m:List (κ × β)} {x y:Operand} {k:κ} (hL:L[i]? = some (mapV P kt ek ok ev z b m)) (K:KeyE P kt ek ok) (hm:P.underlying mt=some (.map kt et)) (hx:ρ x=.map (some b)) (hy:ρ y=ek k) (hr:ok k=true) :
  OpY r n P ⟨none,.call ⟨.builtin .delete,#[x,y],#[mt,kt]⟩,ty,pos,af,g⟩ ρ (fun W=>Ext w0 W L) (fun W=>Ext w0 W (L.set i (mapV P kt ek ok ev z b (nx m k)))) (.tuple #[]):=fun W hW=>by
 obtain⟨D,h1,h2,h3,h4⟩:=hW.mem hL
 obtain⟨l,hl⟩:=K.tot k hr
 obtain⟨W',hrun,hown,htn⟩:=h1.drop K.keyed hm hl ty
 obtain⟨f3,f4⟩:=sK K hr hl h3 h4
 have hg:=htn.grown
 have e1:(execOp ρ ⟨none,.call ⟨.builtin .delete,#[x,y],#[mt,kt]⟩,ty,pos,af,g⟩).run P W=.ok (.value (.tuple #[])) W':=by
  simp only[execOp,resolve,invoke,builtin]
  simp[hx,hy,hrun]
 rw[ec (by intro c h;cases h),e1]
 refine⟨O,hW.set hL _ ⟨_,(nP hown).mono (mI K hown (fun x l hx hl hh=>by rw[←(f3 x l hx hl).2];exact hh) f4),h2.del _,f3,f4⟩ hg.os hg.tape hg.output hg.size (fun c hc hn=>hg.block c hc (fun e=>hn (by cases e;rfl))) (fun c hc=>.inl hc)⟩
end
section
variable {r : Option Nat} {n : Nat} {P : Program} {ops : Array Oper} {Q : Exit → Act → World → Prop} {w0 : World} {L : List Res} {m : Nat} {tm : Nat → Value} {d : List Deferred}
variable {ty : TypeId} {pos : String} {af : Array Edge} {g : Option (Nat × Bool)} {rest : List Oper} {e : Exit}
variable {κ β : Type} [DecidableEq κ] {kt : TypeId} {ek : κ → Value} {ok : κ → Bool} {ev : β → Value} {z : β}
theorem ox_deleteR (i:Nat) {et mt b it c:Nat} {M:List (κ × β)} {left:κ→Bool} {cur:Option (Value × Value)} {x y:Operand} {k:κ} (hL:L[i]? = some (rc P kt ek ok ev z b it M left c cur)) (K:KeyE P kt ek ok) (hm:P.underlying mt=some (.map kt et)) (hx:opv m tm x=.map (some b)) (hy:opv m tm y=ek k) (hr:ok k=true) (hlk:left k=false)
  (hw:eE ops m tm ⟨none,.call ⟨.builtin .delete,#[x,y],#[mt,kt]⟩,ty,pos,af,g⟩=true)
  (h:∀c',c'≤c→OX r n P ops Q w0 (L.set i (rc P kt ek ok ev z b it (nx M k) left c' none)) rest m tm d) :
  OX r n P ops Q w0 L (⟨none,.call ⟨.builtin .delete,#[x,y],#[mt,kt]⟩,ty,pos,af,g⟩::rest) m tm d:=fun W hW=>by
 obtain⟨⟨D,lf,h1,h2,h3,h4,h5,h6⟩,_⟩:=hW.mem hL
 obtain⟨kl,hkl⟩:=K.tot k hr
 obtain⟨W',c',hrun,hown,hc',htn⟩:=h1.drop K.keyed hm hkl ty
 obtain⟨f3,f4⟩:=sK K hr hkl h3 h4
 have hg:=htn.grown
 have e1:(execOp (opv m tm) ⟨none,.call ⟨.builtin .delete,#[x,y],#[mt,kt]⟩,ty,pos,af,g⟩).run P W=.ok (.value (.tuple #[])) W':=by
  simp only[execOp,resolve,invoke,builtin]
  simp[hx,hy,hrun]
 have hlf:∀l,(lf l && !l.sameKey kl)=lf l:=fun l=>by
  by_cases hh:Maps.has D l=true
  ·obtain⟨q,hq,hql⟩:=h4 l hh
   cases hs:l.sameKey kl with
   | false=>simp
   | true =>
    have e4:=WideAt.sameKey_eq hs
    have e5:q=k:=K.inj q k (K.keyed.inj hql (e4▸hkl))
    subst e5
    rw[h5 q l hq hql,hlk]
    rfl
  ·cases hf:lf l with
   | false=>rfl
   | true=>exact absurd (h6 l hf) hh
 have hown2:W'.ranges P kt rawR b it M.length (D.del kl) lf c':=by
  have e6:(fun x=>lf x && !x.sameKey kl)=lf:=funext hlf
  rw[e6]at hown
  exact hown
 have h8:(rc P kt ek ok ev z b it (nx M k) left c' none).holds W':=by
  refine⟨⟨_,lf,ti (sA hown2) (mI K hown2.owns (fun x l hx hl hh=>by rw[←(f3 x l hx hl).2];exact hh) f4),h2.del _,f3,f4,h5,fun l hl=>?_⟩,fun q hq=>by cases hq⟩
  have h9:=h6 l hl
  by_cases e7:l=kl
  ·subst e7
   have h10:=hlf l
   rw[hl,WideAt.sameKey_self (K.keyed.key hkl)]at h10
   cases h10
  ·rw[Maps.has_del_other e7]
   exact h9
 have hE:Ext w0 W' (L.set i (rc P kt ek ok ev z b it (nx M k) left c' none)) :=
  hW.set hL _ h8 hg.os hg.tape hg.output hg.size (fun c hc hn=>hg.block c hc (fun e=>hn (.inl (by cases e;rfl)))) (fun c hc=>.inl hc)
 unfold OL
 rw[bu,if_pos hw]
 refine⟨fun _ _=>trivial,?_⟩
 show Oper.uponIn (Fw r) n P _ _ _ Q ((Oper.semAt r (act m tm d).eval _).run P W)
 rw[ec (by intro c h;cases h),dG,e1]
 exact h c' hc' W' hE
theorem mQ (i:Nat) {b it c:Nat} {M:List (κ × β)} {left:κ→Bool} {cur:Option (Value × Value)} (hL:L[i]? = some (rc P kt ek ok ev z b it M left c cur)) (h:EX Q e w0 (L.set i (rc P kt ek ok ev z b it M left c none)) m tm d):EX Q e w0 L m tm d:=fun W hW =>
 h W (hW.tell i hL (fun hh=>⟨hh.1,fun q hq=>by cases hq⟩) (fun b hb=>hb))
theorem qF (i:Nat) {b it c:Nat} {M:List (κ × β)} {left:κ→Bool} {cur:Option (Value × Value)} (hL:L[i]? = some (rc P kt ek ok ev z b it M left c cur)) (h:EX Q e w0 (L.set i (mapV P kt ek ok ev z b M)) m tm d):EX Q e w0 L m tm d:=fun W hW=>h W (hW.rangeEnd i hL)
theorem qb (i:Nat) {b:Nat} {M:List (κ × β)} (M':List (κ × β)) (K:KeyE P kt ek ok) (hL:L[i]? = some (mapV P kt ek ok ev z b M)) (he:∀q,ok q=true→ax z M q=ax z M' q∧bH M q=bH M' q) (h:EX Q e w0 (L.set i (mapV P kt ek ok ev z b M')) m tm d):EX Q e w0 L m tm d:=fun W hW =>
 h W (hW.tell i hL (fun hh=>mapV_ext K hh he) (fun b hb=>hb))
end
section
variable {P : Program} {κ β : Type} [DecidableEq κ] {kt : TypeId} {ek : κ → Value} {ok : κ → Bool} {ev : β → Value} {z : β}
theorem rngV_at {W W':World} {b it c:Nat} {M:List (κ × β)} {left:κ→Bool} {cur:Option (Value × Value)} (hh:(rc P kt ek ok ev z b it M left c cur).holds W) (hb:W'.heap[b]? = W.heap[b]?) (hi:W'.heap[it]? = W.heap[it]?):(rc P kt ek ok ev z b it M left c cur).holds W':=by
 obtain⟨⟨D,lf,⟨es,clock,since,seen,c0,hb0,F,hs,hD,hr,rest⟩,h2⟩,h3⟩:=hh
 exact⟨⟨D,lf,⟨es,clock,since,seen,c0,hb.trans hb0,F,hs,hD,hi.trans hr,rest⟩,h2⟩,fun q hq=>entry_at hr hb0 (hi.trans hr) (hb.trans hb0) (h3 q hq)⟩
theorem rngV_next {W:World} {b it c:Nat} {M:List (κ × β)} {left:κ→Bool} {cur:Option (Value × Value)} (K:KeyE P kt ek ok) (hh:(rc P kt ek ok ev z b it M left c cur).holds W) (ty:TypeId) :
  ((∀y,ok y=true→left y=false)∧(Instr.next (.pointer (some ⟨it,0,none⟩)) false ty).run P W=.ok (.tuple #[.bool false]) W) ∨
  ∃y W' c',ok y=true∧left y=true∧bH M y=true∧c'<c∧(Instr.next (.pointer (some ⟨it,0,none⟩)) false ty).run P W=.ok (.tuple #[.bool true,ek y,ev (ax z M y)]) W'∧(rc P kt ek ok ev z b it M (fun q=>left q && !decide (q=y)) c' (some (ek y,ev (ax z M y)))).holds W'∧W.grownBy W' (some it):=by
 obtain⟨⟨D,lf,hr,h2,h3,h4,h5,h6⟩,_⟩:=hh
 rcases hr.next K.keyed ty with⟨_,hl,hrun⟩|⟨key,v,kl,y0,W',k',hkey,hlk,hv,hat,hrun,hr',hk',hg,hs,hen⟩
 ·refine .inl ⟨fun y hy=>?_,hrun⟩
  obtain⟨l,hl'⟩:=K.tot y hy
  rw[←h5 y l hy hl']
  exact hl l
 ·obtain⟨y,hy,hyl⟩:=h4 kl (h6 kl hlk)
  have hke:key=ek y:=K.keyed.inj hkey hyl
  have hva:v=ev (ax z M y):=by
   have e1:=(h3 y kl hy hyl).1
   rw[hat]at e1
   have e2:y0=(.held v,[]):=(Option.some.inj hv).symm
   rw[e2]at e1
   simp only[DataW.held.injEq]at e1
   exact e1
  subst hke hva
  refine .inr ⟨y,W',k',hy,by rw[←h5 y kl hy hyl];exact hlk,by rw[←(h3 y kl hy hyl).2];exact h6 kl hlk,hk',hrun,⟨⟨D,_,hr',h2,h3,h4,fun q l hq hl=>?_,fun l hl=>?_⟩,fun q hq=>by cases hq;exact hen⟩,hg⟩
  ·show(lf l && !l.sameKey kl)=(left q && !decide (q=y))
   rw[h5 q l hq hl]
   by_cases e:q=y
   ·subst e
    have e3:l=kl:=by rw[hl]at hyl;exact Option.some.inj hyl
    rw[e3,WideAt.sameKey_self (K.keyed.key hyl)]
    simp
   ·have e3:l.sameKey kl=false:=by
     cases hsk:l.sameKey kl with
     | false=>rfl
     | true =>
      have e4:=WideAt.sameKey_eq hsk
      exact absurd (K.inj q y (K.keyed.inj hl (e4▸hyl))) e
    rw[e3]
    simp[e]
  ·have hl2:(lf l && !l.sameKey kl)=true:=hl
   rw[Bool.and_eq_true]at hl2
   exact h6 l hl2.1
def rngA (w0:World) (P:Program) (kt:TypeId) (ek:κ→Value) (ok:κ→Bool) (ev:β→Value) (z:β) (b it:Nat) (M:List (κ × β)) (left:κ→Bool) (c:Nat) (cur:Option (Value × Value)):Res where
 dom x:=x=it
 holds W:=it<W.heap.size∧∀W',W'.heap[it]? = W.heap[it]?→W'.heap[b]? = w0.heap[b]?→(rc P kt ek ok ev z b it M left c cur).holds W'
 loc W W' h hs hh:=⟨Nat.lt_of_lt_of_le hh.1 hs,fun W2 h1 h2=>hh.2 W2 (h1.trans (h it O)) h2⟩
 inb W hh x hx:=by
  have hx':x=it:=hx
  rw[hx']
  exact hh.1
theorem Cy.rngA {B:Nat} {w0:World} {b it c:Nat} {M:List (κ × β)} {left:κ→Bool} {cur:Option (Value × Value)} (h:it<B):Cy B (rngA w0 P kt ek ok ev z b it M left c cur):=fun W x _ hx=>by
 have hx':x=it:=hx
 exact .inl (by omega)
end
section
variable {r : Option Nat} {n : Nat} {P : Program} {ops : Array Oper} {Q : Exit → Act → World → Prop} {w0 : World} {L : List Res} {m : Nat} {tm : Nat → Value} {d : List Deferred}
variable {t : Tmp} {ty : TypeId} {pos : String} {af : Array Edge} {g : Option (Nat × Bool)} {rest : List Oper} {e : Exit}
variable {κ β : Type} [DecidableEq κ] {kt : TypeId} {ek : κ → Value} {ok : κ → Bool} {ev : β → Value} {z : β}
theorem ox_rangeA {mt et b:Nat} {M:List (κ × β)} {x:Operand} (hM:(mapV P kt ek ok ev z b M).holds w0) (K:KeyE P kt ek ok) (hm:P.underlying mt=some (.map kt et)) (hx:opv m tm x=.map (some b))
  (hw:eE ops m tm ⟨some t,.range mt x,ty,pos,af,g⟩=true)
  (h:∀it k,k≤M.length→OX r n P ops Q w0 (L++[rngA w0 P kt ek ok ev z b it M (fun y=>bH M y) k none]) rest m (upd tm t (.pointer (some ⟨it,0,none⟩))) d) :
  OX r n P ops Q w0 L (⟨some t,.range mt x,ty,pos,af,g⟩::rest) m tm d :=
 jt hw (by intro c h;cases h) fun W hW=>by
  have hb0:b<w0.heap.size:=(mapV P kt ek ok ev z b M).inb w0 hM b O
  have hMW:=mapV.later hM hW.below
  obtain⟨D,h1,h2,h3,h4⟩:=hMW
  obtain⟨W',hrun,hr,hg,hs⟩:=h1.range K.keyed hm
  have hsz:=hW.size
  have hbW:W'.heap[b]? = w0.heap[b]?:=by rw[hg.block b (by omega) (by simp),hW.below.block b hb0]
  have hrv:(rc P kt ek ok ev z b W.heap.size M (fun y=>bH M y) (Maps.size D) none).holds W':=⟨⟨D,Maps.has D,hr,h2,h3,h4,fun y l hy hl=>(h3 y l hy hl).2,fun _ h=>h⟩,fun q hq=>by cases hq⟩
  refine⟨_,W',_,by simp[execOp,hx,hrun],?_,h W.heap.size (Maps.size D) h1.size_le⟩
  have h7:Ext w0 W' L:=hW.keep (hW.below.trans ⟨hg.os,hg.tape,hg.output,hg.size,fun c hc=>hg.block c (by omega) (by simp)⟩) hg.size (fun i p hp c hd=>hg.block c (p.inb W (hW.all i p hp) c hd) (by simp))
  refine h7.snoc ⟨by rw[hs];exact Nat.lt_succ_self _,fun W2 e1 e2=>rngV_at hrv (e2.trans hbW.symm) e1⟩ (fun c hc=>?_) (fun i q hq c hc hc'=>?_)
  ·have hc':c=W.heap.size:=hc
   omega
  ·have hc'':c=W.heap.size:=hc'
   have:=q.inb W (hW.all i q hq) c hc
   omega
theorem ox_nextA (i:Nat) {b it k:Nat} {M:List (κ × β)} {left:κ→Bool} {cur:Option (Value × Value)} {x:Operand} (hb0:b<w0.heap.size) (hL:L[i]? = some (rngA w0 P kt ek ok ev z b it M left k cur)) (K:KeyE P kt ek ok) (hx:opv m tm x=.pointer (some ⟨it,0,none⟩))
  (hw:eE ops m tm ⟨some t,.next x false,ty,pos,af,g⟩=true)
  (h0:(∀y,ok y=true→left y=false)→OX r n P ops Q w0 L rest m (upd tm t (.tuple #[.bool false])) d)
  (h1:∀y k',ok y=true→left y=true→bH M y=true→k'<k→OX r n P ops Q w0 (L.set i (rngA w0 P kt ek ok ev z b it M (fun q=>left q && !decide (q=y)) k' (some (ek y,ev (ax z M y))))) rest m (upd tm t (.tuple #[.bool true,ek y,ev (ax z M y)])) d) :
  OX r n P ops Q w0 L (⟨some t,.next x false,ty,pos,af,g⟩::rest) m tm d :=
 jt hw (by intro c h;cases h) fun W hW=>by
  have hh:=hW.mem hL
  have hbW:W.heap[b]? = w0.heap[b]?:=hW.below.block b hb0
  rcases rngV_next K (hh.2 W O hbW) ty with⟨hno,hrun⟩|⟨y,W',k',hy,hly,hM,hk',hrun,hrv,hg⟩
  ·exact⟨_,W,L,by simp[execOp,hx,hrun],hW,h0 hno⟩
  ·have hne:b≠it:=fun e=>by
    have:=hW.new i _ hL it O
    omega
   have hbW':W'.heap[b]? = w0.heap[b]?:=by rw[hg.block b (by have:=hW.size;omega) (by simpa using fun e=>hne e),hbW]
   refine⟨_,W',_,by simp[execOp,hx,hrun],?_,h1 y k' hy hly hM hk'⟩
   exact hW.set hL _ ⟨Nat.lt_of_lt_of_le hh.1 hg.size,fun W2 e1 e2=>rngV_at hrv (e2.trans hbW'.symm) e1⟩ hg.os hg.tape hg.output hg.size (fun c hc hn=>hg.block c hc (fun e=>hn (by cases e;rfl))) (fun c hc=>.inl hc)
theorem qi (i:Nat) {b it c:Nat} {M:List (κ × β)} {left:κ→Bool} {cur:Option (Value × Value)} (hL:L[i]? = some (rngA w0 P kt ek ok ev z b it M left c cur)) (h:EX Q e w0 (L.set i (rngA w0 P kt ek ok ev z b it M left c none)) m tm d):EX Q e w0 L m tm d:=fun W hW =>
 h W (hW.tell i hL (fun hh=>⟨hh.1,fun W2 e1 e2=>⟨(hh.2 W2 e1 e2).1,fun q hq=>by cases hq⟩⟩) (fun b hb=>hb))
end
section
variable {r : Option Nat} {n : Nat} {P : Program} {ρ : Operand → Value} {w0 : World} {L : List Res}
variable {t : Option Tmp} {ty : TypeId} {pos : String} {af : Array Edge} {g : Option (Nat × Bool)}
variable {κ β : Type} [DecidableEq κ] {kt : TypeId} {ek : κ → Value} {ok : κ → Bool} {ev : β → Value} {z : β}
theorem y_entryA (i:Nat) {b it k:Nat} {M:List (κ × β)} {left:κ→Bool} {a c:Value} {x:Operand} (hb0:b<w0.heap.size) (hL:L[i]? = some (rngA w0 P kt ek ok ev z b it M left k (some (a,c)))) (hx:ρ x=.pointer (some ⟨it,0,none⟩)) :
  OpY r n P ⟨t,.entry x,ty,pos,af,g⟩ ρ (fun W=>Ext w0 W L) (fun W=>Ext w0 W L) (.tuple #[a,c]) :=
 bk (by intro c h;cases h) (fun W hW=>by
  obtain⟨_,h⟩:=(hW.mem hL).2 W O (hW.below.block b hb0)
  simp[execOp,hx,h _ O])
end
section
variable {κ β γ : Type} [DecidableEq κ] {ok : κ → Bool}
structure UnionI (ok:κ→Bool) (z v:γ) (M:List (κ × β)) (m0:List (κ × γ)) (s:Nat × (κ→Bool) × List (κ × γ)):Prop where
 len:s.2.2.length+s.1≤m0.length+M.length
 val:∀q,ok q=true→ax z s.2.2 q=(if(bH M q && !s.2.1 q)=true then v else ax z m0 q)∧bH s.2.2 q=(bH M q && !s.2.1 q||bH m0 q)
theorem UnionI.start {z v:γ} {M:List (κ × β)} {m0:List (κ × γ)} {k:Nat} (hk:k≤M.length):UnionI ok z v M m0 (k,(fun y=>bH M y),m0) :=
 ⟨by simp;omega,fun q _=>by simp⟩
theorem UnionI.step {z v:γ} {M:List (κ × β)} {m0:List (κ × γ)} {s:Nat × (κ→Bool) × List (κ × γ)} (h:UnionI ok z v M m0 s) {y:κ} {k:Nat} (hy:ok y=true) (hM:bH M y=true) (hk:k<s.1) :
  UnionI ok z v M m0 (k,(fun q=>s.2.1 q && !decide (q=y)),(y,v)::s.2.2):=by
 refine⟨by have:=h.len;simp only[List.length_cons];omega,fun q hq=>?_⟩
 obtain⟨h1,h2⟩:=h.val q hq
 simp only[iF,iz,h1,h2]
 by_cases e:y=q
 ·subst e
  simp[hM]
 ·have e':¬q=y:=fun h=>e h.symm
  simp[e,e']
theorem UnionI.room {z v:γ} {M:List (κ × β)} {m0:List (κ × γ)} {s:Nat × (κ→Bool) × List (κ × γ)} (h:UnionI ok z v M m0 s) {k:Nat} (hk:k<s.1) (hg:m0.length+M.length≤1000000):s.2.2.length<1000000000:=by have:=h.len;omega
theorem UnionI.done {z v:γ} {M:List (κ × β)} {m0:List (κ × γ)} {s:Nat × (κ→Bool) × List (κ × γ)} (h:UnionI ok z v M m0 s) (hno:∀y,ok y=true→s.2.1 y=false):∀q,ok q=true→ax z s.2.2 q=ax z (lk v M m0) q∧bH s.2.2 q=bH (lk v M m0) q:=fun q hq=>by
 obtain⟨h1,h2⟩:=h.val q hq
 rw[ri,mhas_union,h1,h2,hno q hq]
 simp
structure DiffI (ok:κ→Bool) (z:γ) (M:List (κ × β)) (m0:List (κ × γ)) (s:Nat × (κ→Bool) × List (κ × γ)):Prop where
 val:∀q,ok q=true→ax z s.2.2 q=(if(bH M q && !s.2.1 q)=true then z else ax z m0 q)∧bH s.2.2 q=(!(bH M q && !s.2.1 q)&&bH m0 q)
theorem DiffI.start {z:γ} {M:List (κ × β)} {m0:List (κ × γ)} {k:Nat}:DiffI ok z M m0 (k,(fun y=>bH M y),m0):=⟨fun q _=>by simp⟩
theorem DiffI.step {z:γ} {M:List (κ × β)} {m0:List (κ × γ)} {s:Nat × (κ→Bool) × List (κ × γ)} (h:DiffI ok z M m0 s) {y:κ} {k:Nat} (hy:ok y=true) (hM:bH M y=true) :
  DiffI ok z M m0 (k,(fun q=>s.2.1 q && !decide (q=y)),nx s.2.2 y):=by
 refine⟨fun q hq=>?_⟩
 obtain⟨h1,h2⟩:=h.val q hq
 simp only[rA,rS,h1,h2]
 by_cases e:q=y
 ·subst e;simp[hM]
 ·simp[e]
theorem DiffI.done {z:γ} {M:List (κ × β)} {m0:List (κ × γ)} {s:Nat × (κ→Bool) × List (κ × γ)} (h:DiffI ok z M m0 s) (hno:∀y,ok y=true→s.2.1 y=false):∀q,ok q=true→ax z s.2.2 q=ax z (tc M m0) q∧bH s.2.2 q=bH (tc M m0) q:=fun q hq=>by
 obtain⟨h1,h2⟩:=h.val q hq
 unfold tc
 rw[l6 z (fun x => !bH M x),nh (fun x => !bH M x),h1,h2,hno q hq]
 cases bH M q <;> simp
structure DropI (ok:κ→Bool) (z:β) (c:κ→Bool) (M:List (κ × β)) (s:Nat × (κ→Bool) × List (κ × β)):Prop where
 val:∀q,ok q=true→ax z s.2.2 q=(if(bH M q && !s.2.1 q&&c q)=true then z else ax z M q)∧bH s.2.2 q=(!(bH M q && !s.2.1 q&&c q)&&bH M q)
theorem DropI.start {z:β} {c:κ→Bool} {M:List (κ × β)} {k:Nat}:DropI ok z c M (k,(fun y=>bH M y),M):=⟨fun q _=>by simp⟩
theorem DropI.keep {z:β} {c:κ→Bool} {M:List (κ × β)} {s:Nat × (κ→Bool) × List (κ × β)} (h:DropI ok z c M s) {y:κ} {k:Nat} (hc:c y=false):DropI ok z c M (k,(fun q=>s.2.1 q && !decide (q=y)),s.2.2):=by
 refine⟨fun q hq=>?_⟩
 obtain⟨h1,h2⟩:=h.val q hq
 simp only[h1,h2]
 by_cases e:q=y
 ·subst e;simp[hc]
 ·simp[e]
theorem DropI.del {z:β} {c:κ→Bool} {M:List (κ × β)} {s:Nat × (κ→Bool) × List (κ × β)} (h:DropI ok z c M s) {y:κ} {k:Nat} (hc:c y=true) (hM:bH s.2.2 y=true):DropI ok z c M (k,(fun q=>s.2.1 q && !decide (q=y)),nx s.2.2 y):=by
 refine⟨fun q hq=>?_⟩
 obtain⟨h1,h2⟩:=h.val q hq
 have hMy:q=y→bH M q=true:=fun e=>by
  subst e
  rw[hM]at h2
  have:=h2.symm
  rw[Bool.and_eq_true]at this
  exact this.2
 simp only[rA,rS,h1,h2]
 by_cases e:q=y
 ·have:=hMy e
  subst e;simp[hc,this]
 ·simp[e]
theorem DropI.done {z:β} {c:κ→Bool} {M:List (κ × β)} {s:Nat × (κ→Bool) × List (κ × β)} (h:DropI ok z c M s) (hno:∀y,ok y=true→s.2.1 y=false):∀q,ok q=true→ax z s.2.2 q=ax z (M.filter fun p => !c p.1) q∧bH s.2.2 q=bH (M.filter fun p => !c p.1) q:=fun q hq=>by
 obtain⟨h1,h2⟩:=h.val q hq
 rw[l6 z (fun x => !c x),nh (fun x => !c x),h1,h2,hno q hq]
 cases hm:bH M q with
 | true=>cases c q <;> simp
 | false=>rw[nM hm];cases c q <;> simp
structure CollI (ok:κ→Bool) (M:List (κ × Bool)) (s:Nat × (κ→Bool) × List κ):Prop where
 len:s.2.2.length+s.1≤M.length
 nd:s.2.2.Nodup
 val:∀q,q∈s.2.2↔ok q=true∧bH M q=true∧s.2.1 q=false∧ax false M q=true
theorem CollI.start {M:List (κ × Bool)} {k:Nat} (hk:k≤M.length):CollI ok M (k,(fun y=>bH M y),[]) :=
 ⟨by simpa using hk,List.Pairwise.nil,fun q=>by
  simp only[List.not_mem_nil,false_iff]
  intro h
  rw[h.2.1]at h
  exact absurd h.2.2.1 (by simp)⟩
theorem CollI.keep {M:List (κ × Bool)} {s:Nat × (κ→Bool) × List κ} (h:CollI ok M s) {y:κ} {k:Nat} (hk:k<s.1) (hv:ax false M y=false):CollI ok M (k,(fun q=>s.2.1 q && !decide (q=y)),s.2.2):=by
 refine⟨by have:=h.len;simp only;omega,h.nd,fun q=>?_⟩
 rw[h.val q]
 by_cases e:q=y
 ·subst e;simp[hv]
 ·simp[e]
theorem CollI.app {M:List (κ × Bool)} {s:Nat × (κ→Bool) × List κ} (h:CollI ok M s) {y:κ} {k:Nat} (hy:ok y=true) (hly:s.2.1 y=true) (hM:bH M y=true) (hk:k<s.1) (hv:ax false M y=true):CollI ok M (k,(fun q=>s.2.1 q && !decide (q=y)),s.2.2++[y]):=by
 refine⟨by have:=h.len;simp only[List.length_append,List.length_cons,List.length_nil];omega,?_,fun q=>?_⟩
 ·rw[List.nodup_append]
  refine⟨h.nd,by simp,fun a ha b hb=>?_⟩
  rw[List.mem_singleton.1 hb]
  intro e
  subst e
  have:=((h.val a).1 ha).2.2.1
  rw[hly]at this
  cases this
 ·rw[List.mem_append,h.val q,List.mem_singleton]
  by_cases e:q=y
  ·subst e;simp[hy,hM,hv]
  ·simp[e]
end
open Go.RowKit (Below)
section
variable {β γ : Type} {sel : β → List γ} {ic : γ → List Value} {wb : World} {Hb Hb' : World → Prop}
def Pv (ic:γ→List Value) (wb:World) (Hb:World→Prop) (h:Hd) (cs:List γ):Prop:=∀W,Below wb.heap.size wb W→Hb W→Rd W h.1 h.2.1 h.2.2 (encL ic cs)
def PvL (sel:β→List γ) (ic:γ→List Value) (wb:World) (Hb:World→Prop) (ys:List (Hd × β)):Prop:=∀y∈ys,Pv ic wb Hb y.1 (sel y.2)
theorem Pv.of_rd {W:World} {A:Option Addr} {n c:Nat} {cs:List γ} (h:Rd W A n c (encL ic cs)):Pv ic W (fun _=>True) (A,n,c) cs:=fun W' hb _=>h.later hb
theorem Pv.nil {cs:List γ} (h:cs=[]):Pv ic wb Hb (none,0,0) cs:=fun _ _ _=>Rd.nil (by subst h;rfl)
theorem Pv.cut {cells:γ→List Value} {sz:Nat} (hc:∀x,(cells x).length=sz) {A:Option Addr} {n c:Nat} {xs:List γ} {lo hi:Int} (_h0:0≤lo) (h1:lo≤hi) (h2:hi≤(n:Int)) (_hn:n=xs.length) (hp:Pv cells wb Hb (A,n,c) xs) :
  Pv cells wb Hb ((if c=lo.toNat then A else A.map (fun x=>x.add (lo.toNat*sz))),hi.toNat-lo.toNat,c-lo.toNat) ((xs.drop lo.toNat).take (hi.toNat-lo.toNat)):=fun W hb hh=>by
 have:=(hp W hb hh).cut (sz:=sz) (l:=lo.toNat) (h:=hi.toNat) (by omega) (by show hi.toNat≤n;omega)
 rw[jU hc,iP hc]at this
 exact this
theorem Pv.mono {h:Hd} {cs:List γ} (hp:Pv ic wb Hb h cs) (hi:∀W,Below wb.heap.size wb W→Hb' W→Hb W):Pv ic wb Hb' h cs:=fun W hb hh=>hp W hb (hi W hb hh)
theorem PvL.of_nest {W:World} {ys:List (Hd × β)} {xs:List β} (h:NestW W sel ic ys xs):PvL sel ic W (fun _=>True) ys:=fun y hy W' hb _=>(h.inn y hy).later hb
theorem PvL.mono {ys:List (Hd × β)} (hp:PvL sel ic wb Hb ys) (hi:∀W,Below wb.heap.size wb W→Hb' W→Hb W):PvL sel ic wb Hb' ys:=fun y hy=>(hp y hy).mono hi
theorem PvL.nil:PvL sel ic wb Hb []:=fun y hy=>by cases hy
theorem PvL.cons {y:Hd × β} {ys:List (Hd × β)} (h1:Pv ic wb Hb y.1 (sel y.2)) (h2:PvL sel ic wb Hb ys):PvL sel ic wb Hb (y::ys):=fun z hz=>by
 rcases List.mem_cons.1 hz with rfl|hz
 ·exact h1
 ·exact h2 z hz
theorem PvL.app {ys zs:List (Hd × β)} (h1:PvL sel ic wb Hb ys) (h2:PvL sel ic wb Hb zs):PvL sel ic wb Hb (ys++zs):=fun z hz=>by
 rcases List.mem_append.1 hz with hz|hz
 ·exact h1 z hz
 ·exact h2 z hz
theorem PvL.set {y:Hd × β} {ys:List (Hd × β)} (j:Nat) (h:PvL sel ic wb Hb ys) (hv:Pv ic wb Hb y.1 (sel y.2)):PvL sel ic wb Hb (ys.set j y):=fun z hz=>by
 rcases List.mem_or_eq_of_mem_set hz with hz|rfl
 ·exact h z hz
 ·exact hv
theorem NestP.nil:NestP sel ([]:List (Hd × β)) []:=⟨O,fun y hy=>by cases hy⟩
theorem NestP.zip {ys:List (Hd × β)} {xs:List β} (h:NestP sel ys xs):ys=(ys.map Prod.fst).zip xs:=by
 rw[←h.eq]
 clear h
 induction ys with
 | nil=>rfl
 | cons y ys ih =>
  rw[List.map_cons,List.map_cons,List.zip_cons_cons,←ih]
theorem NestP.cons {y:Hd × β} {ys:List (Hd × β)} {xs:List β} (h1:y.1.2.1=(sel y.2).length) (h2:NestP sel ys xs):NestP sel (y::ys) (y.2::xs):=⟨by simp[h2.eq],fun z hz=>by
 rcases List.mem_cons.1 hz with rfl|hz
 ·exact h1
 ·exact h2.ln z hz⟩
theorem NestP.app {ys zs:List (Hd × β)} {xs us:List β} (h1:NestP sel ys xs) (h2:NestP sel zs us):NestP sel (ys++zs) (xs++us):=⟨by rw[List.map_append,h1.eq,h2.eq],fun z hz=>by
 rcases List.mem_append.1 hz with hz|hz
 ·exact h1.ln z hz
 ·exact h2.ln z hz⟩
theorem NestP.set {y:Hd × β} {ys:List (Hd × β)} {xs:List β} (j:Nat) (h:NestP sel ys xs) (hv:y.1.2.1=(sel y.2).length) {x:β} (hx:y.2=x):NestP sel (ys.set j y) (xs.set j x):=⟨by rw[List.map_set,h.eq,hx],fun z hz=>by
 rcases List.mem_or_eq_of_mem_set hz with hz|rfl
 ·exact h.ln z hz
 ·exact hv⟩
theorem PvL.nestL {w0:World} {L:List Res} {ys:List (Hd × β)} {xs:List β} (hP:NestP sel ys xs) (hv:PvL sel ic wb Hb ys) (hB:∀W,Ext w0 W L→Below wb.heap.size wb W∧Hb W):NestL w0 L sel ic ys xs:=⟨hP,fun y hy W hW=>hv y hy W (hB W hW).1 (hB W hW).2⟩
variable [Inhabited β] [Inhabited γ]
omit [Inhabited γ] in
theorem PvL.get {ys:List (Hd × β)} {xs:List β} (h:PvL sel ic wb Hb ys) (hP:NestP sel ys xs) {i:Int} (h0:0≤i) (h1:i<(xs.length:Int)):Pv ic wb Hb ((rdL ys i).1.1,(sel (rdL xs i)).length,(rdL ys i).1.2.2) (sel (rdL xs i)):=by
 have hl:xs.length=ys.length:=hP.hn O
 have h2:=hP.len h0 h1
 have h3:=h _ (pr (xs:=ys) h0 (by omega))
 rw[hP.snd i]at h3
 intro W hb hh
 have h4:=h3 W hb hh
 rw[h2]at h4
 exact h4
end
section
variable {w0 : World} {L : List Res}
def pL (p q:Res):Res where
 dom b:=p.dom b∨q.dom b
 holds W:=p.holds W∧q.holds W∧∀b,p.dom b→¬q.dom b
 loc W W' h hs hh:=⟨p.loc W W' (fun b hb=>h b (.inl hb)) hs hh.1,q.loc W W' (fun b hb=>h b (.inr hb)) hs hh.2.1,hh.2.2⟩
 inb W hh b hb:=by
  rcases hb with hb|hb
  ·exact p.inb W hh.1 b hb
  ·exact q.inb W hh.2.1 b hb
theorem Ext.joinF {W:World} (h:Ext w0 W L) (i j:Nat) (hij:i≠j) {p q:Res} (hp:L[i]? = some p) (hq:L[j]? = some q):Ext w0 W ((L.set j noR).set i (pL p q)):=by
 have hget:∀(k:Nat) (s:Res),((L.set j noR).set i (pL p q))[k]? = some s→(k=i∧s=pL p q)∨s=noR∨(k≠i∧k≠j∧L[k]? = some s):=by
  intro k s hk
  by_cases e:i=k
  ·subst e
   have hi:i<(L.set j noR).length:=by rw[List.length_set];exact(List.getElem?_eq_some_iff.1 hp).1
   rw[List.getElem?_set_self hi]at hk
   cases hk
   exact .inl ⟨O,O⟩
  ·rw[List.getElem?_set_ne e]at hk
   by_cases e2:j=k
   ·subst e2
    rw[List.getElem?_set_self (List.getElem?_eq_some_iff.1 hq).1]at hk
    cases hk
    exact .inr (.inl O)
   ·rw[List.getElem?_set_ne e2]at hk
    exact .inr (.inr ⟨fun h=>e h.symm,fun h=>e2 h.symm,hk⟩)
 refine⟨h.below,fun k s hk=>?_,fun k s hk b hb=>?_,fun k l s s' hk hl hne b hb hb'=>?_⟩
 ·rcases hget k s hk with⟨_,rfl⟩|rfl|⟨_,_,h3⟩
  ·exact⟨h.all i p hp,h.all j q hq,h.sep i j p q hp hq hij⟩
  ·trivial
  ·exact h.all k _ h3
 ·rcases hget k s hk with⟨_,rfl⟩|rfl|⟨_,_,h3⟩
  ·rcases hb with hb|hb
   ·exact h.new i p hp b hb
   ·exact h.new j q hq b hb
  ·exact hb.elim
  ·exact h.new k _ h3 b hb
 ·rcases hget k s hk with⟨a1,rfl⟩|rfl|⟨a1,a2,a3⟩
  ·rcases hget l s' hl with⟨b1,rfl⟩|rfl|⟨b1,b2,b3⟩
   ·exact hne (a1.trans b1.symm)
   ·exact hb'.elim
   ·rcases hb with hb|hb
    ·exact h.sep i l p s' hp b3 (fun e=>b1 e.symm) b hb hb'
    ·exact h.sep j l q s' hq b3 (fun e=>b2 e.symm) b hb hb'
  ·exact hb.elim
  ·rcases hget l s' hl with⟨b1,rfl⟩|rfl|⟨b1,b2,b3⟩
   ·rcases hb' with hb' | hb'
    ·exact h.sep k i s p a3 hp a1 b hb hb'
    ·exact h.sep k j s q a3 hq a2 b hb hb'
   ·exact hb'.elim
   ·exact h.sep k l s s' a3 b3 hne b hb hb'
theorem Ext.addNo {W:World} (h:Ext w0 W L):Ext w0 W (L++[noR]):=h.snoc (p:=noR) trivial (fun b hb=>hb.elim) (fun i q _ b _ hb=>hb.elim)
def ra (p:Prop):Res where
 dom _:=False
 holds _:=p
 loc _ _ _ _ h:=h
 inb _ _ _ hb:=hb.elim
theorem Ext.addFact {W:World} (h:Ext w0 W L) {p:Prop} (hp:p):Ext w0 W (L++[ra p]):=h.snoc (p:=ra p) hp (fun b hb=>hb.elim) (fun i q _ b _ hb=>hb.elim)
theorem Pv.rdl {γ:Type} {A:Option Addr} {n c:Nat} {cs:List γ} {ic:γ→List Value} {wb:World} {Hb:World→Prop} (h:Pv ic wb Hb (A,n,c) cs) (hh:∀W,Ext w0 W L→Below wb.heap.size wb W∧Hb W):RdL w0 L A n c (encL ic cs):=fun W hW=>h W (hh W hW).1 (hh W hW).2
theorem Ext.pickL {W:World} (h:Ext w0 W L) (is:List Nat) {ps:List Res} (hnd:decide is.Nodup=true) (hp:is.map (fun i=>L[i]?)=ps.map some):Ext w0 W ps:=by
 have hnd:=of_decide_eq_true hnd
 have hget:∀(k:Nat) (s:Res),ps[k]? = some s→∃i,is[k]? = some i∧L[i]? = some s:=by
  intro k s hk
  have h1:(ps.map some)[k]? = some (some s):=by rw[List.getElem?_map,hk];rfl
  rw[←hp,List.getElem?_map]at h1
  cases hi:is[k]? with
  | none=>rw[hi]at h1;cases h1
  | some i=>rw[hi]at h1;exact⟨i,O,by simpa using h1⟩
 refine⟨h.below,fun k s hk=>?_,fun k s hk=>?_,fun k l s s' hk hl hne=>?_⟩
 ·obtain⟨i,_,h2⟩:=hget k s hk;exact h.all i s h2
 ·obtain⟨i,_,h2⟩:=hget k s hk;exact h.new i s h2
 ·obtain⟨i,h1,h2⟩:=hget k s hk
  obtain⟨j,h3,h4⟩:=hget l s' hl
  refine h.sep i j s s' h2 h4 (fun e=>?_)
  subst e
  obtain⟨a1,a2⟩:=List.getElem?_eq_some_iff.1 h1
  obtain⟨b1,b2⟩:=List.getElem?_eq_some_iff.1 h3
  have hpw:=List.pairwise_iff_getElem.1 hnd
  rcases Nat.lt_trichotomy k l with h5|h5|h5
  ·exact hpw k l a1 b1 h5 (a2.trans b2.symm)
  ·exact hne h5
  ·exact hpw l k b1 a1 h5 (b2.trans a2.symm)
end
section
variable {r : Option Nat} {n : Nat} {P : Program} {ops : Array Oper} {Q : Exit → Act → World → Prop} {w0 : World} {L : List Res} {m : Nat} {tm : Nat → Value} {d : List Deferred} {l : List Oper} {e : Exit}
theorem rg {p:Prop} (hp:p) (h:OX r n P ops Q w0 (L++[ra p]) l m tm d):OX r n P ops Q w0 L l m tm d:=fun W hW=>h W (hW.addFact hp)
theorem ex_fact (i:Nat) {e:Exit} {Q:Exit→Act→World→Prop} {p:Prop} (hL:L[i]? = some (ra p)) (h:p→EX Q e w0 L m tm d):EX Q e w0 L m tm d:=fun W hW=>h (hW.all i _ hL) W hW
theorem ox_addNo (h:OX r n P ops Q w0 (L++[noR]) l m tm d):OX r n P ops Q w0 L l m tm d:=fun W hW=>h W hW.addNo
theorem jC {c:Code} (h:CX r n P c Q w0 (L++[noR]) m tm d):CX r n P c Q w0 L m tm d:=fun W hW=>h W hW.addNo
theorem cx_joinF {c:Code} (i j:Nat) (hij:i≠j) {p q:Res} (hp:L[i]? = some p) (hq:L[j]? = some q) (h:CX r n P c Q w0 ((L.set j noR).set i (pL p q)) m tm d):CX r n P c Q w0 L m tm d:=fun W hW=>h W (hW.joinF i j hij hp hq)
theorem mb (i j:Nat) (hij:i≠j) {p q:Res} (hp:L[i]? = some p) (hq:L[j]? = some q) (h:OX r n P ops Q w0 ((L.set j noR).set i (pL p q)) l m tm d):OX r n P ops Q w0 L l m tm d:=fun W hW=>h W (hW.joinF i j hij hp hq)
end
section
variable {r : Option Nat} {n : Nat} {P : Program} {ρ : Operand → Value} {w0 : World} {L : List Res}
variable {t : Option Tmp} {ty : TypeId} {pos : String} {af : Array Edge} {g : Option (Nat × Bool)}
variable {A : Option Addr} {k c : Nat} {cs : List Value}
theorem y_cut3 {x a b d:Operand} {u e:TypeId} {sz:Nat} {q q' q2:IntKind} {lo hi mx:Int} (hs:r8 P u=some (e,sz)) (h0:0≤lo) (h1:lo≤hi) (h2:hi≤mx) (h3:mx≤k) (hR:RdL w0 L A k c cs) (hx:ρ x=.slice A k c) (ha:ρ a=.int q lo) (hb:ρ b=.int q' hi) (hd:ρ d=.int q2 mx) :
  OpY r n P ⟨t,.slice u x (some a) (some b) (some d),ty,pos,af,g⟩ ρ (fun W=>Ext w0 W L) (fun W=>Ext w0 W L) (.slice (if mx.toNat=lo.toNat then A else A.map (·.add (lo.toNat*sz))) (hi.toNat-lo.toNat) (mx.toNat-lo.toNat)) :=
 bk (by intro c h;cases h) (fun W hW=>by
  obtain⟨hu',hsz⟩:=oK hs
  have hcap:=(hR W hW).cap
  have h4:mx≤(c:Int):=by omega
  simp only[execOp,hx,ha,hb,hd,Option.map_some,Sem.run_bind,run_sliceAt_slice W u _ _ _ _ hu',run_slice_lhm W u A k c hu' q q' q2 lo hi mx h0 h1 h2 h4,hsz,Result.andThen_ok,sliced]
  rfl)
theorem Rd.cut3 {W:World} {l h m sz:Nat} (hr:Rd W A k c cs) (h1:l≤h) (h2:h≤m) (h3:m≤k):Rd W (if m=l then A else A.map (·.add (l*sz))) (h-l) (m-l) ((cs.drop (l*sz)).take ((h-l)*sz)):=by
 have hc:=hr.cut (sz:=sz) h1 (Nat.le_trans h2 h3)
 have hcap:=hr.cap
 refine⟨fun j v hj=>?_,by omega⟩
 by_cases hm:m=l
 ·have hh:h-l=0:=by omega
  rw[hh,Nat.zero_mul,List.take_zero]at hj
  simp at hj
 ·rw[if_neg hm]
  have:=hc.cell j v hj
  by_cases hcl:c=l
  ·omega
  ·rw[if_neg hcl]at this
   exact this
theorem RdL.cut3 {α:Type} {cells:α→List Value} {sz:Nat} (hc:∀x,(cells x).length=sz) {xs:List α} {lo hi mx:Int} (h:RdL w0 L A k c (encL cells xs)) (h0:0≤lo) (h1:lo≤hi) (h2:hi≤mx) (h3:mx≤(k:Int)) :
  RdL w0 L (if mx.toNat=lo.toNat then A else A.map (fun x=>x.add (lo.toNat*sz))) (hi.toNat-lo.toNat) (mx.toNat-lo.toNat) (encL cells ((xs.drop lo.toNat).take (hi.toNat-lo.toNat))):=fun W hW=>by
 have:=(h W hW).cut3 (sz:=sz) (l:=lo.toNat) (h:=hi.toNat) (m:=mx.toNat) (by omega) (by omega) (by omega)
 rw[jU hc,iP hc]at this
 exact this
theorem cut3_len {α:Type} {xs:List α} {n:Nat} {lo hi mx:Int} (h0:0≤lo) (h1:lo≤hi) (h2:hi≤mx) (h3:mx≤(n:Int)) (hn:n=xs.length):hi.toNat-lo.toNat=((xs.drop lo.toNat).take (hi.toNat-lo.toNat)).length:=cut_len h0 h1 (by omega) hn
end
section
variable {β γ : Type} {sel : β → List γ} {ic : γ → List Value} {wb : World} {Hb : World → Prop}
theorem PvL.sub {ys zs:List (Hd × β)} (h:PvL sel ic wb Hb ys) (hs:∀y∈zs,y∈ys):PvL sel ic wb Hb zs:=fun y hy=>h y (hs y hy)
theorem NestP.take {ys:List (Hd × β)} {xs:List β} (k:Nat) (h:NestP sel ys xs):NestP sel (ys.take k) (xs.take k):=⟨by rw[List.map_take,h.eq],fun y hy=>h.ln y (List.mem_of_mem_take hy)⟩
theorem NestP.drop {ys:List (Hd × β)} {xs:List β} (k:Nat) (h:NestP sel ys xs):NestP sel (ys.drop k) (xs.drop k):=⟨by rw[List.map_drop,h.eq],fun y hy=>h.ln y (List.mem_of_mem_drop hy)⟩
theorem cutOut_len {α:Type} {xs:List α} {n:Nat} {lo hi:Int} (h0:0≤lo) (h1:lo≤hi) (h2:hi≤(n:Int)) (hn:n=xs.length):lo.toNat+(n-hi.toNat)=(xs.take lo.toNat++xs.drop hi.toNat).length:=by
 rw[List.length_append,List.length_take,List.length_drop,←hn]
 omega
theorem sV {n:Nat} {lo hi:Int} (h0:0≤lo) (h1:lo≤hi) (h2:hi≤(n:Int)):lo.toNat+(n-hi.toNat)≤n:=by omega
theorem mem_setS {α:Type} {ys ys0:List α} {j:Nat} {v:α} (h:∀y∈ys,y∈ys0) (hv:v∈ys0):∀y∈ys.set j v,y∈ys0:=fun y hy=>by
 rcases List.mem_or_eq_of_mem_set hy with hy|rfl
 ·exact h y hy
 ·exact hv
theorem mem_takeS {α:Type} {ys ys0:List α} {k:Nat} (h:∀y∈ys,y∈ys0):∀y∈ys.take k,y∈ys0:=fun y hy=>h y (List.mem_of_mem_take hy)
theorem NestP.memS [Inhabited β] [Inhabited γ] {ys ys0:List (Hd × β)} {xs:List β} (hP:NestP sel ys xs) (hs:∀y∈ys,y∈ys0) {i:Int} (h0:0≤i) (h1:i<(xs.length:Int)):(((rdL ys i).1.1,(sel (rdL xs i)).length,(rdL ys i).1.2.2),rdL xs i)∈ys0:=by
 have hl:xs.length=ys.length:=hP.hn O
 have h2:=hP.len h0 h1
 have h3:=hs _ (pr (xs:=ys) h0 (by omega))
 rw[←h2,←hP.snd i]
 exact h3
end
section
variable {r : Option Nat} {n : Nat} {P : Program} {ops : Array Oper} {Q : Exit → Act → World → Prop} {w0 : World} {L : List Res} {m : Nat} {tm : Nat → Value} {d : List Deferred}
variable {t : Tmp} {ty : TypeId} {pos : String} {af : Array Edge} {g : Option (Nat × Bool)} {rest : List Oper}
theorem sy (i:Nat) {α:Type} {cells:α→List Value} {sz:Nat} (hc:∀x,(cells x).length=sz) (h1c:∀x,((cells x).all (·.oneCell'))=true) {xs:List α} {x y:Operand} {u e:TypeId} {A:Option Addr} {c k by':Nat} {lo hi:Int} {z:Value} (hu:P.underlying u=some (.slice e)) (hz:cW P e=some z) (hb:iY P e z sz by'=true)
  (hL:L[i]? = some (aO A c e sz k (encL cells xs))) (hk:k=xs.length) (h0:0≤lo) (h1:lo≤hi) (h2:hi≤(k:Int)) (hx:opv m tm x=.slice A lo.toNat c) (hy:opv m tm y=.slice (if c=hi.toNat then A else A.map (fun x=>x.add (hi.toNat*sz))) (k-hi.toNat) (c-hi.toNat))
  (hw:eE ops m tm ⟨some t,.call ⟨.builtin .append,#[x,y],#[u,u]⟩,ty,pos,af,g⟩=true)
  (h:OX r n P ops Q w0 (L.set i (aO A c e sz (lo.toNat+(k-hi.toNat)) (encL cells (xs.take lo.toNat++xs.drop hi.toNat)))) rest m (upd tm t (.slice A (lo.toNat+(k-hi.toNat)) c)) d) :
  OX r n P ops Q w0 L (⟨some t,.call ⟨.builtin .append,#[x,y],#[u,u]⟩,ty,pos,af,g⟩::rest) m tm d :=
 jt hw (by intro c h;cases h) fun W hW=>by
  obtain⟨inf,hinf,hzz⟩:∃inf,P.info? e=some inf∧inf.zero=some z:=by
   unfold cW at hz
   cases hi:P.info? e with
   | none=>rw[hi]at hz;cases hz
   | some inf=>rw[hi]at hz;exact⟨inf,O,hz⟩
  unfold iY at hb
  rw[hinf]at hb
  simp only[Bool.and_eq_true,beq_iff_eq,decide_eq_true_eq]at hb
  obtain⟨⟨⟨⟨hb2,hb3⟩,hb4⟩,hb5⟩,hb6⟩:=hb
  have hrow:(aO A c e sz k (encL cells xs)).holds W:=hW.mem hL
  have hcap:=(eU hrow).cap
  have hA0:A=none→lo.toNat=0:=by
   intro hA
   subst hA
   rcases hrow.2 with⟨hh,h3⟩|⟨g,cap,cur,hv,_⟩
   ·omega
   ·simp at hv
  have hhead:=sH hrow (k:=lo.toNat) (by omega) hA0
  rw[iP hc]at hhead
  rcases Nat.eq_zero_or_pos (k-hi.toNat)with hq|hq
  ·have hdrop:xs.drop hi.toNat=[]:=List.drop_eq_nil_of_le (by omega)
   have hrun:∀(B:Option Addr) (q:Nat),(Builtin.append_ #[u,u] ty #[.slice A lo.toNat c,.slice B 0 q]).run P W=.ok (.slice A lo.toNat c) W:=fun B q=>by
    have hcl:lo.toNat≤c:=by omega
    cases A <;> cases B <;> simp[Builtin.append_,run_underlying hu,sizeOf,typeInfo,hinf,Builtin.lenOf,Builtin.firstCells,hcl,storeCells,loadCells,loadCellsFrom]
   refine⟨_,W,_,?_,?_,h⟩
   ·simp only[execOp,resolve,invoke,builtin]
    rw[hq]at hy
    rw[hq,Nat.add_zero]
    simp[hx,hy,hrun]
   ·rw[hq,Nat.add_zero,hdrop,List.append_nil]
    exact hW.tell i hL (fun _=>hhead) (fun b hb=>hb)
  ·rcases hrow.2 with⟨hh,h3⟩|⟨g',cap,cur,hv,hbb,hg,h3,h4,h5,h6⟩
   ·omega
   ·simp only[Value.slice.injEq]at hv
    obtain⟨rfl,_,rfl⟩:=hv
    have hcn:¬c=hi.toNat:=by omega
    rw[if_neg hcn]at hy
    simp only[Option.map_some,Addr.add_lit,Nat.zero_add]at hy
    have hcut:=(eU hrow).cut (sz:=sz) (l:=hi.toNat) (h:=k) (by omega) (Nat.le_refl _)
    rw[if_neg hcn,jU hc,List.take_of_length_le (by rw[eL hc O,List.length_drop,hk];exact Nat.le_refl _)]at hcut
    obtain⟨W',hr,hown',hgr⟩:=run_append_fits (P:=P) W 0 u ty e inf sz hu hinf hb2 g' lo.toNat c _ hhead ⟨g',hi.toNat*sz,none⟩ (k-hi.toNat) (c-hi.toNat) (encL cells (xs.drop hi.toNat)) (by rw[eL hc O,List.length_drop,hk])
     (fun j v hj=>by
      obtain⟨b',o',e',hcc⟩:=hcut.cell j v hj
      simp only[Option.map_some,Addr.add_lit,Nat.zero_add,Option.some.injEq,Addr.mk.injEq,and_true]at e'
      obtain⟨rfl,rfl⟩:=e'
      rw[Addr.add_lit]
      exact hcc) (fun v hv=>List.all_eq_true.1 (cg h1c (xs.drop hi.toNat)) v hv) (by omega)
    refine⟨_,W',_,?_,?_,h⟩
    ·simp only[execOp,resolve,invoke,builtin]
     simp[hx,hy,hr]
    ·refine hW.set hL _ (by rw[←rI];exact hown') hgr.os hgr.tape hgr.output hgr.size (fun b hb hn=>hgr.block b hb (fun e=>hn ?_)) (fun b hb=>.inl hb)
     simp only[Option.some.injEq]at e
     exact⟨_,O,e.symm⟩
end
section
variable {r : Option Nat} {n : Nat} {P : Program} {ρ : Operand → Value} {w0 : World} {L : List Res}
variable {t : Option Tmp} {ty : TypeId} {pos : String} {af : Array Edge} {g : Option (Nat × Bool)}
theorem y_cutO {A:Option Addr} {k c:Nat} {x a b:Operand} {u e:TypeId} {sz:Nat} {q q':IntKind} {lo hi:Int} (hs:r8 P u=some (e,sz)) (h0:0≤lo) (h1:lo≤hi) (h2:hi≤(c:Int)) (hx:ρ x=.slice A k c) (ha:ρ a=.int q lo) (hb:ρ b=.int q' hi) :
  OpY r n P ⟨t,.slice u x (some a) (some b) none,ty,pos,af,g⟩ ρ (fun W=>Ext w0 W L) (fun W=>Ext w0 W L) (.slice (if c=lo.toNat then A else A.map (fun x=>x.add (lo.toNat*sz))) (hi.toNat-lo.toNat) (c-lo.toNat)) :=
 bk (by intro c h;cases h) (fun W hW=>by
  obtain⟨hu',hsz⟩:=oK hs
  simp only[execOp,hx,ha,hb,Option.map_some,Option.map_none,Sem.run_bind,run_sliceAt_slice W u _ _ _ _ hu',run_slice_lh W u A k c hu' q q' lo hi h0 h1 h2,hsz,Result.andThen_ok,sliced]
  rfl)
theorem y_clearT (i:Nat) {cs:List Value} {x:Operand} {u e:TypeId} {A:Option Addr} {k c sz q:Nat} {z:Value} (hu:P.underlying u=some (.slice e)) (hz:cW P e=some z) (hzs:z.cells.size=sz) (hpos:0<sz) (hz1:(z.cells.toList.all (·.oneCell'))=true)
  (hL:L[i]? = some (aO A c e sz k cs)) (h1:k+q≤c) (hx:ρ x=.slice (if c=k then A else A.map (fun x=>x.add (k*sz))) q (c-k)) :
  OpY r n P ⟨none,.call ⟨.builtin .clear,#[x],#[u]⟩,ty,pos,af,g⟩ ρ (fun W=>Ext w0 W L) (fun W=>Ext w0 W L) (.tuple #[]):=fun W hW=>by
 have hrow:(aO A c e sz k cs).holds W:=hW.mem hL
 suffices hs:∃W',(Builtin.clear_ #[u] ty #[.slice (if c=k then A else A.map (fun x=>x.add (k*sz))) q (c-k)]).run P W=.ok (.tuple #[]) W'∧Ext w0 W' L by
  obtain⟨W',hrun,hE⟩:=hs
  have e1:(execOp ρ ⟨none,.call ⟨.builtin .clear,#[x],#[u]⟩,ty,pos,af,g⟩).run P W=.ok (.value (.tuple #[])) W':=by
   simp only[execOp,resolve,invoke,builtin]
   simp[hx,hrun]
  rw[ec (by intro c h;cases h),e1]
  exact⟨O,hE⟩
 rcases Nat.eq_zero_or_pos q with hq|hq
 ·refine⟨W,?_,hW⟩
  subst hq
  have hh:∀(B:Option Addr) (q:Nat),(Builtin.clear_ #[u] ty #[.slice B 0 q]).run P W=.ok (.tuple #[]) W:=fun B q=>by
   cases B <;> simp[Builtin.clear_,run_underlying hu]
  exact hh _ _
 ·have hcl:¬c=k:=by omega
  rw[if_neg hcl]
  obtain⟨h1',h2'⟩:=hrow
  rcases h2' with⟨h2,h3⟩|⟨g',cap,cur,hv',hbb,hg,h3,h4,h5,h6⟩
  ·simp only[Value.slice.injEq]at h2
   omega
  ·simp only[Value.slice.injEq]at hv'
   obtain⟨rfl,_,rfl⟩:=hv'
   obtain⟨zn,hzn⟩:∃zn,q=zn+1:=⟨q-1,by omega⟩
   have hzl:(Builtin.zeroCells z.cells q).toList.length=q*sz:=by simp[Builtin.zeroCells,hzs]
   have hbd:k*sz+q*sz≤cur.size:=by
    rw[←Nat.add_mul,h5]
    exact Nat.mul_le_mul_right _ h1
   have hst:=run_storeCells_at (P:=P) g' (k*sz) e (Builtin.zeroCells z.cells q).toList 0 cur W hg (by rw[hzl];omega) (n5 hz1 (by omega) _)
   simp only[Nat.add_zero]at hst
   have hzr:=rF (P:=P) (W:=W) hz
   have hadd:Option.map (fun x=>x.add (k*sz)) (some (⟨g',0,none⟩:Addr))=some ⟨g',k*sz,none⟩:=by
    simp only[Option.map_some,Addr.add_lit,Nat.zero_add]
   refine⟨W.setRow g' (cur.toList.take (k*sz)++(Builtin.zeroCells z.cells q).toList++cur.toList.drop (k*sz+(Builtin.zeroCells z.cells q).toList.length)).toArray,?_,?_⟩
   ·rw[hadd]
    rw[hzn]at hst ⊢
    simp[Builtin.clear_,run_underlying hu,hzr,hst]
   ·have hlen:(cur.toList.take (k*sz)++(Builtin.zeroCells z.cells q).toList++cur.toList.drop (k*sz+(Builtin.zeroCells z.cells q).toList.length)).length=cur.size:=by
     rw[List.length_append,List.length_append,List.length_take,List.length_drop,hzl,Array.length_toList]
     omega
    have e2:L.set i (aO (some ⟨g',0,none⟩) c e sz k cs)=L:=by
     obtain⟨hi,he⟩:=List.getElem?_eq_some_iff.1 hL
     rw[←he,List.set_getElem_self]
    rw[←e2]
    refine hW.set hL _ ?_ O O O (by simp[World.setRow]) (fun b' _ hn=>?_) (fun b' hb'=>.inl hb')
    ·refine⟨h1',.inr ⟨g',c,_,O,Nat.zero_le _,setRow_heap W g' _ _ e _ hg,h3,h4,by simp only[List.size_toArray];rw[hlen];exact h5,?_⟩⟩
     show List.take (k*sz) (cur.toList.take (k*sz)++(Builtin.zeroCells z.cells q).toList++cur.toList.drop _)=_
     rw[List.append_assoc,List.take_append_of_le_length (by rw[List.length_take,Array.length_toList];omega),List.take_take,Nat.min_self]
     exact h6
    ·show(W.heap.modify g' _)[b']? = _
     rw[Array.getElem?_modify,if_neg (fun e'=>hn ⟨_,O,e'⟩)]
end
end Go.Proofs.YtbblpokfbmekfaaGreat
