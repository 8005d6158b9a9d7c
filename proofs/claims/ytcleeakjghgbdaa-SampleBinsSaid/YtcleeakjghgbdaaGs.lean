import Derived.WalkKit
import Derived.OrdersIn
import Derived.RangeFuncFrom
import Derived.RangeFuncCalls
import Derived.Laws.StructEq
import Derived.WalkLawsBesides
import Derived.Maps.AppendAt
import Derived.KernelRfl
import Derived.Scope
import Derived.RangeFuncLeaves
import Derived.Maps.Own
import Derived.Maps.Views
set_option linter.unusedVariables false
namespace Go.Proofs.Ytcleeakjghgbdaa
theorem E.{u} {α:Sort u} {a:α}:a=a:=rfl
def loopN {S T:Type} (body:S→Option (S ⊕ T)):Nat→S→Option T
 | 0,_=>none
 | k+1,s=>match body s with
  | none=>none
  | some (.inl s')=>loopN body k s'
  | some (.inr t)=>some t
open Classical in
noncomputable def aZ {S T:Type} (body:S→Option (S ⊕ T)) (s:S):Option T :=
 match loopN body 1000000 s with
 | some t=>some t
 | none=>if h:∃t k,loopN body k s=some t then some (Classical.choose h)else none
section
variable {S T : Type} {body : S → Option (S ⊕ T)}
theorem g6:∀(k:Nat) (s:S) (t:T),loopN body k s=some t→∀j,loopN body (k+j) s=some t
 | 0,s,t,h,_=>by cases h
 | k+1,s,t,h,j=>by
  rw[show k+1+j=(k+j)+1 by omega]
  unfold loopN at h ⊢
  split
  ·rename_i hb;rw[hb]at h;cases h
  ·rename_i s' hb;rw[hb]at h;exact g6 k s' t h j
  ·rename_i t' hb;rw[hb]at h;exact h
theorem jb {k j:Nat} {s:S} {t u:T} (h:loopN body k s=some t) (h':loopN body j s=some u):t=u:=by
 have h1:=g6 k s t h j
 have h2:=g6 j s u h' k
 rw[Nat.add_comm]at h2
 rw[h1]at h2
 exact Option.some.inj h2
theorem ip {k:Nat} {s:S} {t:T} (h:loopN body k s=some t):aZ body s=some t:=by
 have hx:∃t k,loopN body k s=some t:=⟨t,k,h⟩
 unfold aZ
 split
 ·rename_i u hu
  rw[jb hu h]
 ·rw[dif_pos hx]
  obtain⟨j,hj⟩:=Classical.choose_spec hx
  rw[jb hj h]
theorem ga {s:S} {t:T} (h:aZ body s=some t):∃k,loopN body k s=some t:=by
 unfold aZ at h
 split at h
 ·rename_i u hu
  cases h
  exact⟨1000000,hu⟩
 ·split at h
  ·rename_i hx
   obtain⟨j,hj⟩:=Classical.choose_spec hx
   exact⟨j,by rw[hj];exact h⟩
  ·cases h
theorem kn (s:S):aZ body s=(body s).bind fun|.inl s'=>aZ body s' | .inr t=>some t:=by
 cases hb:body s with
 | none =>
  cases hl:aZ body s with
  | none=>rfl
  | some t =>
   obtain⟨k,hk⟩:=ga hl
   cases k with
   | zero=>cases hk
   | succ k=>unfold loopN at hk;rw[hb]at hk;cases hk
 | some st =>
  cases st with
  | inl s' =>
   show aZ body s=aZ body s'
   cases hl:aZ body s' with
   | none =>
    cases hl':aZ body s with
    | none=>rfl
    | some t =>
     obtain⟨k,hk⟩:=ga hl'
     cases k with
     | zero=>cases hk
     | succ k =>
      unfold loopN at hk
      rw[hb]at hk
      rw[ip hk]at hl
      cases hl
   | some t =>
    obtain⟨k,hk⟩:=ga hl
    exact ip (k:=k+1) (by unfold loopN;rw[hb];exact hk)
  | inr t=>exact ip (k:=1) (by unfold loopN;rw[hb])
theorem aC {s s':S} (h:body s=some (.inl s')):aZ body s=aZ body s':=by rw[kn,h];rfl
theorem bk {s:S} {t:T} (h:body s=some (.inr t)):aZ body s=some t:=by rw[kn,h];rfl
theorem lI (I:S→Prop) (R:S→T→Prop) (μ:S→Nat) (h:∀s,I s→(∃s',body s=some (.inl s')∧I s'∧μ s'<μ s∧∀t,R s' t→R s t)∨∃t,body s=some (.inr t)∧R s t) (s:S) (hs:I s):∃t,aZ body s=some t∧R s t:=by
 generalize hn:μ s=n
 induction n using Nat.strongRecOn generalizing s with
 | _ n ih =>
  rcases h s hs with⟨s',hb,hI,hlt,hR⟩|⟨t,hb,hR⟩
  ·obtain⟨t,ht,hR'⟩:=ih (μ s') (by omega) s' hI E
   exact⟨t,by rw[aC hb];exact ht,hR t hR'⟩
  ·exact⟨t,bk hb,hR⟩
end
theorem bOs {α β:Type} {x:Option α} {f:α→Option β} {b:β} (h:x.bind f=some b):∃a,x=some a∧f a=some b:=by
 cases x with
 | none=>cases h
 | some a=>exact⟨a,E,h⟩
def ap {α:Type} (c:Prop) [Decidable c] (x:Option α):Option α:=if c then x else none
theorem gOs {α:Type} {c:Prop} [Decidable c] {x:Option α} {a:α} (h:ap c x=some a):c∧x=some a:=by
 unfold ap at h
 split at h
 ·exact⟨by assumption,h⟩
 ·cases h
theorem ah {α:Type} {c:Prop} [Decidable c] {x:Option α} (h:c):ap c x=x:=by unfold ap;rw[if_pos h]
theorem iOs {α:Type} {p:Bool} {x y:Option α} {a:α} (h:(if p=true then x else y)=some a):(p=true∧x=some a)∨(p=false∧y=some a):=by
 cases p
 ·exact .inr ⟨E,h⟩
 ·exact .inl ⟨E,h⟩
def rdL {α:Type} [Inhabited α] (xs:List α) (i:Int):α:=xs.getD i.toNat default
def w64 (x:Int):Int:=(x+9223372036854775808) % 18446744073709551616-9223372036854775808
theorem bJ {x:Int} (h1 : -9223372036854775808≤x) (h2:x≤9223372036854775807):w64 x=x:=by unfold w64;omega
def aH {α:Type} (a b c:α) (i:Int):α:=if i=0 then a else if i=1 then b else c
def fH {α:Type} (i:Int) (j:Int) (new old:α):α:=if i=j then new else old
def eH {S T α:Type} (f:S→α→Option (S ⊕ T)):List α→S→Option (S ⊕ T)
 | [],s=>some (.inl s)
 | x::xs,s=>match f s x with
  | none=>none
  | some (.inl s')=>eH f xs s'
  | some (.inr t)=>some (.inr t)
theorem ja {S T α:Type} {f:S→α→Option (S ⊕ T)} {x:α}:∀(xs:List α) (s s':S),eH f xs s=some (.inl s')→eH f (xs++[x]) s=f s' x
 | [],s,s',h=>by
  cases h
  show(match f s x with|none=>none|some (.inl s')=>eH f [] s' | some (.inr t)=>some (.inr t))=_
  rcases f s x with _|(_|_) <;> rfl
 | y::ys,s,s',h=>by
  unfold eH at h
  rw[List.cons_append]
  unfold eH
  cases hf:f s y with
  | none=>rw[hf]at h;cases h
  | some st =>
   rw[hf]at h
   cases st with
   | inl s1=>exact ja ys s1 s' h
   | inr t=>cases h
theorem jO {S T α:Type} {f:S→α→Option (S ⊕ T)}:∀(xs ys:List α) (s s':S),eH f xs s=some (.inl s')→eH f (xs++ys) s=eH f ys s'
 | [],_,_,_,h=>by cases h;rfl
 | x::xs,ys,s,s',h=>by
  unfold eH at h
  rw[List.cons_append]
  conv=>lhs;unfold eH
  cases hf:f s x with
  | none=>rw[hf]at h;cases h
  | some st =>
   rw[hf]at h
   cases st with
   | inl s1=>exact jO xs ys s1 s' h
   | inr t=>cases h
theorem kL {S T α:Type} {f:S→α→Option (S ⊕ T)} {xs:List α} {s s':S} {st:S ⊕ T} {i:Nat} {x:α} (hl:eH f xs s=some st) (hi:eH f (xs.take i) s=some (.inl s')) (hx:xs[i]? = some x) :
  ∃r,f s' x=some r∧eH f (xs.take (i+1)) s=some r∧(∀t,r=.inr t→st=.inr t):=by
 have hlt:i<xs.length:=(List.getElem?_eq_some_iff.1 hx).1
 have hxe:xs[i]=x:=(List.getElem?_eq_some_iff.1 hx).2
 have ht:xs.take (i+1)=xs.take i++[x]:=by rw[List.take_add_one,hx];rfl
 have hsp:xs=xs.take i++(x::xs.drop (i+1)):=by rw[←hxe,←List.drop_eq_getElem_cons hlt,List.take_append_drop]
 have h2:=jO (xs.take i) (x::xs.drop (i+1)) s s' hi
 rw[←hsp,hl]at h2
 rw[ht,ja _ _ _ hi]
 unfold eH at h2
 cases hf:f s' x with
 | none=>rw[hf]at h2;cases h2
 | some r =>
  refine⟨r,E,E,fun t e=>?_⟩
  subst e
  rw[hf]at h2
  exact Option.some.inj h2
def LeO {α:Type} (x y:Option α):Prop:=∀r,x=some r→y=some r
theorem LeO.refl {α:Type} (x:Option α):LeO x x:=fun _ h=>h
theorem LeO.bind {α β:Type} {x y:Option α} {f g:α→Option β} (h:LeO x y) (h':∀a,LeO (f a) (g a)):LeO (x.bind f) (y.bind g):=fun r hr=>by
 obtain⟨a,ha,hf⟩:=bOs hr
 rw[h a ha]
 exact h' a r hf
theorem LeO.guard {α:Type} {c:Prop} [Decidable c] {x y:Option α} (h:LeO x y):LeO (ap c x) (ap c y):=fun r hr=>by
 obtain⟨hc,hx⟩:=gOs hr
 rw[ah hc]
 exact h r hx
def loopF {S T:Type} (fuel:Nat) (body:S→Option (S ⊕ T)) (s:S):Option T:=loopN body fuel s
theorem LeO.loopN {S T:Type} {f g:S→Option (S ⊕ T)} (h:∀s,LeO (f s) (g s)):∀(k:Nat) (s:S) (t:T),loopN f k s=some t→Go.Proofs.Ytcleeakjghgbdaa.loopN g k s=some t
 | 0,s,t,hh=>by cases hh
 | k+1,s,t,hh=>by
  unfold Go.Proofs.Ytcleeakjghgbdaa.loopN at hh ⊢
  cases hf:f s with
  | none=>rw[hf]at hh;cases hh
  | some st =>
   rw[hf]at hh
   rw[h s st hf]
   cases st with
   | inl s'=>exact LeO.loopN h k s' t hh
   | inr t'=>exact hh
theorem LeO.loop {S T:Type} {fuel:Nat} {f g:S→Option (S ⊕ T)} {s:S} (h:∀s,LeO (f s) (g s)):LeO (loopF fuel f s) (aZ g s):=fun r hr=>ip (LeO.loopN h fuel s r hr)
def aU (x:Int):Prop:=-9223372036854775808≤x∧x≤9223372036854775807
def lm {α:Type} (R:α→Prop) (xs:List α):Prop:=xs.length≤9223372036854775807∧∀x∈xs,R x
def ki (x:Int):Bool:=decide (-9223372036854775808≤x)&&decide (x≤9223372036854775807)
def mget (m:List (Int × Int)) (x:Int):Int:=match m with
 | []=>0
 | (k,v)::m=>if k=x then v else mget m x
theorem lca {α:Type} (a:α) (as bs:List α):(a::as)++bs=a::(as++bs):=rfl
theorem lna {α:Type} (as:List α):[]++as=as:=rfl
theorem lsz {α:Type} (a b:α) (as:List α):(a::as).set 0 b=b::as:=rfl
theorem lss {α:Type} (a b:α) (as:List α) (n:Nat):(a::as).set (n+1) b=a::as.set n b:=rfl
def bi {κ β:Type} [DecidableEq κ] (z:β):List (κ × β)→κ→β
 | [],_=>z
 | (k,v)::m,x=>if k=x then v else bi z m x
def bI {κ β:Type} [DecidableEq κ]:List (κ × β)→κ→Bool
 | [],_=>false
 | (k,_)::m,x=>if k=x then true else bI m x
open Go.RowKit (Below)
def upd (tm:Nat→Value) (i:Nat) (v:Value):Nat→Value:=fun j=>if j=i then v else tm j
def tarr (n:Nat) (tm:Nat→Value):Array Value:=Array.ofFn (n:=n) fun i=>tm i.val
def act (n:Nat) (tm:Nat→Value) (d:List Deferred):Act:=⟨tarr n tm,d⟩
def opv (n:Nat) (tm:Nat→Value):Operand→Value
 | .tmp t=>if t<n then tm t else undef
 | .const v=>v
 | .global g=>.pointer (some ⟨g,0,none⟩)
 | .func f=>.func (.func f) #[] #[]
def updO (tm:Nat→Value):Option Tmp→Value→Nat→Value
 | some d,v=>upd tm d v
 | none,_=>tm
theorem tarr_get? (n:Nat) (tm:Nat→Value) (i:Nat):(tarr n tm)[i]? = if i<n then some (tm i)else none:=by
 unfold tarr
 by_cases h:i<n
 ·simp[h]
 ·simp[h]
theorem ld (n:Nat) (tm:Nat→Value):(tarr n tm).size=n:=by simp[tarr]
theorem bW (n:Nat) (tm:Nat→Value) (d:List Deferred):(act n tm d).eval=opv n tm:=by
 funext x
 cases x with
 | tmp t =>
  show(tarr n tm).getD t undef=if t<n then tm t else undef
  rw[Array.getD_eq_getD_getElem?,tarr_get?]
  by_cases h:t<n <;> simp[h]
 | _=>rfl
theorem cj (n:Nat) (tm:Nat→Value) (d:List Deferred) (o:Option Tmp) (v:Value):(act n tm d).put o v=act n (updO tm o v) d:=by
 cases o with
 | none=>rfl
 | some i =>
  show(⟨(tarr n tm).setIfInBounds i v,d⟩:Act)=⟨tarr n (upd tm i v),d⟩
  congr 1
  apply Array.ext_getElem?
  intro j
  rw[Array.getElem?_setIfInBounds,tarr_get?,tarr_get?,ld]
  by_cases hij:i=j
  ·subst hij;simp[upd]
  ·rw[if_neg hij]
   simp only[upd,if_neg (fun h:j=i=>hij h.symm)]
def cZ (ops:Array Oper) (n:Nat) (tm:Nat→Value) (o:Oper):Bool :=
 match o.guard with
 | none=>true
 | some (j,b) =>
  match (ops[j]?).bind (·.dst)with
  | some x=>if x<n then(match tm x with|.bool c=>c==b|_=>false)else false
  | none=>false
theorem a7 (ops:Array Oper) (n:Nat) (tm:Nat→Value) (d:List Deferred) (o:Oper):Region.wanted o (yielded ops (act n tm d).tmps)=cZ ops n tm o:=by
 unfold Region.wanted cZ
 cases hg:o.guard with
 | none=>rfl
 | some p =>
  obtain⟨j,b⟩:=p
  simp only[yielded]
  cases hx:(ops[j]?).bind (·.dst)with
  | none=>simp
  | some x =>
   simp only[Option.bind_some]
   rw[show(act n tm d).tmps[x]? = if x<n then some (tm x)else none from tarr_get? n tm x]
   by_cases h:x<n
   ·simp only[h,if_true]
    cases tm x <;> simp
   ·simp[h]
theorem gU (args:Array Value) (n:Nat) (h:args.size≤n) :
  ({ tmps:=args++Array.replicate (n-args.size) undef,defers:=[] }:Act)=act n (fun i=>(args[i]?).getD undef) []:=by
 show(⟨_,[]⟩:Act)=⟨tarr n _,[]⟩
 congr 1
 apply Array.ext_getElem?
 intro j
 rw[tarr_get?,Array.getElem?_append]
 by_cases hj:j<args.size
 ·rw[if_pos hj,if_pos (by omega)]
  simp[hj]
 ·rw[if_neg hj]
  by_cases hn:j<n
  ·rw[if_pos hn,Array.getElem?_replicate,if_pos (by omega),Array.getElem?_eq_none (by omega)];rfl
  ·rw[if_neg hn,Array.getElem?_replicate,if_neg (by omega)]
def Fw (r:Option Nat):Fence:={ fn:=fun _=>True,depth:=none,alive:=false,round:=r }
theorem k2 {r:Option Nat} {n:Nat} {P:Program} {f:FuncId} {args:Array Value} {w:World} {R:Ending→World→Prop} (h:Calls P f args w R):CallsIn (Fw r) n P f args w R:=by
 have h':CallsIn Fence.wide n P f args w R:=callsIn_wide.2 h
 exact h'
theorem j5 {r:Option Nat} {n:Nat} {P:Program} {f:FuncId} {args:Array Value} {w:World} {R:Ending→World→Prop} (h:CallsIn (Fw r) n P f args w R):Calls P f args w R:=by
 have h':CallsIn Fence.wide n P f args w R:=h
 exact callsIn_wide.1 h'
def Yld (r:Option Nat) (n:Nat) (P:Program) (C':World→Prop) (v:Value):Result Next→Prop
 | .ok (.value u) W=>u=v∧C' W
 | .ok .skip W=>v=undef∧C' W
 | .ok (.enter f args) W=>Calls P f args W fun e W'=>e=.returned v∧C' W'
 | .ok (.round l f tmps assign body) W=>RoundIn (Fw r) (n-1) P l f tmps assign body W fun e W'=>e=.returned v∧C' W'
 | _=>False
def OpY (r:Option Nat) (n:Nat) (P:Program) (o:Oper) (ρ:Operand→Value) (C C':World→Prop) (v:Value):Prop :=
 ∀W,C W→Yld r n P C' v ((o.semAt r ρ).run P W)
theorem d6 {r:Option Nat} {n:Nat} {P:Program} {o:Oper} {a:Act} {C C':World→Prop} {v:Value} {W:World} {K:Act→World→Prop} {Q:Exit→Act→World→Prop}
  (hy:OpY r n P o a.eval C C' v) (hC:C W) (h:∀W',C' W'→K (a.put o.dst v) W'):o.wpIn (Fw r) n P a W K Q:=by
 refine⟨fun _ _=>trivial,?_⟩
 have h1:=hy W hC
 show Oper.uponIn (Fw r) n P o a K Q ((o.semAt r a.eval).run P W)
 generalize (o.semAt r a.eval).run P W=res at h1 ⊢
 match res,h1 with
 | .ok (.value u) W',⟨e,hc⟩=>subst e;exact h _ hc
 | .ok .skip W',⟨e,hc⟩=>subst e;exact h _ hc
 | .ok (.enter f args) W',hc =>
  refine⟨(fun hd=>by cases hd),?_⟩
  refine(k2 hc).mono ?_
  rintro e w ⟨rfl,hw⟩
  exact h _ hw
 | .ok (.round l f tmps assign body) W',hc =>
  refine⟨(fun hd=>by cases hd),?_⟩
  refine hc.mono ?_
  rintro e w ⟨rfl,hw⟩
  exact h _ hw
def OL (r:Option Nat) (n:Nat) (P:Program) (ops:Array Oper) (Q:Exit→Act→World→Prop):List Oper→Act→World→Prop
 | [],a,w=>Q .normal a w
 | o::rest,a,w =>
  if Region.wanted o (yielded ops a.tmps)then o.wpIn (Fw r) n P a w (OL r n P ops Q rest) Q else OL r n P ops Q rest (a.put o.dst undef) w
theorem kc {r:Option Nat} {n:Nat} {P:Program} {ops:Array Oper} {Q:Exit→Act→World→Prop}:∀(l:List Oper) (a:Act) (w:World),OL r n P ops Q l a w→wpListIn (Fw r) n P ops Q l a w
 | [],_,_,h=>h
 | o::rest,a,w,h=>by
  unfold OL at h
  unfold wpListIn
  split
  ·rename_i hw
   rw[if_pos hw]at h
   exact Oper.wpIn_mono (fun a w h=>kc rest a w h) h
  ·rename_i hw
   rw[if_neg hw]at h
   exact⟨fun _ _=>trivial,kc rest _ _ h⟩
def QW (r:Option Nat) (n:Nat) (P:Program) (ops:Array Oper) (C:World→Prop) (K:Act→Prop):List Oper→Act→Prop
 | [],a=>K a
 | o::rest,a=>if Region.wanted o (yielded ops a.tmps)then ∃v,OpY r n P o a.eval C C v∧QW r n P ops C K rest (a.put o.dst v)else QW r n P ops C K rest (a.put o.dst undef)
def eE (ops:Array Oper):Bool :=
 (List.range ops.size).all fun j=>match ops[j]? with
  | none=>false
  | some oj =>
   (match oj.op with|.select .. => false|.defer _=>false|_=>true) &&
   oj.after.all (fun e => !Region.binds .any e||decide (e.on<j)) &&
   (List.range j).all fun i=>match ops[i]? with
    | none=>false
    | some oi=>oi.apart ops oj||oj.after.any (fun e=>Region.binds .any e&&e.on==i)
def tailB (ops:Array Oper) (k:Nat):Bool :=
 decide (k≤ops.size)&&(decide (k=ops.size)||(
 (List.range k).all (fun i=>(List.range (k+1)).any fun j=>decide (i<j)&&Region.waitsB ops j i) &&
 (List.range ops.size).all fun t=>decide (t≤k)||Region.waitsB ops t (t-1)))
where
 Region.waitsB (ops:Array Oper) (j i:Nat):Bool:=match ops[j]? with
  | some oj=>oj.after.any fun e=>Region.binds .any e&&e.on==i
  | none=>false
open Go.RowKit (Below)
section
variable {r : Option Nat} {n : Nat} {P : Program} {ops : Array Oper}
def dr (ops:Array Oper) (i:Nat):Option Tmp:=(ops[i]?).bind (·.dst)
def stA (ops:Array Oper) (vals:Nat→Value) (a0:Act) (S:Nat→Bool):Nat→Act
 | 0=>a0
 | m+1=>if S m then(stA ops vals a0 S m).put (dr ops m) (vals m)else stA ops vals a0 S m
theorem kb (a:Act) (d:Option Tmp) (v:Value) (x:Nat) (h:d≠some x):(a.put d v).tmps[x]? = a.tmps[x]?:=by
 cases d with
 | none=>rfl
 | some d =>
  show(a.tmps.setIfInBounds d v)[x]? = _
  rw[Array.getElem?_setIfInBounds,if_neg (fun e=>h (by rw[e]))]
theorem put_get' (a b:Act) (d:Option Tmp) (v:Value) (x:Nat) (h:a.tmps[x]? = b.tmps[x]?):(a.put d v).tmps[x]? = (b.put d v).tmps[x]?:=by
 cases d with
 | none=>exact h
 | some d =>
  show(a.tmps.setIfInBounds d v)[x]? = (b.tmps.setIfInBounds d v)[x]?
  rw[Array.getElem?_setIfInBounds,Array.getElem?_setIfInBounds,h]
  have hs:x<a.tmps.size↔x<b.tmps.size:=by
   constructor
   ·intro hx
    apply Classical.byContradiction
    intro hn
    rw[Array.getElem?_eq_none (xs:=b.tmps) (by omega),Array.getElem?_eq_getElem hx]at h
    cases h
   ·intro hx
    apply Classical.byContradiction
    intro hn
    rw[Array.getElem?_eq_none (xs:=a.tmps) (by omega),Array.getElem?_eq_getElem hx]at h
    cases h
  by_cases e:d=x
  ·subst e
   simp only[if_true]
   by_cases h1:d<a.tmps.size
   ·rw[if_pos h1,if_pos (hs.1 h1)]
   ·rw[if_neg h1,if_neg (fun h2=>h1 (hs.2 h2))]
  ·rw[if_neg e,if_neg e]
theorem dR (a:Act) (d:Option Tmp) (v:Value):(a.put d v).defers=a.defers:=by cases d <;> rfl
theorem eY (vals:Nat→Value) (a0:Act) (X:Nat→Prop) (S T:Nat→Bool):∀m:Nat,(∀j,j<m→S j≠T j→∀d,dr ops j=some d→¬X d) →
  (∀x,X x→(stA ops vals a0 S m).tmps[x]? = (stA ops vals a0 T m).tmps[x]?)∧(stA ops vals a0 S m).defers=(stA ops vals a0 T m).defers
 | 0,_=>⟨fun _ _=>rfl,E⟩
 | m+1,h=>by
  obtain⟨h1,h2⟩:=eY vals a0 X S T m (fun j hj=>h j (by omega))
  have hm:=h m (by omega)
  simp only[stA]
  cases hS:S m <;> cases hT:T m
  ·simpa using⟨h1,h2⟩
  ·have hd:=hm (by simp[hS,hT])
   simp only[Bool.false_eq_true,if_false,if_true]
   exact⟨fun x hx=>by rw[kb _ _ _ _ (fun e=>hd x e hx)];exact h1 x hx,by rw[dR];exact h2⟩
  ·have hd:=hm (by simp[hS,hT])
   simp only[Bool.false_eq_true,if_false,if_true]
   exact⟨fun x hx=>by rw[kb _ _ _ _ (fun e=>hd x e hx)];exact h1 x hx,by rw[dR];exact h2⟩
  ·simp only[if_true]
   exact⟨fun x hx=>put_get' _ _ _ _ _ (h1 x hx),by rw[dR,dR];exact h2⟩
theorem eU (vals:Nat→Value) (a0:Act) (S:Nat→Bool) (i:Nat) (hi:S i=false):∀m:Nat,i<m →
  (∀j,i<j→j<m→S j=true→∀d,dr ops j=some d→dr ops i≠some d) →
  stA ops vals a0 (fun j=>S j||j==i) m=(stA ops vals a0 S m).put (dr ops i) (vals i)
 | 0,h,_=>by omega
 | m+1,h,hd=>by
  simp only[stA]
  by_cases e:i=m
  ·subst e
   have:∀q,q≤i→stA ops vals a0 (fun j=>S j||j==i) q=stA ops vals a0 S q:=by
    intro q
    induction q with
    | zero=>intro _;rfl
    | succ q ih =>
     intro hq
     have hne:(q==i)=false:=by simp;omega
     simp only[stA,hne,Bool.or_false,ih (by omega)]
   simp[hi,this i (Nat.le_refl _)]
  ·have ih:=eU vals a0 S i hi m (by omega) (fun j h1 h2=>hd j h1 (by omega))
   have hne:(m==i)=false:=by simp;omega
   simp only[hne,Bool.or_false,ih]
   by_cases hS:S m=true
   ·simp only[hS,if_true]
    exact Act.put_comm _ _ _ (fun d h1 h2=>hd m (by omega) (by omega) hS d h2 h1)
   ·simp only[hS,Bool.false_eq_true,if_false]
theorem j6 {a b:Act} {t:Nat} (h:a.tmps[t]? = b.tmps[t]?):a.eval (.tmp t)=b.eval (.tmp t):=by
 show a.tmps.getD t undef=b.tmps.getD t undef
 rw[Array.getD_eq_getD_getElem?,Array.getD_eq_getD_getElem?,h]
theorem dV {o:Oper} {a b:Act} (h:∀x,x∈o.looksAt ops→a.tmps[x]? = b.tmps[x]?) :
  (∀x∈o.op.operands,a.eval x=b.eval x)∧Region.wanted o (yielded ops a.tmps)=Region.wanted o (yielded ops b.tmps):=by
 constructor
 ·intro x hx
  cases x with
  | tmp t =>
   refine j6 (h t ?_)
   unfold Oper.looksAt
   exact List.mem_append_left _ (List.mem_filterMap.2 ⟨.tmp t,by simpa using hx,E⟩)
  | _=>rfl
 ·unfold Region.wanted
  cases hg:o.guard with
  | none=>rfl
  | some p =>
   obtain⟨j,want⟩:=p
   simp only[yielded]
   cases hd:(ops[j]?).bind (·.dst)with
   | none=>rfl
   | some d =>
    simp only[Option.bind_some]
    rw[h d (by unfold Oper.looksAt;rw[hg];exact List.mem_append_right _ (by simp[hd]))]
theorem gT {o:Oper} (hs:∀cs b,o.op ≠ .select cs b) (hd:∀c,o.op ≠ .defer c) {ρ ρ':Operand→Value} (h:∀x∈o.op.operands,ρ x=ρ' x) {C C':World→Prop} {v:Value}
  (hy:OpY r n P o ρ C C' v):OpY r n P o ρ' C C' v:=by
 have e:o.semAt r ρ'=o.semAt r ρ:=by
  have e1:execOp ρ' o=execOp ρ o:=execOp_congr o hs (fun x hx=>(h x hx).symm)
  cases r with
  | none=>rw[Oper.semAt_none,Oper.semAt_none,e1]
  | some l=>rw[Oper.semAt_some l _ o hd,Oper.semAt_some l _ o hd,e1]
 unfold OpY
 rw[e]
 exact hy
theorem kY {C:World→Prop} {K:Act→Prop}:∀(l:List Oper) (i0:Nat) (a:Act),(∀j,j<l.length→l[j]? = ops[i0+j]?)→QW r n P ops C K l a →
  ∃(vals:Nat→Value) (acts:Nat→Act),acts 0=a∧(∀j,acts (j+1)=(acts j).put (dr ops (i0+j)) (vals j)) ∧
   (∀j o,j<l.length→ops[i0+j]? = some o→(Region.wanted o (yielded ops (acts j).tmps)=true∧OpY r n P o (acts j).eval C C (vals j))∨(Region.wanted o (yielded ops (acts j).tmps)=false∧vals j=undef)) ∧
   K (acts l.length)
 | [],i0,a,_,h=>by
  have hK:K a:=h
  exact⟨fun _=>undef,fun j=>Nat.rec a (fun j b=>b.put (dr ops (i0+j)) undef) j,E,fun _=>E,(fun j o hj=>by simp at hj),hK⟩
 | o::rest,i0,a,hl,h=>by
  have ho:ops[i0]? = some o:=by simpa using(hl 0 (by simp)).symm
  have hl':∀j,j<rest.length→rest[j]? = ops[i0+1+j]?:=fun j hj=>by
   have:=hl (j+1) (by simp;omega)
   simpa [Nat.add_assoc,Nat.add_comm 1 j]using this
  have hdst:dr ops i0=o.dst:=by simp[dr,ho]
  have key:∃v,((Region.wanted o (yielded ops a.tmps)=true∧OpY r n P o a.eval C C v)∨(Region.wanted o (yielded ops a.tmps)=false∧v=undef))∧QW r n P ops C K rest (a.put o.dst v):=by
   unfold QW at h
   by_cases hw:Region.wanted o (yielded ops a.tmps)=true
   ·rw[if_pos hw]at h
    obtain⟨v,h1,h2⟩:=h
    exact⟨v,.inl ⟨hw,h1⟩,h2⟩
   ·rw[if_neg hw]at h
    exact⟨undef,.inr ⟨by simpa using hw,E⟩,h⟩
  obtain⟨v,hv,hq⟩:=key
  obtain⟨vals,acts,h0,h1,h2,h3⟩:=kY rest (i0+1) _ hl' hq
  refine⟨fun|0=>v|j+1=>vals j,fun|0=>a|j+1=>acts j,E,?_,?_,h3⟩
  ·intro j
   cases j with
   | zero=>show acts 0=a.put (dr ops (i0+0)) v;rw[h0,Nat.add_zero,hdst]
   | succ j=>show acts (j+1)=(acts j).put (dr ops (i0+(j+1))) (vals j);rw[h1 j];simp[Nat.add_assoc,Nat.add_comm 1 j]
  ·intro j o' hj ho'
   cases j with
   | zero =>
    have:o'=o:=by rw[Nat.add_zero,ho]at ho';cases ho';rfl
    subst this
    exact hv
   | succ j=>exact h2 j o' (by simpa using hj) (by simpa [Nat.add_assoc,Nat.add_comm 1 j]using ho')
theorem aJ (h:eE ops=true) {j:Nat} {oj:Oper} (hj:ops[j]? = some oj) :
  (∀cs b,oj.op ≠ .select cs b)∧(∀c,oj.op ≠ .defer c)∧(∀e∈oj.after,Region.binds .any e=true→e.on<j) ∧
  ∀i oi,i<j→ops[i]? = some oi→oi.apart ops oj=true∨∃e∈oj.after,Region.binds .any e=true∧e.on=i:=by
 unfold eE at h
 have hlt:j<ops.size:=(Array.getElem?_eq_some_iff.1 hj).1
 have h1:=List.all_eq_true.1 h j (List.mem_range.2 hlt)
 simp only[hj,Bool.and_eq_true]at h1
 obtain⟨⟨h2,h3⟩,h4⟩:=h1
 refine⟨(fun cs b e=>by rw[e]at h2;cases h2),(fun c e=>by rw[e]at h2;cases h2),fun e he hb=>?_,fun i oi hi hoi=>?_⟩
 ·have:=(Array.all_eq_true'.1 h3) e he
  rw[hb]at this
  simpa using this
 ·have h5:=List.all_eq_true.1 h4 i (List.mem_range.2 hi)
  simp only[hoi,Bool.or_eq_true]at h5
  rcases h5 with h5|h5
  ·exact .inl h5
  ·obtain⟨e,he,hb⟩:=Array.any_eq_true'.1 h5
   simp only[Bool.and_eq_true,beq_iff_eq]at hb
   exact .inr ⟨e,he,hb.1,hb.2⟩
theorem db {j i:Nat} (h:tailB.Region.waitsB ops j i=true):∃oj,ops[j]? = some oj∧∃e∈oj.after,Region.binds .any e=true∧e.on=i:=by
 unfold tailB.Region.waitsB at h
 split at h
 ·rename_i oj hj
  obtain⟨e,he,hb⟩:=Array.any_eq_true'.1 h
  simp only[Bool.and_eq_true,beq_iff_eq]at hb
  exact⟨oj,hj,e,he,hb.1,hb.2⟩
 ·cases h
theorem bG {listed:Array Bool} {i:Nat} (hi:i<listed.size) (b c:Bool):listed.getD i b=listed.getD i c:=by
 simp[hi]
theorem a4 {listed:Array Bool} {i j:Nat} (hi:i<listed.size):(listed.setIfInBounds i true).getD j false=(listed.getD j false||j==i):=by
 rw[Array.getD_eq_getD_getElem?,Array.getD_eq_getD_getElem?,Array.getElem?_setIfInBounds]
 by_cases e:i=j
 ·subst e;simp[hi]
 ·rw[if_neg e]
  have:(j==i)=false:=by simp;omega
  simp[this]
variable {Q : Exit → Act → World → Prop}
theorem kf {l:List Oper} (hops:ops=l.toArray) (hO:eE ops=true) {k:Nat} (hT:∀t,k<t→t<ops.size→tailB.Region.waitsB ops t (t-1)=true):∀(m t:Nat) (listed:Array Bool) (a:Act) (W:World),ops.size-t=m→k≤t→t≤ops.size→listed.size=ops.size →
  (∀j,j<ops.size→listed.getD j false=decide (j<t))→OL r n P ops Q (l.drop t) a W→wpAnyIn (Fw r) n P .any ops Q m listed a W:=by
 intro m
 induction m with
 | zero =>
  intro t listed a W hm hk ht hs hl h
  have ht':t=ops.size:=by omega
  refine⟨?_,?_⟩
  ·rw[List.eq_nil_iff_forall_not_mem]
   intro i hi
   obtain⟨hun,o,ho,_⟩:=mem_ready.1 hi
   have hlt:=(Array.getElem?_eq_some_iff.1 ho).1
   have h2:=hl i hlt
   rw[bG (by omega) false true,hun]at h2
   simp at h2
   omega
  ·have:l.drop t=[]:=List.drop_eq_nil_iff.2 (by rw[ht',hops];simp)
   rw[this]at h
   exact h
 | succ m ih =>
  intro t listed a W hm hk ht hs hl h
  have htl:t<ops.size:=by omega
  obtain⟨o,ho⟩:∃o,ops[t]? = some o:=⟨_,Array.getElem?_eq_some_iff.2 ⟨htl,E⟩⟩
  have hrd:t∈Region.ready .any ops listed:=by
   refine mem_ready.2 ⟨?_,o,ho,fun e he hb=>?_⟩
   ·rw[bG (by omega) true false,hl t htl];simp
   ·have h1:=(aJ hO ho).2.2.1 e he hb
    rw[hl e.on (by omega)];simp[h1]
  refine⟨(fun h0=>by rw[h0]at hrd;cases hrd),fun i hi=>?_⟩
  have hit:i=t:=by
   obtain⟨hun,oi,hoi,hall⟩:=mem_ready.1 hi
   have hlt:=(Array.getElem?_eq_some_iff.1 hoi).1
   have h2:=hl i hlt
   rw[bG (by omega) false true,hun]at h2
   have hge:t≤i:=by simpa using h2
   by_cases e:i=t
   ·exact e
   ·obtain⟨oj,hoj,e',he,hb,hon⟩:=db (hT i (by omega) hlt)
    rw[hoi]at hoj;cases hoj
    have h3:=hall e' he hb
    rw[hl e'.on (by omega)]at h3
    simp at h3
    omega
  subst hit
  have hd:l.drop i=o::l.drop (i+1):=by
   have hlt:i<l.length:=by rw[hops]at htl;simpa using htl
   rw[List.drop_eq_getElem_cons hlt]
   have:l[i]=o:=by rw[hops]at ho;simpa [hlt]using ho
   rw[this]
  rw[hd]at h
  have hnext:∀a W,OL r n P ops Q (l.drop (i+1)) a W→wpAnyIn (Fw r) n P .any ops Q m (listed.setIfInBounds i true) a W:=fun a W h' =>
   ih (i+1) _ a W (by omega) (by omega) (by omega) (by simpa using hs) (fun j hj=>by
    rw[a4 (by omega),hl j hj]
    by_cases e:j=i
    ·subst e;simp
    ·have:(j==i)=false:=by simpa using e
     rw[this,Bool.or_false]
     congr 1
     apply propext
     omega) h'
  unfold wpOpIn
  simp only[ho]
  unfold OL at h
  split
  ·rename_i hw
   rw[if_pos hw]at h
   exact Oper.wpIn_mono hnext h
  ·rename_i hw
   rw[if_neg hw]at h
   exact⟨fun _ _=>trivial,hnext _ _ h⟩
def left (listed:Array Bool) (k:Nat):Nat:=((List.range k).filter fun j => !listed.getD j false).length
theorem gS {listed:Array Bool} {k:Nat} (h:left listed k=0):∀j,j<k→listed.getD j false=true:=by
 intro j hj
 unfold left at h
 have h1:=List.eq_nil_of_length_eq_zero h
 have h2:=List.filter_eq_nil_iff.1 h1 j (List.mem_range.2 hj)
 simpa using h2
theorem gb {listed:Array Bool} {i:Nat} (hi:i<listed.size) (hun:listed.getD i false=false):∀k,i<k→left listed k=left (listed.setIfInBounds i true) k+1
 | 0,h=>by omega
 | k+1,h=>by
  unfold left
  rw[List.range_succ,List.filter_append,List.filter_append,List.length_append,List.length_append]
  by_cases e:i=k
  ·subst e
   have:(List.range i).filter (fun j => !(listed.setIfInBounds i true).getD j false)=(List.range i).filter fun j => !listed.getD j false :=
    List.filter_congr fun j hj=>by
     rw[a4 hi]
     have:(j==i)=false:=by have:=List.mem_range.1 hj;simp;omega
     rw[this,Bool.or_false]
   rw[this]
   have h3:(listed.setIfInBounds i true).getD i false=true:=by rw[a4 hi];simp
   have f1:List.filter (fun j => !listed.getD j false) [i]=[i]:=by rw[List.filter_cons_of_pos (by rw[hun];rfl)];rfl
   have f2:List.filter (fun j => !(listed.setIfInBounds i true).getD j false) [i]=[]:=by rw[List.filter_cons_of_neg (by rw[h3];simp)];rfl
   rw[f1,f2]
   simp
  ·have ih:=gb hi hun k (by omega)
   unfold left at ih
   have:(listed.setIfInBounds i true).getD k false=listed.getD k false:=by
    rw[a4 hi]
    have:(k==i)=false:=by simp;omega
    rw[this,Bool.or_false]
   simp only[this,List.filter_cons,List.filter_nil]
   omega
theorem wp_draws {l:List Oper} (k:Nat) (hm:P.follows .mixedOrders=true) (hO:eE l.toArray=true) (hT:tailB l.toArray k=true) {id:Nat} {a0:Act} {W0:World} {C:World→Prop}
  (h0:C { W0 with drawn:=W0.drawn+1 })
  (hq:QW r n P l.toArray C (fun a'=>∀W,C W→OL r n P l.toArray Q (l.drop k) a' W) (l.take k) a0):(Code.region id l.toArray true).wpIn (Fw r) n P Q a0 W0:=by
 refine wpIn_region_any hm ?_
 obtain⟨ops,hops⟩:∃ops,ops=l.toArray:=⟨_,E⟩
 rw[←hops]at hO hT hq ⊢
 unfold tailB at hT
 simp only[Bool.and_eq_true,Bool.or_eq_true,decide_eq_true_eq]at hT
 obtain⟨hkN,hT⟩:=hT
 have hlen:(l.take k).length=k:=by rw[hops]at hkN;simp at hkN;simp;omega
 obtain⟨vals,acts,ha0,hacts,hvals,hK⟩:=kY (l.take k) 0 a0 (fun j hj=>by
  rw[hlen]at hj
  rw[hops];simp[hj]) hq
 rw[hlen]at hvals hK
 have hst:∀m,acts m=stA ops vals a0 (fun _=>true) m:=by
  intro m
  induction m with
  | zero=>exact ha0
  | succ m ih=>rw[hacts m,Nat.zero_add,ih];simp[stA]
 have hchain:∀t,k<t→t<ops.size→tailB.Region.waitsB ops t (t-1)=true:=fun t h1 h2=>by
  rcases hT with hT|hT
  ·omega
  ·have:=List.all_eq_true.1 hT.2 t (List.mem_range.2 h2)
   simp only[Bool.or_eq_true,decide_eq_true_eq]at this
   rcases this with h|h
   ·omega
   ·exact h
 -- while an operation of the first k is still to come,no later one comes up
 have hsink:∀(listed:Array Bool),listed.size=ops.size→(∀j oj,ops[j]? = some oj→listed.getD j false=true→∀e∈oj.after,Region.binds .any e=true→listed.getD e.on false=true) →
   (∀t,k≤t→t<ops.size→listed.getD t false=false)→∀(d i:Nat),k-i=d→i<k→listed.getD i false=false→∀t,k≤t→t∉Region.ready .any ops listed:=by
  intro listed hsz hcl htl d
  induction d using Nat.strongRecOn with
  | _ d ih =>
   intro i hd hi hun t ht hr
   obtain⟨htu,ot,hot,hall⟩:=mem_ready.1 hr
   have htlt:t<ops.size:=(Array.getElem?_eq_some_iff.1 hot).1
   have hT':(List.range k).all (fun i=>(List.range (k+1)).any fun j=>decide (i<j)&&tailB.Region.waitsB ops j i)=true:=by
    rcases hT with hT|hT
    ·omega
    ·exact hT.1
   by_cases htk:t=k
   ·subst htk
    have h1:=List.all_eq_true.1 hT' i (List.mem_range.2 hi)
    obtain⟨j,hj,hj2⟩:=List.any_eq_true.1 h1
    simp only[Bool.and_eq_true,decide_eq_true_eq]at hj2
    obtain⟨oj,hoj,e,he,hb,hon⟩:=db hj2.2
    have hjle:j≤t:=by have:=List.mem_range.1 hj;omega
    by_cases hjt:j=t
    ·subst hjt
     rw[hot]at hoj;cases hoj
     have h2:=hall e he hb
     rw[hon,hun]at h2;cases h2
    ·cases hlj:listed.getD j false with
     | true =>
      have h2:=hcl j oj hoj hlj e he hb
      rw[hon,hun]at h2;cases h2
     | false=>exact ih (t-j) (by omega) j E (by omega) hlj t (Nat.le_refl _) hr
   ·obtain⟨oj,hoj,e,he,hb,hon⟩:=db (hchain t (by omega) htlt)
    rw[hot]at hoj;cases hoj
    have h2:=hall e he hb
    rw[hon,htl (t-1) (by omega) (by omega)]at h2;cases h2
 have main:∀(c:Nat) (listed:Array Bool) (W:World),C W→listed.size=ops.size→left listed k=c →
   (∀j oj,ops[j]? = some oj→listed.getD j false=true→∀e∈oj.after,Region.binds .any e=true→listed.getD e.on false=true) →
   (∀t,k≤t→t<ops.size→listed.getD t false=false) →
   wpAnyIn (Fw r) n P .any ops Q (c+(ops.size-k)) listed (stA ops vals a0 (fun j=>listed.getD j false) k) W:=by
  intro c
  induction c with
  | zero =>
   intro listed W hC hsz hc hcl htl
   have hall:=gS hc
   have hs:stA ops vals a0 (fun j=>listed.getD j false) k=acts k:=by
    rw[hst k]
    have:∀m,m≤k→stA ops vals a0 (fun j=>listed.getD j false) m=stA ops vals a0 (fun _=>true) m:=by
     intro m
     induction m with
     | zero=>intro _;rfl
     | succ m ih=>intro hm;simp only[stA,ih (show m≤k by omega),hall m (by omega)]
    exact this k (Nat.le_refl _)
   rw[hs,Nat.zero_add]
   exact kf hops hO hchain _ k listed _ W E (Nat.le_refl _) hkN hsz (fun j hj=>by
    by_cases h:j<k
    ·rw[hall j h];simp[h]
    ·rw[htl j (by omega) hj];simp[h]) (hK W hC)
  | succ c ih =>
   intro listed W hC hsz hc hcl htl
   -- one of the first k is still to come
   have hex:∃i,i<k∧listed.getD i false=false:=by
    apply Classical.byContradiction
    intro hno
    have:left listed k=0:=by
     unfold left
     rw[List.filter_eq_nil_iff.2 fun j hj=>?_]
     ·rfl
     ·have hj':=List.mem_range.1 hj
      cases hl:listed.getD j false with
      | true=>simp
      | false=>exact absurd ⟨j,hj',hl⟩ hno
    omega
   obtain⟨i0,hi0,hun0⟩:=hex
   have hrdy:∀j,j<ops.size→listed.getD j false=false→∃i,i∈Region.ready .any ops listed:=by
    intro j
    induction j using Nat.strongRecOn with
    | _ j ihj =>
     intro hj hun
     obtain⟨o,ho⟩:∃o,ops[j]? = some o:=⟨_,Array.getElem?_eq_some_iff.2 ⟨hj,E⟩⟩
     by_cases hall:∀e∈o.after,Region.binds .any e=true→listed.getD e.on false=true
     ·exact⟨j,mem_ready.2 ⟨by rw[bG (by omega) true false];exact hun,o,ho,hall⟩⟩
     ·have:∃e∈o.after,Region.binds .any e=true∧listed.getD e.on false=false:=by
       apply Classical.byContradiction
       intro hno
       exact hall fun e he hb=>by
        cases hl:listed.getD e.on false with
        | true=>rfl
        | false=>exact absurd ⟨e,he,hb,hl⟩ hno
      obtain⟨e,he,hb,hf⟩:=this
      have hlt:=(aJ hO ho).2.2.1 e he hb
      exact ihj e.on hlt (by omega) hf
   obtain⟨i1,hi1⟩:=hrdy i0 (by omega) hun0
   rw[show c+1+(ops.size-k)=(c+(ops.size-k))+1 by omega]
   refine⟨fun h=>(by rw[h]at hi1;cases hi1),fun i hi=>?_⟩
   obtain⟨hun,o,ho,hall⟩:=mem_ready.1 hi
   have hlt:i<ops.size:=(Array.getElem?_eq_some_iff.1 ho).1
   have hik:i<k:=by
    rcases Nat.lt_or_ge i k with h|h
    ·exact h
    ·exact absurd hi (hsink listed hsz hcl htl _ i0 E hi0 hun0 i h)
   rw[bG (by omega) true false]at hun
   obtain⟨hsel,hdef,_,hord⟩:=aJ hO ho
   -- what it looks at is as in the text's order
   have hlook:∀j,j<k→(listed.getD j false)≠decide (j<i)→∀d,dr ops j=some d→¬d∈o.looksAt ops:=by
    intro j hj hne d hd hmem
    obtain⟨oj,hoj⟩:∃oj,ops[j]? = some oj:=⟨_,Array.getElem?_eq_some_iff.2 ⟨by omega,E⟩⟩
    have hdj:oj.dst=some d:=by simpa [dr,hoj]using hd
    rcases Nat.lt_trichotomy j i with h|h|h
    ·-- not listed,yet the operation is ready: it does not wait for it
     have hl:listed.getD j false=false:=by
      cases hl:listed.getD j false with
      | false=>rfl
      | true=>exact absurd (by rw[hl];simp[h]) hne
     rcases hord j oj h hoj with hap|⟨e,he,hb,hon⟩
     ·exact(Oper.apart_spec hap).1 d hdj hmem
     ·have:=hall e he hb
      rw[hon,hl]at this;cases this
    ·subst h
     exact absurd (by rw[hun];simp) hne
    ·have hl:listed.getD j false=true:=by
      cases hl:listed.getD j false with
      | true=>rfl
      | false=>exact absurd (by rw[hl];simp;omega) hne
     rcases (aJ hO hoj).2.2.2 i o h ho with hap|⟨e,he,hb,hon⟩
     ·exact(Oper.apart_spec hap).2.2 d hdj hmem
     ·have:=hcl j oj hoj hl e he hb
      rw[hon,hun]at this;cases this
   have hag:=eY (ops:=ops) vals a0 (fun x=>x∈o.looksAt ops) (fun j=>listed.getD j false) (fun j=>decide (j<i)) k hlook
   have hlex:stA ops vals a0 (fun j=>decide (j<i)) k=acts i:=by
    rw[hst i]
    have h1:∀m,m≤i→stA ops vals a0 (fun j=>decide (j<i)) m=stA ops vals a0 (fun _=>true) m:=by
     intro m
     induction m with
     | zero=>intro _;rfl
     | succ m ih=>intro hm;simp only[stA];rw[ih (by omega)];simp;omega
    have h2:∀m,i≤m→stA ops vals a0 (fun j=>decide (j<i)) m=stA ops vals a0 (fun j=>decide (j<i)) i:=by
     intro m
     induction m with
     | zero =>
      intro h
      have:i=0:=by omega
      subst this;rfl
     | succ m ih =>
      intro hm
      by_cases e:i=m+1
      ·rw[e]
      ·simp only[stA]
       rw[if_neg (by simp;omega)]
       exact ih (by omega)
    rw[h2 k (by omega),h1 i (Nat.le_refl _)]
   rw[hlex]at hag
   obtain⟨hev,hwa⟩:=dV (ops:=ops) (o:=o) (a:=stA ops vals a0 (fun j=>listed.getD j false) k) (b:=acts i) hag.1
   have hins:stA ops vals a0 (fun j=>(listed.setIfInBounds i true).getD j false) k=(stA ops vals a0 (fun j=>listed.getD j false) k).put o.dst (vals i):=by
    have e1:(fun j=>(listed.setIfInBounds i true).getD j false)=fun j=>listed.getD j false||j==i:=funext fun j=>a4 (by omega)
    rw[e1,eU (ops:=ops) vals a0 (fun j=>listed.getD j false) i hun k hik (fun j h1 h2 hS d hd he=>?_)]
    ·congr 1
     simp[dr,ho]
    ·obtain⟨oj,hoj⟩:∃oj,ops[j]? = some oj:=⟨_,Array.getElem?_eq_some_iff.2 ⟨by omega,E⟩⟩
     have hdj:oj.dst=some d:=by simpa [dr,hoj]using hd
     have hdi:o.dst=some d:=by simpa [dr,ho]using he
     rcases (aJ hO hoj).2.2.2 i o h1 ho with hap|⟨e,he,hb,hon⟩
     ·exact(Oper.apart_spec hap).2.1 d hdi hdj
     ·have:=hcl j oj hoj hS e he hb
      rw[hon,hun]at this;cases this
   have hgo:∀W',C W'→wpAnyIn (Fw r) n P .any ops Q (c+(ops.size-k)) (listed.setIfInBounds i true) ((stA ops vals a0 (fun j=>listed.getD j false) k).put o.dst (vals i)) W':=fun W' hC'=>by
    rw[←hins]
    have hl:=gb (by omega) hun k hik
    refine ih _ W' hC' (by simpa using hsz) (by omega) (fun j oj hoj hlj e he hb=>?_) (fun t h1 h2=>?_)
    ·rw[a4 (by omega)]at hlj ⊢
     by_cases e':j=i
     ·subst e'
      rw[ho]at hoj;cases hoj
      rw[hall e he hb];rfl
     ·have:(j==i)=false:=by simpa using e'
      rw[this,Bool.or_false]at hlj
      rw[hcl j oj hoj hlj e he hb];rfl
    ·rw[a4 (by omega),htl t h1 h2]
     simp;omega
   unfold wpOpIn
   simp only[ho]
   rcases hvals i o hik (by rw[Nat.zero_add];exact ho)with⟨hw,hy⟩|⟨hw,hv⟩
   ·rw[hwa,if_pos hw]
    refine d6 (gT hsel hdef (fun x hx=>(hev x hx).symm) hy) hC ?_
    exact hgo
   ·rw[hwa,if_neg (by rw[hw];simp)]
    refine⟨fun _ _=>trivial,?_⟩
    have:=hgo W hC
    rwa [hv]at this
 have hfin:=main (left (Array.replicate ops.size false) k) (Array.replicate ops.size false) _ h0 (by simp) E (fun j oj hoj hl=>by
  have:j<ops.size:=(Array.getElem?_eq_some_iff.1 hoj).1
  simp[this]at hl) (fun t _ h=>by simp[h])
 have e1:left (Array.replicate ops.size false) k+(ops.size-k)=ops.size:=by
  have:left (Array.replicate ops.size false) k=k:=by
   unfold left
   rw[List.filter_eq_self.2 fun j hj=>?_]
   ·simp
   ·have:=List.mem_range.1 hj
    simp[show j<ops.size by omega]
  omega
 have e2:stA ops vals a0 (fun j=>(Array.replicate ops.size false).getD j false) k=a0:=by
  have:∀m,m≤k→stA ops vals a0 (fun j=>(Array.replicate ops.size false).getD j false) m=a0:=by
   intro m
   induction m with
   | zero=>intro _;rfl
   | succ m ih=>intro hm;simp only[stA];rw[ih (by omega)];simp[show m<ops.size by omega]
  exact this k (Nat.le_refl _)
 rw[e1,e2]at hfin
 exact hfin
end
open Go.RowKit (Below)
structure Res where
 dom:Nat→Prop
 holds:World→Prop
 loc:∀W W',(∀b,dom b→W'.heap[b]? = W.heap[b]?)→W.heap.size≤W'.heap.size→holds W→holds W'
 inb:∀W,holds W→∀b,dom b→b<W.heap.size
theorem bv {W:World} {b:Nat} {o:Obj} (h:W.heap[b]? = some o):b<W.heap.size:=(Array.getElem?_eq_some_iff.1 h).1
def blk (b:Nat) (o:Obj):Res where
 dom c:=c=b
 holds W:=W.heap[b]? = some o
 loc W W' h _ hh:=(h b E).trans hh
 inb W h c hc:=by subst hc;exact bv h
structure Ext (w0 W:World) (L:List Res):Prop where
 below:Below w0.heap.size w0 W
 all:∀(i:Nat) (p:Res),L[i]? = some p→p.holds W
 new:∀(i:Nat) (p:Res),L[i]? = some p→∀b,p.dom b→w0.heap.size≤b
 sep:∀(i j:Nat) (p q:Res),L[i]? = some p→L[j]? = some q→i≠j→∀b,p.dom b→¬q.dom b
theorem Ext.nil (w:World):Ext w w []:=⟨Below.refl _ _,fun i p h=>by simp at h,fun i p h=>by simp at h,fun i j p q h=>by simp at h⟩
theorem Ext.size {w0 W:World} {L:List Res} (h:Ext w0 W L):w0.heap.size≤W.heap.size:=h.below.size
theorem Ext.keep {w0 W W':World} {L:List Res} (h:Ext w0 W L) (hb:Below w0.heap.size w0 W') (hs:W.heap.size≤W'.heap.size) (hk:∀(i:Nat) (p:Res),L[i]? = some p→∀b,p.dom b→W'.heap[b]? = W.heap[b]?):Ext w0 W' L :=
 ⟨hb,fun i p hp=>p.loc W W' (hk i p hp) hs (h.all i p hp),h.new,h.sep⟩
theorem Ext.drawn {w0 W:World} {L:List Res} (h:Ext w0 W L):Ext w0 { W with drawn:=W.drawn+1 } L :=
 h.keep (h.below.trans ⟨E,E,E,Nat.le_refl _,fun _ _=>E⟩) (Nat.le_refl _) (fun _ _ _ _ _=>E)
theorem Ext.below' {w0 W W':World} {L:List Res} (h:Ext w0 W L) (hb:Below W.heap.size W W'):Ext w0 W' L :=
 h.keep (h.below.trans (hb.mono h.size)) hb.size (fun i p hp b hd=>hb.block b (p.inb W (h.all i p hp) b hd))
theorem Ext.mem {w0 W:World} {L:List Res} (h:Ext w0 W L) {i:Nat} {p:Res} (hp:L[i]? = some p):p.holds W:=h.all i p hp
theorem Ext.snoc {w0 W:World} {L:List Res} (h:Ext w0 W L) {p:Res} (hp:p.holds W) (hn:∀b,p.dom b→w0.heap.size≤b) (ha:∀(i:Nat) (q:Res),L[i]? = some q→∀b,q.dom b→¬p.dom b):Ext w0 W (L++[p]):=by
 have hget:∀(i:Nat) (q:Res),(L++[p])[i]? = some q→L[i]? = some q∨(i=L.length∧q=p):=by
  intro i q hq
  rcases Nat.lt_or_ge i L.length with hl|hl
  ·rw[List.getElem?_append_left hl]at hq;exact .inl hq
  ·rw[List.getElem?_append_right hl]at hq
   by_cases e:i=L.length
   ·subst e;simp at hq;exact .inr ⟨E,hq.symm⟩
   ·rw[List.getElem?_eq_none (by simp;omega)]at hq;cases hq
 refine⟨h.below,fun i q hq=>?_,fun i q hq=>?_,fun i j q s hq hs hne b hb=>?_⟩
 ·rcases hget i q hq with h1|⟨_,rfl⟩
  ·exact h.all i q h1
  ·exact hp
 ·rcases hget i q hq with h1|⟨_,rfl⟩
  ·exact h.new i q h1
  ·exact hn
 ·rcases hget i q hq with h1|⟨rfl,rfl⟩
  ·rcases hget j s hs with h2|⟨rfl,rfl⟩
   ·exact h.sep i j q s h1 h2 hne b hb
   ·exact ha i q h1 b hb
  ·rcases hget j s hs with h2|⟨rfl,rfl⟩
   ·exact fun hs'=>ha j s h2 b hs' hb
   ·exact absurd E hne
theorem Ext.alloc {w0 W:World} {L:List Res} (h:Ext w0 W L) (o:Obj):Ext w0 (W.alloc o) (L++[blk W.heap.size o]):=by
 have h1:Ext w0 (W.alloc o) L:=h.keep (h.below.alloc h.size o) (by simp) (fun i p hp b hd=>Below.heap_alloc W o b (p.inb W (h.all i p hp) b hd))
 refine h1.snoc (p:=blk W.heap.size o) (World.alloc_heap_new W o) (fun b hb=>by cases hb;exact h.size) (fun i q hq b hb hb'=>?_)
 have hb'':b=W.heap.size:=hb'
 have:=q.inb W (h.all i q hq) b hb
 omega
theorem Ext.set {w0 W W':World} {L:List Res} {i:Nat} {p:Res} (h:Ext w0 W L) (hp:L[i]? = some p) (q:Res) (hq:q.holds W')
  (ho:W'.os=W.os) (ht:W'.tape=W.tape) (hu:W'.output=W.output) (hs:W.heap.size≤W'.heap.size)
  (hk:∀b,b<W.heap.size→¬p.dom b→W'.heap[b]? = W.heap[b]?) (hd:∀b,q.dom b→p.dom b∨W.heap.size≤b):Ext w0 W' (L.set i q):=by
 have hb:Below w0.heap.size w0 W':=h.below.trans ⟨ho,ht,hu,hs,fun b hb=>hk b (Nat.lt_of_lt_of_le hb h.size) (fun hd=>by have:=h.new i p hp b hd;omega)⟩
 have hget:∀(j:Nat) (s:Res),(L.set i q)[j]? = some s→(j≠i∧L[j]? = some s)∨(j=i∧s=q):=by
  intro j s hj
  rw[List.getElem?_set]at hj
  by_cases e:i=j
  ·subst e
   rw[if_pos E]at hj
   split at hj
   ·cases hj;exact .inr ⟨E,E⟩
   ·cases hj
  ·rw[if_neg e]at hj;exact .inl ⟨fun e'=>e e'.symm,hj⟩
 have hin:∀(j:Nat) (s:Res),L[j]? = some s→∀b,s.dom b→b<W.heap.size:=fun j s hj b hb=>s.inb W (h.all j s hj) b hb
 refine⟨hb,fun j s hj=>?_,fun j s hj b hb=>?_,fun j k s u hj hk' hne b hb hu'=>?_⟩
 ·rcases hget j s hj with⟨hne,h1⟩|⟨_,rfl⟩
  ·exact s.loc W W' (fun b hb=>hk b (hin j s h1 b hb) (h.sep j i s p h1 hp hne b hb)) hs (h.all j s h1)
  ·exact hq
 ·rcases hget j s hj with⟨_,h1⟩|⟨_,rfl⟩
  ·exact h.new j s h1 b hb
  ·rcases hd b hb with h2|h2
   ·exact h.new i p hp b h2
   ·exact Nat.le_trans h.size h2
 ·rcases hget j s hj with⟨hnj,h1⟩|⟨rfl,rfl⟩
  ·rcases hget k u hk' with⟨hnk,h2⟩|⟨rfl,rfl⟩
   ·exact h.sep j k s u h1 h2 hne b hb hu'
   ·rcases hd b hu' with h3|h3
    ·exact h.sep j _ s p h1 hp hnj b hb h3
    ·have:=hin j s h1 b hb;omega
  ·rcases hget k u hk' with⟨hnk,h2⟩|⟨rfl,rfl⟩
   ·rcases hd b hb with h3|h3
    ·exact h.sep k _ u p h2 hp hnk b hu' h3
    ·have:=hin k u h2 b hu';omega
   ·exact absurd E hne
theorem Ext.take {w0 W:World} {L:List Res} (h:Ext w0 W L) (k:Nat):Ext w0 W (L.take k):=by
 have hget:∀(i:Nat) (q:Res),(L.take k)[i]? = some q→L[i]? = some q:=fun i q hq=>by
  rw[List.getElem?_take]at hq
  split at hq
  ·exact hq
  ·cases hq
 exact⟨h.below,fun i q hq=>h.all i q (hget i q hq),fun i q hq=>h.new i q (hget i q hq),fun i j q s hq hs=>h.sep i j q s (hget i q hq) (hget j s hs)⟩
theorem Ext.append {w0 W W':World} {L L':List Res} (h:Ext w0 W L) (h':Ext W W' L'):Ext w0 W' (L++L'):=by
 have h1:Ext w0 W' L:=h.below' h'.below
 have hget:∀(i:Nat) (q:Res),(L++L')[i]? = some q→(i<L.length∧L[i]? = some q)∨(L.length≤i∧L'[i-L.length]? = some q):=by
  intro i q hq
  rcases Nat.lt_or_ge i L.length with hl|hl
  ·rw[List.getElem?_append_left hl]at hq;exact .inl ⟨hl,hq⟩
  ·rw[List.getElem?_append_right hl]at hq;exact .inr ⟨hl,hq⟩
 have hap:∀(i j:Nat) (p q:Res),L[i]? = some p→L'[j]? = some q→∀b,p.dom b→¬q.dom b:=fun i j p q hp hq b hb hb'=>by
  have:=p.inb W (h.all i p hp) b hb
  have:=h'.new j q hq b hb'
  omega
 refine⟨h1.below,fun i q hq=>?_,fun i q hq b hb=>?_,fun i j q s hq hs hne b hb=>?_⟩
 ·rcases hget i q hq with⟨_,h2⟩|⟨_,h2⟩
  ·exact h1.all i q h2
  ·exact h'.all _ q h2
 ·rcases hget i q hq with⟨_,h2⟩|⟨_,h2⟩
  ·exact h.new i q h2 b hb
  ·exact Nat.le_trans h.size (h'.new _ q h2 b hb)
 ·rcases hget i q hq with⟨h3,h2⟩|⟨h3,h2⟩
  ·rcases hget j s hs with⟨h5,h4⟩|⟨h5,h4⟩
   ·exact h.sep i j q s h2 h4 hne b hb
   ·exact hap _ _ q s h2 h4 b hb
  ·rcases hget j s hs with⟨h5,h4⟩|⟨h5,h4⟩
   ·exact fun hs'=>hap _ _ s q h4 h2 b hs' hb
   ·exact h'.sep _ _ q s h2 h4 (by omega) b hb
section
variable {r : Option Nat} {n : Nat} {P : Program} {ops : Array Oper} {Q : Exit → Act → World → Prop} {w0 : World} {L L' : List Res} {m : Nat} {tm : Nat → Value} {d : List Deferred}
def OX (r:Option Nat) (n:Nat) (P:Program) (ops:Array Oper) (Q:Exit→Act→World→Prop) (w0:World) (L:List Res) (l:List Oper) (m:Nat) (tm:Nat→Value) (d:List Deferred):Prop :=
 ∀W,Ext w0 W L→OL r n P ops Q l (act m tm d) W
def QX (r:Option Nat) (n:Nat) (P:Program) (ops:Array Oper) (Q:Exit→Act→World→Prop) (w0:World) (L:List Res) (tail:List Oper) (l:List Oper) (m:Nat) (tm:Nat→Value) (d:List Deferred):Prop :=
 QW r n P ops (fun W=>Ext w0 W L) (fun a'=>∀W,Ext w0 W L→OL r n P ops Q tail a' W) l (act m tm d)
def CX (r:Option Nat) (n:Nat) (P:Program) (c:Code) (Q:Exit→Act→World→Prop) (w0:World) (L:List Res) (m:Nat) (tm:Nat→Value) (d:List Deferred):Prop :=
 ∀W,Ext w0 W L→c.wpIn (Fw r) n P Q (act m tm d) W
def EX (Q:Exit→Act→World→Prop) (e:Exit) (w0:World) (L:List Res) (m:Nat) (tm:Nat→Value) (d:List Deferred):Prop :=
 ∀W,Ext w0 W L→Q e (act m tm d) W
theorem oN (h:EX Q .normal w0 L m tm d):OX r n P ops Q w0 L [] m tm d:=h
theorem oY {t:Tmp} {op:Op} {ty:TypeId} {pos:String} {af:Array Edge} {g:Option (Nat × Bool)} {rest:List Oper} {v:Value}
  (hw:cZ ops m tm ⟨some t,op,ty,pos,af,g⟩=true) (hy:OpY r n P ⟨some t,op,ty,pos,af,g⟩ (opv m tm) (fun W=>Ext w0 W L) (fun W=>Ext w0 W L') v)
  (h:OX r n P ops Q w0 L' rest m (upd tm t v) d):OX r n P ops Q w0 L (⟨some t,op,ty,pos,af,g⟩::rest) m tm d:=fun W hW=>by
 unfold OL
 rw[a7,if_pos hw]
 refine d6 (C:=fun W=>Ext w0 W L) (C':=fun W=>Ext w0 W L') (v:=v) (by rw[bW];exact hy) hW ?_
 intro W' hW'
 rw[cj]
 exact h W' hW'
theorem cg {op:Op} {ty:TypeId} {pos:String} {af:Array Edge} {g:Option (Nat × Bool)} {rest:List Oper} {v:Value}
  (hw:cZ ops m tm ⟨none,op,ty,pos,af,g⟩=true) (hy:OpY r n P ⟨none,op,ty,pos,af,g⟩ (opv m tm) (fun W=>Ext w0 W L) (fun W=>Ext w0 W L') v)
  (h:OX r n P ops Q w0 L' rest m tm d):OX r n P ops Q w0 L (⟨none,op,ty,pos,af,g⟩::rest) m tm d:=fun W hW=>by
 unfold OL
 rw[a7,if_pos hw]
 refine d6 (C:=fun W=>Ext w0 W L) (C':=fun W=>Ext w0 W L') (v:=v) (by rw[bW];exact hy) hW ?_
 intro W' hW'
 exact h W' hW'
theorem oSk {t:Tmp} {op:Op} {ty:TypeId} {pos:String} {af:Array Edge} {g:Option (Nat × Bool)} {rest:List Oper}
  (hw:cZ ops m tm ⟨some t,op,ty,pos,af,g⟩=false) (h:OX r n P ops Q w0 L rest m (upd tm t undef) d):OX r n P ops Q w0 L (⟨some t,op,ty,pos,af,g⟩::rest) m tm d:=fun W hW=>by
 unfold OL
 rw[a7,if_neg (by rw[hw];simp),cj]
 exact h W hW
variable {tail : List Oper}
theorem bt (h:OX r n P ops Q w0 L tail m tm d):QX r n P ops Q w0 L tail [] m tm d:=h
theorem qY {t:Tmp} {op:Op} {ty:TypeId} {pos:String} {af:Array Edge} {g:Option (Nat × Bool)} {rest:List Oper} {v:Value}
  (hw:cZ ops m tm ⟨some t,op,ty,pos,af,g⟩=true) (hy:OpY r n P ⟨some t,op,ty,pos,af,g⟩ (opv m tm) (fun W=>Ext w0 W L) (fun W=>Ext w0 W L) v)
  (h:QX r n P ops Q w0 L tail rest m (upd tm t v) d):QX r n P ops Q w0 L tail (⟨some t,op,ty,pos,af,g⟩::rest) m tm d:=by
 unfold QX QW
 rw[a7,if_pos hw,bW]
 refine⟨v,hy,?_⟩
 rw[cj]
 exact h
theorem ab {t:Tmp} {op:Op} {ty:TypeId} {pos:String} {af:Array Edge} {g:Option (Nat × Bool)} {rest:List Oper}
  (hw:cZ ops m tm ⟨some t,op,ty,pos,af,g⟩=false) (h:QX r n P ops Q w0 L tail rest m (upd tm t undef) d):QX r n P ops Q w0 L tail (⟨some t,op,ty,pos,af,g⟩::rest) m tm d:=by
 unfold QX QW
 rw[a7,if_neg (by rw[hw];simp),cj]
 exact h
theorem cR {id:Nat} {l:List Oper} (h:OX r n P l.toArray Q w0 L l m tm d):CX r n P (.region id l.toArray false) Q w0 L m tm d :=
 fun W hW=>wpIn_region_lit (kc l _ W (h W hW))
theorem aK (k:Nat) {id:Nat} {l:List Oper} (hm:P.follows .mixedOrders=true) (hO:eE l.toArray=true) (hT:tailB l.toArray k=true)
  (h:QX r n P l.toArray Q w0 L (l.drop k) (l.take k) m tm d):CX r n P (.region id l.toArray true) Q w0 L m tm d :=
 fun _ hW=>wp_draws k hm hO hT (C:=fun W=>Ext w0 W L) hW.drawn h
theorem cS {x y:Code} (h:CX r n P x (Exit.then (y.wpIn (Fw r) n P Q) Q) w0 L m tm d):CX r n P (.seq x y) Q w0 L m tm d:=fun W hW=>wpIn_seq (h W hW)
theorem cT {c:Operand} {x y:Code} (hc:opv m tm c=.bool true) (h:CX r n P x Q w0 L m tm d):CX r n P (.cond c x y) Q w0 L m tm d:=fun W hW =>
 wpIn_cond_true (by rw[bW];exact hc) (h W hW)
theorem cF {c:Operand} {x y:Code} (hc:opv m tm c=.bool false) (h:CX r n P y Q w0 L m tm d):CX r n P (.cond c x y) Q w0 L m tm d:=fun W hW =>
 wpIn_cond_false (by rw[bW];exact hc) (h W hW)
theorem cB {id:Nat} {x:Code} (h:CX r n P x (Exit.inBlock id Q) w0 L m tm d):CX r n P (.block id x) Q w0 L m tm d:=fun W hW=>wpIn_block (h W hW)
theorem cK (h:EX Q .normal w0 L m tm d):CX r n P .skip Q w0 L m tm d:=fun W hW=>wpIn_skip (h W hW)
theorem ag (h:EX Q .ret w0 L m tm d):CX r n P .ret Q w0 L m tm d:=fun W hW=>wpIn_ret (h W hW)
theorem aR {id:Nat} (h:EX Q (.exit id) w0 L m tm d):CX r n P (.exit id) Q w0 L m tm d:=fun W hW=>wpIn_exit (h W hW)
theorem eT {x:Code} {Q':Exit→Act→World→Prop} (h:CX r n P x Q w0 L m tm d):EX (Exit.then (x.wpIn (Fw r) n P Q) Q') .normal w0 L m tm d:=h
theorem aa {J:Act→World→Prop} {Q':Exit→Act→World→Prop} (h:EX Q' .ret w0 L m tm d):EX (Exit.then J Q') .ret w0 L m tm d:=h
theorem al {J:Act→World→Prop} {Q':Exit→Act→World→Prop} {i:Nat} (h:EX Q' (.exit i) w0 L m tm d):EX (Exit.then J Q') (.exit i) w0 L m tm d:=h
theorem aA {id:Nat} {Q':Exit→Act→World→Prop} (h:EX Q' .ret w0 L m tm d):EX (Exit.inBlock id Q') .ret w0 L m tm d:=h
theorem ay {id:Nat} {Q':Exit→Act→World→Prop} (h:EX Q' .normal w0 L m tm d):EX (Exit.inBlock id Q') .normal w0 L m tm d:=h
theorem ak {id:Nat} {Q':Exit→Act→World→Prop} (h:EX Q' .normal w0 L m tm d):EX (Exit.inBlock id Q') (.exit id) w0 L m tm d:=fun W hW=>by
 show(if id=id then Q' .normal _ _ else Q' (.exit id) _ _)
 rw[if_pos E]
 exact h W hW
theorem cN {id i:Nat} {Q':Exit→Act→World→Prop} (hne:(i==id)=false) (h:EX Q' (.exit i) w0 L m tm d):EX (Exit.inBlock id Q') (.exit i) w0 L m tm d:=fun W hW=>by
 show(if i=id then Q' .normal _ _ else Q' (.exit i) _ _)
 rw[if_neg (by simpa using hne)]
 exact h W hW
theorem bM {e:Exit} (k:Nat) (h:EX Q e w0 (L.take k) m tm d):EX Q e w0 L m tm d:=fun W hW=>h W (hW.take k)
end
open Go.RowKit (Below)
theorem ik (x:Int):IntKind.i64.wrap x=w64 x:=by
 show(if(IntKind.i64.signed&&decide (x % 2 ^ IntKind.i64.bits≥2 ^ (IntKind.i64.bits-1)))=true then x % 2 ^ IntKind.i64.bits-2 ^ IntKind.i64.bits else x % 2 ^ IntKind.i64.bits)=w64 x
 unfold w64
 simp only[IntKind.signed,IntKind.bits,Bool.true_and,decide_eq_true_eq,ge_iff_le]
 split <;> omega
def scB (P:Program) (t:TypeId):Bool:=match P.underlying t with
 | some (.struct _)=>false|some (.array ..)=>false|some _=>(P.info? t).any (fun i=>i.size==1)|none=>false
def jS (P:Program) (t:TypeId) (k:Nat):Bool:=match P.underlying t with
 | some (.struct _)=>(P.info? t).any (fun i=>i.size==k)|some (.array ..)=>(P.info? t).any (fun i=>i.size==k)|_=>false
def bV (P:Program) (s f:Nat):Option Nat:=match P.underlying s with
 | some (.struct fs)=>match fs[f]? with
  | some fd=>match P.info? fd.type with
   | some i=>if i.size=0 then none else some fd.offset
   | none=>none
  | none=>none
 | _=>none
def kZ (P:Program) (t:TypeId):Option (Nat × Nat):=match P.underlying t with
 | some (.array n e)=>(P.info? e).map fun i=>(n,i.size)
 | _=>none
def kK (P:Program) (t:TypeId):Option (TypeId × Nat):=match P.underlying t with
 | some (.slice e)=>(P.info? e).map fun i=>(e,i.size)
 | _=>none
def bg (P:Program) (t:TypeId):Option Value:=(P.info? t).bind (·.zero)
section
variable {r : Option Nat} {n : Nat} {P : Program} {ρ : Operand → Value} {w0 : World} {L : List Res}
variable {t : Option Tmp} {ty : TypeId} {pos : String} {af : Array Edge} {g : Option (Nat × Bool)} {C C' : World → Prop}
theorem cr {op:Op} (hd:∀c,op ≠ .defer c):Oper.semAt r ρ ⟨t,op,ty,pos,af,g⟩=execOp ρ ⟨t,op,ty,pos,af,g⟩:=by
 cases r with
 | none=>exact Oper.semAt_none _ _
 | some l=>exact Oper.semAt_some l _ _ hd
theorem aI {op:Op} {v:Value} (hd:∀c,op ≠ .defer c) (h:∀W,C W→(execOp ρ ⟨t,op,ty,pos,af,g⟩).run P W=.ok (.value v) W):OpY r n P ⟨t,op,ty,pos,af,g⟩ ρ C C v:=fun W hW=>by
 rw[cr hd,h W hW]
 exact⟨E,hW⟩
theorem dN {x:Operand} {v:Value} (hx:ρ x=v):OpY r n P ⟨t,.move x,ty,pos,af,g⟩ ρ C C v :=
 aI (by intro c h;cases h) (fun W _=>by subst hx;rfl)
theorem yMI {x:Operand} {k:IntKind} {a:Int} (hx:ρ x=.int k a):OpY r n P ⟨t,.move x,ty,pos,af,g⟩ ρ C C (.int k a):=dN hx
theorem yMB {x:Operand} {a:Bool} (hx:ρ x=.bool a):OpY r n P ⟨t,.move x,ty,pos,af,g⟩ ρ C C (.bool a):=dN hx
theorem aN {x:Operand} {b o:Nat} (hx:ρ x=.pointer (some ⟨b,o,none⟩)):OpY r n P ⟨t,.move x,ty,pos,af,g⟩ ρ C C (.pointer (some ⟨b,o,none⟩)):=dN hx
theorem yMS {x:Operand} {a:Option Addr} {l c:Nat} (hx:ρ x=.slice a l c):OpY r n P ⟨t,.move x,ty,pos,af,g⟩ ρ C C (.slice a l c):=dN hx
theorem du {x:Operand} {f:Fn} {a c:Array Value} (hx:ρ x=.func f a c):OpY r n P ⟨t,.move x,ty,pos,af,g⟩ ρ C C (.func f a c):=dN hx
theorem dT {x:Operand} {v:Value} (hx:ρ x=v):OpY r n P ⟨t,.assign x,ty,pos,af,g⟩ ρ C C v :=
 aI (by intro c h;cases h) (fun W _=>by subst hx;rfl)
theorem yAI {x:Operand} {k:IntKind} {a:Int} (hx:ρ x=.int k a):OpY r n P ⟨t,.assign x,ty,pos,af,g⟩ ρ C C (.int k a):=dT hx
theorem yAB {x:Operand} {a:Bool} (hx:ρ x=.bool a):OpY r n P ⟨t,.assign x,ty,pos,af,g⟩ ρ C C (.bool a):=dT hx
theorem g7 {x:Operand} {b o:Nat} (hx:ρ x=.pointer (some ⟨b,o,none⟩)):OpY r n P ⟨t,.assign x,ty,pos,af,g⟩ ρ C C (.pointer (some ⟨b,o,none⟩)):=dT hx
theorem yAS {x:Operand} {a:Option Addr} {l c:Nat} (hx:ρ x=.slice a l c):OpY r n P ⟨t,.assign x,ty,pos,af,g⟩ ρ C C (.slice a l c):=dT hx
theorem cC {x:Operand} {f:Fn} {a c:Array Value} (hx:ρ x=.func f a c):OpY r n P ⟨t,.assign x,ty,pos,af,g⟩ ρ C C (.func f a c):=dT hx
theorem fx {x:Operand} (hx:ρ x=.nilFunc):OpY r n P ⟨t,.assign x,ty,pos,af,g⟩ ρ C C .nilFunc:=dT hx
theorem y_pick_t {c a b:Operand} {v:Value} (hc:ρ c=.bool true) (hv:ρ a=v):OpY r n P ⟨t,.pick c a b,ty,pos,af,g⟩ ρ C C v :=
 aI (by intro c h;cases h) (fun W _=>by simp[execOp,hc,asBool,hv])
theorem y_pick_f {c a b:Operand} {v:Value} (hc:ρ c=.bool false) (hv:ρ b=v):OpY r n P ⟨t,.pick c a b,ty,pos,af,g⟩ ρ C C v :=
 aI (by intro c h;cases h) (fun W _=>by simp[execOp,hc,asBool,hv])
theorem ai {c a b:Operand} {p:Bool} (hc:ρ c=.bool true) (hv:ρ a=.bool p):OpY r n P ⟨t,.pick c a b,ty,pos,af,g⟩ ρ C C (.bool p):=y_pick_t hc hv
theorem aj {c a b:Operand} {p:Bool} (hc:ρ c=.bool false) (hv:ρ b=.bool p):OpY r n P ⟨t,.pick c a b,ty,pos,af,g⟩ ρ C C (.bool p):=y_pick_f hc hv
theorem bf {x y:Operand} {a b:Int} {u u':TypeId} (hx:ρ x=.int .i64 a) (hy:ρ y=.int .i64 b):OpY r n P ⟨t,.binOp .add u x y u',ty,pos,af,g⟩ ρ C C (.int .i64 (w64 (a+b))) :=
 aI (by intro c h;cases h) (fun W _=>by simp[execOp,hx,hy,go_sem,Op.intArith,ik])
theorem cG {x y:Operand} {a b:Int} {u u':TypeId} (hx:ρ x=.int .i64 a) (hy:ρ y=.int .i64 b):OpY r n P ⟨t,.binOp .sub u x y u',ty,pos,af,g⟩ ρ C C (.int .i64 (w64 (a-b))) :=
 aI (by intro c h;cases h) (fun W _=>by simp[execOp,hx,hy,go_sem,Op.intArith,ik])
theorem jo {x y:Operand} {a b:Int} {u u':TypeId} (hx:ρ x=.int .i64 a) (hy:ρ y=.int .i64 b):OpY r n P ⟨t,.binOp .mul u x y u',ty,pos,af,g⟩ ρ C C (.int .i64 (w64 (a*b))) :=
 aI (by intro c h;cases h) (fun W _=>by simp[execOp,hx,hy,go_sem,Op.intArith,ik])
theorem y_quo {x y:Operand} {a b:Int} {u u':TypeId} (hb:b≠0) (hx:ρ x=.int .i64 a) (hy:ρ y=.int .i64 b):OpY r n P ⟨t,.binOp .quo u x y u',ty,pos,af,g⟩ ρ C C (.int .i64 (w64 (a.tdiv b))) :=
 aI (by intro c h;cases h) (fun W _=>by simp[execOp,hx,hy,go_sem,Op.intDiv,hb,ik])
theorem y_rem {x y:Operand} {k:IntKind} {a b:Int} {u u':TypeId} (hb:b≠0) (hx:ρ x=.int k a) (hy:ρ y=.int k b):OpY r n P ⟨t,.binOp .rem u x y u',ty,pos,af,g⟩ ρ C C (.int k (a.tmod b)) :=
 aI (by intro c h;cases h) (fun W _=>by simp[execOp,hx,hy,go_sem,Op.intDiv,hb])
theorem cX {x y:Operand} {k:IntKind} {a b:Int} {u u':TypeId} (hx:ρ x=.int k a) (hy:ρ y=.int k b):OpY r n P ⟨t,.binOp .lss u x y u',ty,pos,af,g⟩ ρ C C (.bool (decide (a<b))) :=
 aI (by intro c h;cases h) (fun W _=>by simp[execOp,hx,hy,go_sem])
theorem jx {x y:Operand} {k:IntKind} {a b:Int} {u u':TypeId} (hx:ρ x=.int k a) (hy:ρ y=.int k b):OpY r n P ⟨t,.binOp .leq u x y u',ty,pos,af,g⟩ ρ C C (.bool (decide (a≤b))) :=
 aI (by intro c h;cases h) (fun W _=>by simp[execOp,hx,hy,go_sem])
theorem eZ {x y:Operand} {k:IntKind} {a b:Int} {u u':TypeId} (hx:ρ x=.int k a) (hy:ρ y=.int k b):OpY r n P ⟨t,.binOp .gtr u x y u',ty,pos,af,g⟩ ρ C C (.bool (decide (b<a))) :=
 aI (by intro c h;cases h) (fun W _=>by simp[execOp,hx,hy,go_sem])
theorem js {x y:Operand} {k:IntKind} {a b:Int} {u u':TypeId} (hx:ρ x=.int k a) (hy:ρ y=.int k b):OpY r n P ⟨t,.binOp .geq u x y u',ty,pos,af,g⟩ ρ C C (.bool (decide (b≤a))) :=
 aI (by intro c h;cases h) (fun W _=>by simp[execOp,hx,hy,go_sem])
theorem fc {x y:Operand} {k:IntKind} {a b:Int} {u u':TypeId} (hx:ρ x=.int k a) (hy:ρ y=.int k b):OpY r n P ⟨t,.binOp .eql u x y u',ty,pos,af,g⟩ ρ C C (.bool (a==b)) :=
 aI (by intro c h;cases h) (fun W _=>by simp[execOp,hx,hy,go_sem])
theorem bO {x y:Operand} {k:IntKind} {a b:Int} {u u':TypeId} (hx:ρ x=.int k a) (hy:ρ y=.int k b):OpY r n P ⟨t,.binOp .neq u x y u',ty,pos,af,g⟩ ρ C C (.bool (a !=b)) :=
 aI (by intro c h;cases h) (fun W _=>by simp[execOp,hx,hy,go_sem])
theorem y_neqb {x y:Operand} {a b:Bool} {u u':TypeId} (hu:P.underlying u=some .bool) (hx:ρ x=.bool a) (hy:ρ y=.bool b):OpY r n P ⟨t,.binOp .neq u x y u',ty,pos,af,g⟩ ρ C C (.bool (!(a==b))) :=
 aI (by intro c h;cases h) (fun W _=>by simp[execOp,hx,hy,go_sem,run_neq_bool W u a b hu])
theorem dL {x:Operand} {a:Bool} {u:TypeId} (hx:ρ x=.bool a):OpY r n P ⟨t,.unOp .not u x,ty,pos,af,g⟩ ρ C C (.bool (!a)) :=
 aI (by intro c h;cases h) (fun W _=>by simp[execOp,hx,Op.unary])
theorem jX {x y:Operand} {k:IntKind} {a b:Int} {ts:Array TypeId} (hx:ρ x=.int k a) (hy:ρ y=.int k b):OpY r n P ⟨t,.call ⟨.builtin .min,#[x,y],ts⟩,ty,pos,af,g⟩ ρ C C (.int k (min a b)) :=
 aI (by intro c h;cases h) (fun W _=>by
  have e:min a b=if b<a then b else a:=by omega
  simp[execOp,resolve,invoke,builtin,Builtin.min_,Builtin.min2,hx,hy,e])
theorem kP {x y:Operand} {k:IntKind} {a b:Int} {ts:Array TypeId} (hx:ρ x=.int k a) (hy:ρ y=.int k b):OpY r n P ⟨t,.call ⟨.builtin .max,#[x,y],ts⟩,ty,pos,af,g⟩ ρ C C (.int k (max a b)) :=
 aI (by intro c h;cases h) (fun W _=>by
  have e:max a b=if b>a then b else a:=by omega
  simp[execOp,resolve,invoke,builtin,Builtin.max_,Builtin.max2,hx,hy,e])
theorem y_min3 {x y z:Operand} {k:IntKind} {a b c:Int} {ts:Array TypeId} (hx:ρ x=.int k a) (hy:ρ y=.int k b) (hz:ρ z=.int k c):OpY r n P ⟨t,.call ⟨.builtin .min,#[x,y,z],ts⟩,ty,pos,af,g⟩ ρ C C (.int k (min (min a b) c)) :=
 aI (by intro c h;cases h) (fun W _=>by
  have e:min (min a b) c=if c<(if b<a then b else a)then c else(if b<a then b else a):=by split <;> split <;> omega
  simp[execOp,resolve,invoke,builtin,Builtin.min_,Builtin.min2,hx,hy,hz,e])
theorem iL {W:World} {b:Nat} {e:TypeId} {cs:Array Value} {fr:Nat × Nat} (h:W.heap[b]? = some (.cells cs e fr)) (o:Nat):W.cell? ⟨b,o,none⟩=cs[o]?:=by
 simp[World.cell?,h]
def ac (b:Nat) (e:TypeId) (cs:List Value):Res:=blk b (.cells cs.toArray e (0,0))
theorem dx {W:World} {i b:Nat} {e:TypeId} {cs:List Value} (h:Ext w0 W L) (hL:L[i]? = some (ac b e cs)) (o:Nat):W.cell? ⟨b,o,none⟩=cs[o]?:=by
 have h1:W.heap[b]? = some (.cells cs.toArray e (0,0)):=h.mem hL
 rw[iL h1];simp
theorem fN {W:World} {t:TypeId} (h:scB P t=true):(isAgg t).run P W=.ok false W:=by
 unfold scB at h
 unfold isAgg underlying
 cases hu:P.underlying t with
 | none=>rw[hu]at h;cases h
 | some d=>rw[hu]at h;cases d <;> simp_all
theorem jr {W:World} {t:TypeId} (h:scB P t=true):(sizeOf t).run P W=.ok 1 W:=by
 unfold scB at h
 unfold sizeOf typeInfo
 cases hu:P.underlying t with
 | none=>rw[hu]at h;cases h
 | some d =>
  cases hi:P.info? t with
  | none=>rw[hu,hi]at h;cases d <;> simp at h
  | some i =>
   have:i.size=1:=by rw[hu,hi]at h;cases d <;> simp at h <;> exact h
   simp[hi,this]
theorem fq {W:World} {t:TypeId} {k:Nat} (h:jS P t k=true):(isAgg t).run P W=.ok true W:=by
 unfold jS at h
 unfold isAgg underlying
 cases hu:P.underlying t with
 | none=>rw[hu]at h;cases h
 | some d=>rw[hu]at h;cases d <;> simp_all
theorem eO {W:World} {t:TypeId} {k:Nat} (h:jS P t k=true):(sizeOf t).run P W=.ok k W:=by
 unfold jS at h
 unfold sizeOf typeInfo
 cases hu:P.underlying t with
 | none=>rw[hu]at h;cases h
 | some d =>
  cases hi:P.info? t with
  | none=>rw[hu,hi]at h;cases d <;> simp at h
  | some i =>
   have:i.size=k:=by rw[hu,hi]at h;cases d <;> simp at h <;> exact h
   simp[hi,this]
theorem iH {W:World} {t:TypeId} {a:Addr} {v:Value} (h:scB P t=true) (hc:W.cell? a=some v):(Instr.loadAt t (.pointer (some a))).run P W=.ok v W:=by
 simp[Instr.loadAt,Instr.sureAddr,loadVar,fN h,hc]
theorem iJ {W:World} {t:TypeId} {b o:Nat} {vs:List Value} (h:jS P t vs.length=true) (hc:∀j v,vs[j]? = some v→W.cell? ⟨b,o+j,none⟩=some v) :
  (Instr.loadAt t (.pointer (some ⟨b,o,none⟩))).run P W=.ok (.agg vs.toArray) W:=by
 have h1:=run_loadCells_list (P:=P) W ⟨b,o,none⟩ vs (fun j v hj=>by rw[Addr.add_lit];exact hc j v hj)
 simp[Instr.loadAt,Instr.sureAddr,loadVar,fq h,eO h,h1]
theorem yL (i:Nat) {x:Operand} {u:TypeId} {b o:Nat} {e:TypeId} {cs:List Value} {v:Value} (hs:scB P u=true) (hL:L[i]? = some (ac b e cs)) (hx:ρ x=.pointer (some ⟨b,o,none⟩)) (hv:cs[o]? = some v) :
  OpY r n P ⟨t,.load u x,ty,pos,af,g⟩ ρ (fun W=>Ext w0 W L) (fun W=>Ext w0 W L) v :=
 aI (by intro c h;cases h) (fun W hW=>by
  have:=iH (P:=P) hs ((dx hW hL o).trans hv)
  simp[execOp,hx,this])
theorem yN (i:Nat) (vs:List Value) {x:Operand} {u:TypeId} {b o:Nat} {e:TypeId} {cs:List Value} (hs:jS P u vs.length=true) (hL:L[i]? = some (ac b e cs)) (hx:ρ x=.pointer (some ⟨b,o,none⟩)) (hv:(cs.drop o).take vs.length=vs) :
  OpY r n P ⟨t,.load u x,ty,pos,af,g⟩ ρ (fun W=>Ext w0 W L) (fun W=>Ext w0 W L) (.agg vs.toArray) :=
 aI (by intro c h;cases h) (fun W hW=>by
  have:=iJ (P:=P) (W:=W) (b:=b) (o:=o) hs (fun j v hj=>by
   rw[dx hW hL]
   rw[←hv]at hj
   rw[List.getElem?_take]at hj
   split at hj
   ·rwa [List.getElem?_drop]at hj
   ·cases hj)
  simp[execOp,hx,this])
theorem yFA {x:Operand} {s f k b o:Nat} (hf:bV P s f=some k) (hx:ρ x=.pointer (some ⟨b,o,none⟩)):OpY r n P ⟨t,.fieldAddr s x f,ty,pos,af,g⟩ ρ C C (.pointer (some ⟨b,o+k,none⟩)) :=
 aI (by intro c h;cases h) (fun W _=>by
  unfold bV at hf
  cases hu:P.underlying s with
  | none=>rw[hu]at hf;cases hf
  | some d =>
   rw[hu]at hf
   cases d with
   | struct fs =>
    simp only[]at hf
    cases hfd:fs[f]? with
    | none=>rw[hfd]at hf;cases hf
    | some fd =>
     rw[hfd]at hf
     simp only[]at hf
     cases hi:P.info? fd.type with
     | none=>rw[hi]at hf;cases hf
     | some i =>
      rw[hi]at hf
      simp only[]at hf
      split at hf
      ·cases hf
      ·rename_i h0
       injection hf with hf
       simp[execOp,hx,Instr.fieldAt,underlying,hu,hfd,Instr.sureAddr,fieldPlace,Go.sizeOf,typeInfo,hi,h0,Addr.add_lit,hf]
   | _=>cases hf)
theorem aq {x ix:Operand} {u:TypeId} {b o len sz:Nat} {k:IntKind} {i:Int} (h:kZ P u=some (len,sz)) (h0:0≤i) (h1:i<len) (hx:ρ x=.pointer (some ⟨b,o,none⟩)) (hi:ρ ix=.int k i) :
  OpY r n P ⟨t,.indexAddr u x ix,ty,pos,af,g⟩ ρ C C (.pointer (some ⟨b,o+i.toNat*sz,none⟩)) :=
 aI (by intro c h;cases h) (fun W _=>by
  unfold kZ at h
  cases hu:P.underlying u with
  | none=>rw[hu]at h;cases h
  | some d =>
   rw[hu]at h
   cases d with
   | array ln e =>
    simp only[]at h
    cases hinf:P.info? e with
    | none=>rw[hinf]at h;cases h
    | some inf =>
     rw[hinf]at h
     simp only[Option.map_some,Option.some.injEq,Prod.mk.injEq]at h
     obtain⟨rfl,rfl⟩:=h
     simp[execOp,hx,hi,Instr.indexAt,asIntOf,underlying,hu,Instr.sureAddr,h0,h1,Go.sizeOf,typeInfo,hinf,Addr.add_lit]
   | _=>cases h)
theorem lj {x ix:Operand} {u e:TypeId} {b o len cap sz:Nat} {k:IntKind} {i:Int} (h:kK P u=some (e,sz)) (h0:0≤i) (h1:i<len) (hx:ρ x=.slice (some ⟨b,o,none⟩) len cap) (hi:ρ ix=.int k i) :
  OpY r n P ⟨t,.indexAddr u x ix,ty,pos,af,g⟩ ρ C C (.pointer (some ⟨b,o+i.toNat*sz,none⟩)) :=
 aI (by intro c h;cases h) (fun W _=>by
  unfold kK at h
  cases hu:P.underlying u with
  | none=>rw[hu]at h;cases h
  | some d =>
   rw[hu]at h
   cases d with
   | slice e =>
    simp only[]at h
    cases hinf:P.info? e with
    | none=>rw[hinf]at h;cases h
    | some inf =>
     rw[hinf]at h
     simp only[Option.map_some,Option.some.injEq,Prod.mk.injEq]at h
     obtain⟨rfl,rfl⟩:=h
     simp[execOp,hx,hi,Instr.indexAt,asIntOf,underlying,hu,h0,h1,Go.sizeOf,typeInfo,hinf,Addr.add_lit]
   | _=>cases h)
end
open Go.RowKit (Below)
section
variable {r : Option Nat} {n : Nat} {P : Program} {ρ : Operand → Value} {w0 : World} {L L' : List Res}
variable {t : Option Tmp} {ty : TypeId} {pos : String} {af : Array Edge} {g : Option (Nat × Bool)} {C C' : World → Prop}
theorem gE {op:Op} (hd:∀c,op ≠ .defer c) (h:∀W,C W→∃W',(execOp ρ ⟨t,op,ty,pos,af,g⟩).run P W=.ok .skip W'∧C' W'):OpY r n P ⟨t,op,ty,pos,af,g⟩ ρ C C' undef:=fun W hW=>by
 obtain⟨W',h1,h2⟩:=h W hW
 rw[cr hd,h1]
 exact⟨E,h2⟩
theorem Ext.setRow {W:World} {i b:Nat} {e:TypeId} {cs:List Value} (h:Ext w0 W L) (hL:L[i]? = some (ac b e cs)) (cs':List Value):Ext w0 (W.setRow b cs'.toArray) (L.set i (ac b e cs')):=by
 have h1:W.heap[b]? = some (.cells cs.toArray e (0,0)):=h.mem hL
 refine h.set hL (ac b e cs') (setRow_heap W b _ _ e _ h1) E E E (by simp[World.setRow]) (fun c hc hn=>?_) (fun c hc=>.inl hc)
 show(W.heap.modify b _)[c]? = _
 rw[Array.getElem?_modify,if_neg (fun e=>hn e.symm)]
def szB (P:Program) (t:TypeId) (k:Nat):Bool:=(P.info? t).any fun i=>i.size==k
theorem cD {W:World} {t:TypeId} {k:Nat} (h:szB P t k=true):(Go.sizeOf t).run P W=.ok k W:=by
 unfold szB at h
 cases hi:P.info? t with
 | none=>rw[hi]at h;cases h
 | some i =>
  rw[hi]at h
  have:i.size=k:=by simpa using h
  simp[Go.sizeOf,typeInfo,hi,this]
theorem iu {W:World} {i b o:Nat} {e ty':TypeId} {cs:List Value} {v:Value} (h:Ext w0 W L) (hL:L[i]? = some (ac b e cs)) (hs:szB P ty' v.cells.size=true) (h1:∀u∈v.cells.toList,u.oneCell'=true) (hl:o+v.cells.size≤cs.length) :
  (Instr.storeAt ty' (.pointer (some ⟨b,o,none⟩)) v).run P W=.ok () (W.setRow b (cs.take o++v.cells.toList++cs.drop (o+v.cells.size)).toArray):=by
 have hb:W.heap[b]? = some (.cells cs.toArray e (0,0)):=h.mem hL
 have:=run_storeCells_at (P:=P) b o e v.cells.toList 0 cs.toArray W hb (by simpa using hl) h1
 simp only[Nat.add_zero]at this
 simp[Instr.storeAt,Instr.sureAddr,storeVar,cD hs,this]
theorem dE (i:Nat) {x y:Operand} {u:TypeId} {b o:Nat} {e:TypeId} {cs:List Value} {v:Value} (hs:szB P u 1=true) (hL:L[i]? = some (ac b e cs)) (hl:o<cs.length) (hx:ρ x=.pointer (some ⟨b,o,none⟩)) (hy:ρ y=v) (h1:v.oneCell'=true) :
  OpY r n P ⟨t,.store u x y,ty,pos,af,g⟩ ρ (fun W=>Ext w0 W L) (fun W=>Ext w0 W (L.set i (ac b e (cs.set o v)))) undef :=
 gE (by intro c h;cases h) (fun W hW=>by
  have hc:v.cells = #[v]:=by cases v <;> first|rfl|cases h1
  have:=iu (P:=P) (v:=v) hW hL (by rw[hc];exact hs) (by rw[hc];simpa using h1) (by rw[hc];show o+1≤cs.length;omega)
  refine⟨_,by simp only[execOp,hx,hy];rw[Sem.run_bind,this];rfl,?_⟩
  have e:cs.take o++v.cells.toList++cs.drop (o+v.cells.size)=cs.set o v:=by
   rw[hc]
   simp only[List.size_toArray,List.length_cons,List.length_nil]
   rw[List.set_eq_take_append_cons_drop,if_pos hl]
   simp
  rw[e]
  exact hW.setRow hL _)
theorem yS (i:Nat) (vs:List Value) {x y:Operand} {u:TypeId} {b o:Nat} {e:TypeId} {cs:List Value} (hs:szB P u vs.length=true) (hL:L[i]? = some (ac b e cs)) (hl:o+vs.length≤cs.length) (hx:ρ x=.pointer (some ⟨b,o,none⟩)) (hy:ρ y=.agg vs.toArray) (h1:(vs.all (·.oneCell'))=true) :
  OpY r n P ⟨t,.store u x y,ty,pos,af,g⟩ ρ (fun W=>Ext w0 W L) (fun W=>Ext w0 W (L.set i (ac b e (cs.take o++vs++cs.drop (o+vs.length))))) undef :=
 gE (by intro c h;cases h) (fun W hW=>by
  have:=iu (P:=P) (v:=.agg vs.toArray) (o:=o) hW hL (by simpa [Value.cells]using hs) (by simpa [Value.cells]using h1) (by simpa [Value.cells]using hl)
  refine⟨_,by simp only[execOp,hx,hy];rw[Sem.run_bind,this];rfl,?_⟩
  have:=hW.setRow hL (cs.take o++vs++cs.drop (o+vs.length))
  simpa [Value.cells]using this)
theorem y_build (cells:List Value) {u:TypeId} {parts:List (Nat × Operand)} {z:Value} {fs:Array Field} (hu:P.underlying u=some (.struct fs)) (hz:bg P u=some z)
  (sz:List (Nat × Nat)) (hsz:fs.toList.map (fun f=>((P.info? f.type).map (fun i=>(f.offset,i.size))))=sz.map some)
  (hfill:Instr.fill (fun x=>sz.toArray[x]?) z.cells (parts.map fun p=>(p.1,ρ p.2))=some cells.toArray) :
  OpY r n P ⟨t,.build u parts.toArray,ty,pos,af,g⟩ ρ C C (.agg cells.toArray) :=
 aI (by intro c h;cases h) (fun W _=>by
  obtain⟨inf,hinf,hzz⟩:∃inf,P.info? u=some inf∧inf.zero=some z:=by
   unfold bg at hz
   cases hi:P.info? u with
   | none=>rw[hi]at hz;cases hz
   | some inf=>rw[hi]at hz;exact⟨inf,E,hz⟩
  have hm:∀(l:List Field) (s:List (Nat × Nat)),l.map (fun f=>((P.info? f.type).map (fun i=>(f.offset,i.size))))=s.map some →
    (l.mapM (fun f=>do let k ←Go.sizeOf f.type;pure (f.offset,k)):Sem (List (Nat × Nat))).run P W=.ok s W:=by
   intro l
   induction l with
   | nil=>intro s hs;cases s with
    | nil=>rfl
    | cons a s=>simp at hs
   | cons f l ih =>
    intro s hs
    cases s with
    | nil=>simp at hs
    | cons a s =>
     simp only[List.map_cons,List.cons.injEq]at hs
     obtain⟨h1,h2⟩:=hs
     cases hi:P.info? f.type with
     | none=>rw[hi]at h1;cases h1
     | some inf =>
      rw[hi]at h1
      simp only[Option.map_some,Option.some.injEq]at h1
      have e1:((do let k ←Go.sizeOf f.type;pure (f.offset,k)):Sem (Nat × Nat)).run P W=.ok a W:=by simp[Go.sizeOf,typeInfo,hi,h1]
      rw[List.mapM_cons,Sem.run_bind,e1,Result.andThen_ok,Sem.run_bind,ih s h2]
      rfl
  have hm2:(fs.mapM (fun f=>do let k ←Go.sizeOf f.type;pure (f.offset,k)):Sem (Array (Nat × Nat))).run P W=.ok sz.toArray W:=by
   rw[Array.mapM_eq_mapM_toList,Sem.run_map,hm fs.toList sz hsz]
   rfl
  have hz1:(zeroValue u).run P W=.ok z W:=by simp[zeroValue,typeInfo,hinf,hzz]
  have hu1:(underlying u).run P W=.ok (.struct fs) W:=by simp[underlying,hu]
  have hb:(Instr.build u (parts.toArray.map fun(i,x)=>(i,ρ x))).run P W=.ok (.agg cells.toArray) W:=by
   have e1:(parts.toArray.map fun(i,x)=>(i,ρ x)).toList=parts.map fun p=>(p.1,ρ p.2):=by simp
   simp only[Instr.build,Sem.run_bind,hz1,hu1,Result.andThen_ok,hm2,e1,hfill]
   rfl
  simp only[execOp,Sem.run_bind,hb]
  rfl)
theorem y_index3 {x ix:Operand} {u:TypeId} {a b c:Value} {k:IntKind} {i:Int} {e:TypeId} (hu:P.underlying u=some (.array 3 e)) (hs:scB P e=true) (h0:0≤i) (h1:i<3) (hx:ρ x=.agg #[a,b,c]) (hi:ρ ix=.int k i) :
  OpY r n P ⟨t,.index u x ix,ty,pos,af,g⟩ ρ C C (aH a b c i) :=
 aI (by intro c h;cases h) (fun W _=>by
  have h2:i<((3:Nat):Int):=h1
  have h3:i=0∨i=1∨i=2:=by omega
  rcases h3 with rfl|rfl|rfl <;>
   simp[execOp,hx,hi,Instr.index,asIntOf,underlying,hu,jr hs,part,fN hs,aH])
theorem bZ {x:Operand} {u:TypeId} {a:Option Addr} {l c:Nat} {e:TypeId} {us:List TypeId} (hu:P.underlying u=some (.slice e)) (hx:ρ x=.slice a l c):OpY r n P ⟨t,.call ⟨.builtin .len,#[x],(u::us).toArray⟩,ty,pos,af,g⟩ ρ C C (.int .i64 (l:Int)) :=
 aI (by intro c h;cases h) (fun W _=>by simp[execOp,resolve,invoke,builtin,Builtin.len_,hx,underlying,hu,goInt])
theorem kx {x:Operand} {u e:TypeId} {len sz:Nat} {b o:Nat} (h:P.underlying u=some (.array len e)) (hs:szB P e sz=true) (hx:ρ x=.pointer (some ⟨b,o,none⟩)) :
  OpY r n P ⟨t,.slice u x none none none,ty,pos,af,g⟩ ρ C C (.slice (some ⟨b,o,none⟩) len len) :=
 aI (by intro c h;cases h) (fun W _=>by
  simp[execOp,hx,Instr.sliceAt,underlying,h,Instr.sureAddr,Instr.sliceBounds,cD hs,Addr.add])
theorem gZ {f:Fn} {first caps:List Operand} (vs:List Value) (hf:first=[]) (hc:caps.map ρ=vs):OpY r n P ⟨t,.makeFunc f first.toArray caps.toArray,ty,pos,af,g⟩ ρ C C (.func f #[] vs.toArray) :=
 aI (by intro c h;cases h) (fun W _=>by
  subst hf hc
  simp[execOp,Instr.makeFunc])
def cx (P:Program) (f:FuncId):Bool:=match P.funcs[f]? with
 | some fn => !(fn.name == "runtime.NumGoroutine") && !fn.body.isNone
 | none=>false
theorem f5 {f:FuncId} (h:cx P f=true) (args:Array Value) (W:World):(callFunc f args).run P W=.ok (.enter f args) W:=by
 unfold cx at h
 cases hf:P.funcs[f]? with
 | none=>rw[hf]at h;cases h
 | some fn =>
  rw[hf]at h
  simp only[Bool.and_eq_true,Bool.not_eq_true']at h
  have h1:¬fn.name = "runtime.NumGoroutine":=by simpa using h.1
  have h2:¬fn.body=none:=by have:=h.2;intro e;rw[e]at this;cases this
  simp[callFunc,hf,h1,h2]
theorem yC {f:FuncId} {xs:List Operand} {us:Array TypeId} (vs:List Value) {v:Value} (hf:cx P f=true) (ha:xs.map ρ=vs)
  (h:∀W,Ext w0 W L→Calls P f vs.toArray W fun e W'=>e=.returned v∧Ext W W' []) (hρ:ρ (.func f)=.func (.func f) #[] #[]) :
  OpY r n P ⟨t,.call ⟨.value (.func f),xs.toArray,us⟩,ty,pos,af,g⟩ ρ (fun W=>Ext w0 W L) (fun W=>Ext w0 W L) v:=fun W hW=>by
 rw[cr (by intro c h;cases h)]
 subst ha
 have e:(execOp ρ ⟨t,.call ⟨.value (.func f),xs.toArray,us⟩,ty,pos,af,g⟩).run P W=.ok (.enter f (xs.map ρ).toArray) W:=by
  simp[execOp,resolve,hρ,Deferred.ofValue,invoke,f5 hf]
 rw[e]
 refine(h W hW).mono ?_
 rintro e W' ⟨rfl,hx⟩
 exact⟨E,hW.below' hx.below⟩
theorem gl {f:FuncId} {x:Operand} {xs:List Operand} {us:Array TypeId} {caps:List Value} (vs:List Value) {v:Value} (hf:cx P f=true) (hx:ρ x=.func (.func f) #[] caps.toArray) (ha:xs.map ρ=vs)
  (h:∀W,Ext w0 W L→Calls P f (vs++caps).toArray W fun e W'=>e=.returned v∧Ext W W' []) :
  OpY r n P ⟨t,.call ⟨.value x,xs.toArray,us⟩,ty,pos,af,g⟩ ρ (fun W=>Ext w0 W L) (fun W=>Ext w0 W L) v:=fun W hW=>by
 rw[cr (by intro c h;cases h)]
 subst ha
 have e:(execOp ρ ⟨t,.call ⟨.value x,xs.toArray,us⟩,ty,pos,af,g⟩).run P W=.ok (.enter f (xs.map ρ++caps).toArray) W:=by
  simp[execOp,resolve,hx,Deferred.ofValue,invoke,f5 hf]
 rw[e]
 refine(h W hW).mono ?_
 rintro e W' ⟨rfl,hx⟩
 exact⟨E,hW.below' hx.below⟩
end
section
variable {r : Option Nat} {n : Nat} {P : Program} {ops : Array Oper} {Q : Exit → Act → World → Prop} {w0 : World} {L L' : List Res} {m : Nat} {tm : Nat → Value} {d : List Deferred}
variable {t : Tmp} {ty : TypeId} {pos : String} {af : Array Edge} {g : Option (Nat × Bool)} {rest : List Oper}
theorem fS {op:Op} (hw:cZ ops m tm ⟨some t,op,ty,pos,af,g⟩=true) (hd:∀c,op ≠ .defer c)
  (h:∀W,Ext w0 W L→∃v W' L',(execOp (opv m tm) ⟨some t,op,ty,pos,af,g⟩).run P W=.ok (.value v) W'∧Ext w0 W' L'∧OX r n P ops Q w0 L' rest m (upd tm t v) d) :
  OX r n P ops Q w0 L (⟨some t,op,ty,pos,af,g⟩::rest) m tm d:=fun W hW=>by
 obtain⟨v,W',L',h1,h2,h3⟩:=h W hW
 unfold OL
 rw[a7,if_pos hw]
 refine⟨fun _ _=>trivial,?_⟩
 show Oper.uponIn (Fw r) n P _ _ _ Q ((Oper.semAt r (act m tm d).eval _).run P W)
 rw[cr hd,bW,h1]
 show OL r n P ops Q rest ((act m tm d).put (some t) v) W'
 rw[cj]
 exact h3 W' h2
theorem aG {e:TypeId} {z:Value} (hz:bg P e=some z) (hw:cZ ops m tm ⟨some t,.alloc e,ty,pos,af,g⟩=true)
  (h:∀b,OX r n P ops Q w0 (L++[ac b e z.cells.toList]) rest m (upd tm t (.pointer (some ⟨b,0,none⟩))) d):OX r n P ops Q w0 L (⟨some t,.alloc e,ty,pos,af,g⟩::rest) m tm d :=
 fS hw (by intro c h;cases h) fun W hW=>by
  obtain⟨inf,hinf,hzz⟩:∃inf,P.info? e=some inf∧inf.zero=some z:=by
   unfold bg at hz
   cases hi:P.info? e with
   | none=>rw[hi]at hz;cases hz
   | some inf=>rw[hi]at hz;exact⟨inf,E,hz⟩
  refine⟨_,W.alloc (.cells z.cells e),_,?_,?_,h W.heap.size⟩
  ·simp only[execOp,Instr.alloc,zeroValue,typeInfo,newVar,newRow]
   simp[hinf,hzz]
  ·have:=hW.alloc (.cells z.cells e)
   simpa [ac]using this
theorem aV {e:TypeId} {x:Operand} (cs:List Value) {v:Value} (hx:opv m tm x=v) (hc:v.cells=cs.toArray) (hw:cZ ops m tm ⟨some t,.box e x,ty,pos,af,g⟩=true)
  (h:∀b,OX r n P ops Q w0 (L++[ac b e cs]) rest m (upd tm t (.pointer (some ⟨b,0,none⟩))) d):OX r n P ops Q w0 L (⟨some t,.box e x,ty,pos,af,g⟩::rest) m tm d :=
 fS hw (by intro c h;cases h) fun W hW=>by
  refine⟨_,W.alloc (.cells cs.toArray e),_,?_,?_,h W.heap.size⟩
  ·simp only[execOp,Instr.box,newVar,newRow,hx,hc]
   simp
  ·exact hW.alloc (.cells cs.toArray e)
theorem oC {α:Type} {f:FuncId} {xs:List Operand} {us:Array TypeId} (vs:List Value) (φ:α→Prop) (val:α→Value) (res:α→List Res) (hw:cZ ops m tm ⟨some t,.call ⟨.value (.func f),xs.toArray,us⟩,ty,pos,af,g⟩=true) (hf:cx P f=true) (ha:xs.map (opv m tm)=vs)
  (hc:∀W,Ext w0 W L→Calls P f vs.toArray W fun e W'=>∃x:α,φ x∧e=.returned (val x)∧Ext W W' (res x))
  (h:∀x,φ x→OX r n P ops Q w0 (L++res x) rest m (upd tm t (val x)) d):OX r n P ops Q w0 L (⟨some t,.call ⟨.value (.func f),xs.toArray,us⟩,ty,pos,af,g⟩::rest) m tm d:=fun W hW=>by
 unfold OL
 rw[a7,if_pos hw]
 refine⟨fun _ _=>trivial,?_⟩
 show Oper.uponIn (Fw r) n P _ _ _ Q ((Oper.semAt r (act m tm d).eval _).run P W)
 have e:(execOp (opv m tm) ⟨some t,.call ⟨.value (.func f),xs.toArray,us⟩,ty,pos,af,g⟩).run P W=.ok (.enter f (xs.map (opv m tm)).toArray) W:=by
  have hρ:opv m tm (.func f)=.func (.func f) #[] #[]:=rfl
  simp[execOp,resolve,hρ,Deferred.ofValue,invoke,f5 hf]
 rw[cr (by intro c h;cases h),bW,e,ha]
 refine⟨(fun hd=>by cases hd),?_⟩
 refine(k2 (hc W hW)).mono ?_
 rintro e W' ⟨x,hφ,rfl,hx⟩
 show OL r n P ops Q rest ((act m tm d).put (some t) (val x)) W'
 rw[cj]
 exact h x hφ W' (hW.append hx)
theorem ad {f:FuncId} {fn:Func} {c:Code} {vs:List Value} {W:World} {R:Ending→World→Prop} (hf:P.funcs[f]? = some fn) (hb:fn.body=some c) (hn:fn.ntmps=m) (hl:vs.length≤m)
  (h:CX none 8 P c (bodyPost P fn R) W [] m (fun i=>(vs[i]?).getD undef) []):Calls P f vs.toArray W R:=by
 refine j5 (r:=none) (n:=8) (callsIn_of_wp hf hb trivial ?_ E)
 rw[gU _ _ (by rw[hn];simpa using hl),hn]
 have:=h W (Ext.nil W)
 simpa using this
theorem i3 {fn:Func} {R:Ending→World→Prop} {e:Exit} (he:e=.ret∨e=.normal) (hr:fn.results = #[]) (h:∀W,Ext w0 W L→R (.returned (.tuple #[])) W):EX (bodyPost P fn R) e w0 L m tm []:=fun W hW=>by
 rcases he with rfl|rfl <;> exact⟨E,_,by simp[results,hr],h W hW⟩
def rvSem (tmps:Array Value) (x:ResultVar):Sem Value:=match x with
 | .tmp t=>pure (tmps.getD t undef)
 | .cell a t=>do let p ←asAddr (tmps.getD a undef);loadVar t p
def resV (P:Program) (m:Nat) (tm:Nat→Value) (w0:World) (L:List Res) (x:ResultVar) (v:Value):Prop :=
 ∀W,Ext w0 W L→(rvSem (act m tm []).tmps x).run P W=.ok v W
theorem i6 (fn:Func) (tmps:Array Value):results fn tmps=(do let vs ←fn.results.mapM (rvSem tmps);pure (if h:vs.size=1 then vs[0]else .tuple vs)):=rfl
theorem rVt {x:Tmp} {v:Value} (hx:opv m tm (.tmp x)=v):resV P m tm w0 L (.tmp x) v:=fun W _=>by
 have:=congrFun (bW m tm []) (.tmp x)
 have e:(act m tm []).tmps.getD x undef=v:=this.trans hx
 show(pure ((act m tm []).tmps.getD x undef):Sem Value).run P W=.ok v W
 rw[e]
 rfl
theorem av (i:Nat) (vs:List Value) {x:Tmp} {u:TypeId} {b o:Nat} {e:TypeId} {cs:List Value} (hs:jS P u vs.length=true) (hL:L[i]? = some (ac b e cs)) (hx:opv m tm (.tmp x)=.pointer (some ⟨b,o,none⟩)) (hv:(cs.drop o).take vs.length=vs):resV P m tm w0 L (.cell x u) (.agg vs.toArray):=fun W hW=>by
 have:=congrFun (bW m tm []) (.tmp x)
 have e:(act m tm []).tmps.getD x undef=.pointer (some ⟨b,o,none⟩):=this.trans hx
 have h1:=iJ (P:=P) (W:=W) (b:=b) (o:=o) hs (fun j v hj=>by
   rw[dx hW hL]
   rw[←hv]at hj
   rw[List.getElem?_take]at hj
   split at hj
   ·rwa [List.getElem?_drop]at hj
   ·cases hj)
 simp only[Instr.loadAt,Instr.sureAddr,Sem.run_bind,Sem.run_pure,Result.andThen_ok]at h1
 simp only[rvSem,e]
 simp[asAddr,h1]
theorem f9 (i:Nat) {x:Tmp} {u:TypeId} {b o:Nat} {e:TypeId} {cs:List Value} {v:Value} (hs:scB P u=true) (hL:L[i]? = some (ac b e cs)) (hx:opv m tm (.tmp x)=.pointer (some ⟨b,o,none⟩)) (hv:cs[o]? = some v):resV P m tm w0 L (.cell x u) v:=fun W hW=>by
 have:=congrFun (bW m tm []) (.tmp x)
 have e:(act m tm []).tmps.getD x undef=.pointer (some ⟨b,o,none⟩):=this.trans hx
 have h1:=iH (P:=P) hs ((dx hW hL o).trans hv)
 simp only[Instr.loadAt,Instr.sureAddr,Sem.run_bind,Sem.run_pure,Result.andThen_ok]at h1
 simp only[rvSem,e]
 simp[asAddr,h1]
theorem am {fn:Func} {x:ResultVar} {R:Ending→World→Prop} {v:Value} {e:Exit} (he:e=.ret∨e=.normal) (hr:fn.results = #[x]) (hx:resV P m tm w0 L x v) (h:∀W,Ext w0 W L→R (.returned v) W):EX (bodyPost P fn R) e w0 L m tm []:=fun W hW=>by
 have h1:=hx W hW
 have:∃v,(results fn (act m tm []).tmps).run P W=.ok v W∧R (.returned v) W:=by
  refine⟨v,?_,h W hW⟩
  rw[i6,hr,Array.mapM_eq_mapM_toList]
  simp only[List.mapM_cons,List.mapM_nil,Sem.run_bind,Sem.run_map,h1,Result.andThen_ok,Sem.run_pure]
  rfl
 rcases he with rfl|rfl <;> exact⟨E,this⟩
theorem aW {fn:Func} {x y:ResultVar} {R:Ending→World→Prop} {v u:Value} {e:Exit} (he:e=.ret∨e=.normal) (hr:fn.results = #[x,y]) (hx:resV P m tm w0 L x v) (hy:resV P m tm w0 L y u) (h:∀W,Ext w0 W L→R (.returned (.tuple #[v,u])) W):EX (bodyPost P fn R) e w0 L m tm []:=fun W hW=>by
 have h1:=hx W hW
 have h2:=hy W hW
 have:∃v,(results fn (act m tm []).tmps).run P W=.ok v W∧R (.returned v) W:=by
  refine⟨.tuple #[v,u],?_,h W hW⟩
  rw[i6,hr,Array.mapM_eq_mapM_toList]
  simp only[List.mapM_cons,List.mapM_nil,Sem.run_bind,Sem.run_map,h1,h2,Result.andThen_ok,Sem.run_pure]
  rfl
 rcases he with rfl|rfl <;> exact⟨E,this⟩
end
open Go.RowKit (Below)
theorem least (p:Nat→Prop):∀k,p k→∃j,p j∧∀i,i<j→¬p i:=by
 intro k
 induction k using Nat.strongRecOn with
 | _ k ih =>
  intro hk
  by_cases h:∃i,i<k∧p i
  ·obtain⟨i,hi,hp⟩:=h
   exact ih i hi hp
  ·exact⟨k,hk,fun i hi hp=>h ⟨i,hi,hp⟩⟩
section
variable {r : Option Nat} {n : Nat} {P : Program} {Q : Exit → Act → World → Prop} {w0 : World} {L : List Res} {m : Nat} {tm : Nat → Value} {d : List Deferred}
def rndQ {S T:Type} (w0:World) (m:Nat) (d:List Deferred) (I:S→List Res→(Nat→Value)→Prop) (J:T→Exit→List Res→(Nat→Value)→Prop) (st:S ⊕ T):Exit→Act→World→Prop:=fun e a W =>
 match st with
 | .inl s'=>e=.normal∧∃L' tm',a=act m tm' d∧Ext w0 W L'∧I s' L' tm'
 | .inr u=>∃L' tm',a=act m tm' d∧Ext w0 W L'∧J u e L' tm'
theorem eN {S T:Type} {I:S→List Res→(Nat→Value)→Prop} {J:T→Exit→List Res→(Nat→Value)→Prop} {s':S} (h:I s' L tm):EX (rndQ w0 m d I J (.inl s')) .normal w0 L m tm d:=fun _ hW=>⟨E,L,tm,E,hW,h⟩
theorem aD {S T:Type} {I:S→List Res→(Nat→Value)→Prop} {J:T→Exit→List Res→(Nat→Value)→Prop} {u:T} {e:Exit} (h:J u e L tm):EX (rndQ w0 m d I J (.inr u)) e w0 L m tm d:=fun _ hW=>⟨L,tm,E,hW,h⟩
theorem jA {S T:Type} {body:S→Option (S ⊕ T)} {c:Code} {s:S} {u:T} (I:S→List Res→(Nat→Value)→Prop) (J:T→Exit→List Res→(Nat→Value)→Prop) (hl:aZ body s=some u) (h0:I s L tm)
  (round:∀s L tm st,I s L tm→body s=some st→CX r n P c (rndQ w0 m d I J st) w0 L m tm d)
  (after:∀e L tm,J u e L tm→e ≠ .normal∧EX Q e w0 L m tm d):CX r n P (.loop c) Q w0 L m tm d:=fun W hW=>by
 let p:Act→World→Nat→Prop:=fun a W k=>∃s L tm,loopN body k s=some u∧a=act m tm d∧Ext w0 W L∧I s L tm
 let μ:Act→World→Nat:=fun a W=>open Classical in if h:∃k,p a W k∧∀i,i<k→¬p a W i then Classical.choose h else 0
 have hμ:∀a W k,p a W k→p a W (μ a W)∧∀j,p a W j→μ a W≤j:=fun a W k hk=>by
  have hx:=least (p a W) k hk
  have he:μ a W=Classical.choose hx:=by simp only[μ];rw[dif_pos hx]
  have hs:=Classical.choose_spec hx
  rw[←he]at hs
  exact⟨hs.1,fun j hj=>by
   rcases Nat.lt_or_ge j (μ a W)with h|h
   ·exact absurd hj (hs.2 j h)
   ·exact h⟩
 obtain⟨k,hk⟩:=ga hl
 refine wpIn_loop (fun a W=>∃k,p a W k) μ ⟨k,s,L,tm,hk,E,hW,h0⟩ ?_
 rintro a W1 ⟨k,hk⟩
 obtain⟨⟨s1,L1,tm1,hN,rfl,hE,hI⟩,hmin⟩:=hμ a W1 k hk
 cases hj:μ (act m tm1 d) W1 with
 | zero=>rw[hj]at hN;cases hN
 | succ j =>
  rw[hj]at hN
  unfold loopN at hN
  cases hb:body s1 with
  | none=>rw[hb]at hN;cases hN
  | some st =>
   rw[hb]at hN
   refine wpIn_mono (round s1 L1 tm1 st hI hb W1 hE) ?_
   intro e a2 W2 h2
   cases st with
   | inl s' =>
    obtain⟨rfl,L',tm',rfl,hE',hI'⟩:=h2
    have hp:p (act m tm' d) W2 j:=⟨s',L',tm',hN,E,hE',hI'⟩
    exact⟨⟨j,hp⟩,by have:=(hμ _ _ _ hp).2 j hp;omega⟩
   | inr u' =>
    obtain⟨L',tm',rfl,hE',hJ⟩:=h2
    have:u'=u:=Option.some.inj hN
    subst this
    obtain⟨hne,hex⟩:=after e L' tm' hJ
    have h3:=hex W2 hE'
    cases e with
    | normal=>exact absurd E hne
    | _=>exact h3
abbrev oneJ {S:Type} (I:S→List Res→(Nat→Value)→Prop) (k:Nat):S→Exit→List Res→(Nat→Value)→Prop:=fun s e L tm=>e=.exit k∧I s L tm
abbrev twoJ {S:Type} (I:S→List Res→(Nat→Value)→Prop) (k:Nat):S ⊕ S→Exit→List Res→(Nat→Value)→Prop
 | .inl s,e,L,tm=>e=.ret∧I s L tm
 | .inr s,e,L,tm=>e=.exit k∧I s L tm
theorem a8 {S:Type} {body:S→Option (S ⊕ S)} {c:Code} {s u:S} (I:S→List Res→(Nat→Value)→Prop) (k:Nat) (hl:aZ body s=some u) (h0:I s L tm)
  (round:∀s L tm st,I s L tm→body s=some st→CX r n P c (rndQ w0 m d I (oneJ I k) st) w0 L m tm d)
  (after:∀e L tm,oneJ I k u e L tm→e ≠ .normal∧EX Q e w0 L m tm d):CX r n P (.loop c) Q w0 L m tm d:=jA I _ hl h0 round after
theorem fu {S:Type} {body:S→Option (S ⊕ (S ⊕ S))} {c:Code} {s:S} {u:S ⊕ S} (I:S→List Res→(Nat→Value)→Prop) (k:Nat) (hl:aZ body s=some u) (h0:I s L tm)
  (round:∀s L tm st,I s L tm→body s=some st→CX r n P c (rndQ w0 m d I (twoJ I k) st) w0 L m tm d)
  (after:∀e L tm,twoJ I k u e L tm→e ≠ .normal∧EX Q e w0 L m tm d):CX r n P (.loop c) Q w0 L m tm d:=jA I _ hl h0 round after
end
theorem keep {tm tm':Nat→Value} {i:Nat} {v:Value} (h:tm=tm') (hv:tm i=v):tm=upd tm' i v:=by
 funext j
 unfold upd
 split
 ·rename_i e;rw[e,hv]
 ·rw[h]
abbrev vI (x:Int):Value:=.int .i64 x
theorem sI {α:Type} {a b:α} (h:some a=some b):a=b:=Option.some.inj h
theorem vB {a b:Bool} (h:a=b):Value.bool a=.bool b:=congrArg Value.bool h
theorem nB {a b:Nat} (h:Nat.ble a b=true):a≤b:=Nat.le_of_ble_eq_true h
theorem kp {tm tm':Nat→Value} {i:Nat} {v:Value} (h:tm=tm') (hv:tm i=v:=by rfl):tm=upd tm' i v:=keep h hv
theorem kp4 {tm tm':Nat→Value} {i j k l:Nat} {u v w x:Value} (h:tm=tm') (h1:tm i=u:=by rfl) (h2:tm j=v:=by rfl) (h3:tm k=w:=by rfl) (h4:tm l=x:=by rfl):tm=upd (upd (upd (upd tm' i u) j v) k w) l x:=keep (keep (keep (keep h h1) h2) h3) h4
theorem sT {ops:Array Oper} {m:Nat} {tm:Nat→Value} {o:Oper} {j x:Nat} {b p:Bool} (hg:o.guard=some (j,b)) (hd:(ops[j]?).bind (·.dst)=some x) (hx:Nat.blt x m=true) (hv:tm x=.bool p) (hp:p=b):cZ ops m tm o=true:=by
 have hx':x<m:=by simpa using hx
 unfold cZ
 rw[hg]
 simp only[hd,hx',if_true,hv,hp,beq_self_eq_true]
theorem sF {ops:Array Oper} {m:Nat} {tm:Nat→Value} {o:Oper} {j x:Nat} {b p:Bool} (hg:o.guard=some (j,b)) (hd:(ops[j]?).bind (·.dst)=some x) (hx:Nat.blt x m=true) (hv:tm x=.bool p) (hp:p = !b):cZ ops m tm o=false:=by
 have hx':x<m:=by simpa using hx
 unfold cZ
 rw[hg]
 simp only[hd,hx',if_true,hv,hp]
 cases b <;> rfl
section
variable {r : Option Nat} {n : Nat} {P : Program} {ops : Array Oper} {Q : Exit → Act → World → Prop} {w0 : World} {L : List Res} {m : Nat} {tm : Nat → Value} {d : List Deferred} {l tail : List Oper}
theorem oJ (k:Nat) (F:(Nat→Value)→(Nat→Value)) (key:∀tm0,OX r n P ops Q w0 L (l.drop k) m (F tm0) d) (br:(∀tm0 tm',tm'=F tm0→OX r n P ops Q w0 L (l.drop k) m tm' d)→OX r n P ops Q w0 L l m tm d):OX r n P ops Q w0 L l m tm d :=
 br fun tm0 _ h=>by rw[h];exact key tm0
theorem qJ (k:Nat) (F:(Nat→Value)→(Nat→Value)) (key:∀tm0,QX r n P ops Q w0 L tail (l.drop k) m (F tm0) d) (br:(∀tm0 tm',tm'=F tm0→QX r n P ops Q w0 L tail (l.drop k) m tm' d)→QX r n P ops Q w0 L tail l m tm d):QX r n P ops Q w0 L tail l m tm d :=
 br fun tm0 _ h=>by rw[h];exact key tm0
theorem ox_take (k:Nat) (h:OX r n P ops Q w0 (L.take k) l m tm d):OX r n P ops Q w0 L l m tm d:=fun W hW=>h W (hW.take k)
end
section
variable {r : Option Nat} {n : Nat} {P : Program} {ρ : Operand → Value} {w0 : World} {L : List Res}
variable {t : Option Tmp} {ty : TypeId} {pos : String} {af : Array Edge} {g : Option (Nat × Bool)} {C : World → Prop}
theorem yE {x:Operand} {i:Nat} {vs:List Value} {v:Value} (hx:ρ x=.tuple vs.toArray) (hv:vs[i]? = some v):OpY r n P ⟨t,.extract x i,ty,pos,af,g⟩ ρ C C v :=
 aI (by intro c h;cases h) (fun W _=>by simp[execOp,hx,Instr.extract,hv])
theorem a5 {x:Operand} {a:Array Value} (hx:ρ x=.tuple a):OpY r n P ⟨t,.move x,ty,pos,af,g⟩ ρ C C (.tuple a):=dN hx
end
theorem lB {P:Program} {t e:TypeId} {d sz:Nat} {W:World} {xs ys:Array Value} {x0 x1 x2 y0 y1 y2:Value} {b0 b1 b2:Bool} (hu:P.underlying t=some (.array 3 e)) (hs:szB P e sz=true)
  (hx0:(part e xs 0).run P W=.ok x0 W) (hx1:(part e xs sz).run P W=.ok x1 W) (hx2:(part e xs (2*sz)).run P W=.ok x2 W)
  (hy0:(part e ys 0).run P W=.ok y0 W) (hy1:(part e ys sz).run P W=.ok y1 W) (hy2:(part e ys (2*sz)).run P W=.ok y2 W)
  (h0:(Op.equalIn d e x0 y0).run P W=.ok b0 W) (h1:(Op.equalIn d e x1 y1).run P W=.ok b1 W) (h2:(Op.equalIn d e x2 y2).run P W=.ok b2 W) :
  (Op.equalIn (d+1) t (.agg xs) (.agg ys)).run P W=.ok (b0&&b1&&b2) W:=by
 have hu1:(underlying t).run P W=.ok (.array 3 e) W:=by simp[underlying,hu]
 simp only[Op.equalIn,Sem.run_bind,hu1,Result.andThen_ok,cD hs]
 rw[Std.Legacy.Range.forIn_eq_forIn_range']
 simp only[Std.Legacy.Range.size,List.range',Nat.zero_add,Nat.sub_zero,Nat.add_sub_cancel,Nat.div_one,List.forIn_cons,Sem.run_bind,Nat.zero_mul,Nat.one_mul,hx0,hy0,h0,Result.andThen_ok]
 cases b0
 ·simp
 ·cases b1
  ·simp[hx1,hy1,h1]
  ·cases b2 <;> simp[hx1,hy1,h1,hx2,hy2,h2]
def flds (P:Program) (t:TypeId):Option (List (TypeId × Nat × Bool)) :=
 match P.underlying t with
 | some (.struct fs)=>if P.stoodInHeld t then none else some (fs.toList.map fun f=>(f.type,f.offset,f.name != "_"))
 | _=>none
theorem jR {P:Program} {t:TypeId} {l:List (TypeId × Nat × Bool)} (h:flds P t=some l):P.underlying t=some (.struct (P.fieldsOf t))∧P.stoodInHeld t=false∧(P.fieldsOf t).toList.map (fun f=>(f.type,f.offset,f.name != "_"))=l:=by
 unfold flds at h
 cases hu:P.underlying t with
 | none=>rw[hu]at h;cases h
 | some d =>
  rw[hu]at h
  cases d with
  | struct fs =>
   have hf:P.fieldsOf t=fs:=by simp[Program.fieldsOf,hu]
   simp only[]at h
   split at h
   ·cases h
   ·rename_i hst
    rw[hf]
    exact⟨E,by simpa using hst,Option.some.inj h⟩
  | _=>cases h
theorem kN {P:Program} {d:Nat} {xs ys:Array Value} {W:World}:(Op.eqFields d xs ys []).run P W=.ok true W:=rfl
theorem gF {P:Program} {d:Nat} {xs ys:Array Value} {W:World} {f:Field} {fs:List Field} {x y:Value} {b c:Bool} (hn:(f.name != "_")=true)
  (hx:(part f.type xs f.offset).run P W=.ok x W) (hy:(part f.type ys f.offset).run P W=.ok y W) (h:(Op.equalIn d f.type x y).run P W=.ok b W) (hr:(Op.eqFields d xs ys fs).run P W=.ok c W) :
  (Op.eqFields d xs ys (f::fs)).run P W=.ok (b&&c) W:=by
 have hn':f.name ≠ "_":=by simpa using hn
 simp only[Op.eqFields,Sem.run_bind,Sem.run_ite,if_pos hn',hx,hy,h,Result.andThen_ok]
 cases b
 ·simp
 ·simpa using hr
theorem iQ {P:Program} {t t0 t1:TypeId} {o0 o1:Nat} {d:Nat} {W:World} {xs ys:Array Value} {x0 x1 y0 y1:Value} {b0 b1:Bool} (hf:flds P t=some [(t0,o0,true),(t1,o1,true)])
  (hx0:(part t0 xs o0).run P W=.ok x0 W) (hx1:(part t1 xs o1).run P W=.ok x1 W) (hy0:(part t0 ys o0).run P W=.ok y0 W) (hy1:(part t1 ys o1).run P W=.ok y1 W)
  (h0:(Op.equalIn d t0 x0 y0).run P W=.ok b0 W) (h1:(Op.equalIn d t1 x1 y1).run P W=.ok b1 W):(Op.equalIn (d+1) t (.agg xs) (.agg ys)).run P W=.ok (b0&&b1) W:=by
 obtain⟨h2,h3,h4⟩:=jR hf
 rw[run_equalIn_struct W d t xs ys h2 h3]
 obtain⟨f0,fs,hl,e0,hr⟩:=List.map_eq_cons_iff.1 h4
 obtain⟨f1,gs,hl1,e1,hr1⟩:=List.map_eq_cons_iff.1 hr
 have hl2:=List.map_eq_nil_iff.1 hr1
 subst hl2 hl1
 simp only[Prod.mk.injEq]at e0 e1
 obtain⟨rfl,rfl,n0⟩:=e0
 obtain⟨rfl,rfl,n1⟩:=e1
 rw[hl]
 have:=gF n0 hx0 hy0 h0 (gF n1 hx1 hy1 h1 (kN (d:=d)))
 simpa using this
theorem eqS3 {P:Program} {t t0 t1 t2:TypeId} {o0 o1 o2:Nat} {d:Nat} {W:World} {xs ys:Array Value} {x0 x1 x2 y0 y1 y2:Value} {b0 b1 b2:Bool} (hf:flds P t=some [(t0,o0,true),(t1,o1,true),(t2,o2,true)])
  (hx0:(part t0 xs o0).run P W=.ok x0 W) (hx1:(part t1 xs o1).run P W=.ok x1 W) (hx2:(part t2 xs o2).run P W=.ok x2 W) (hy0:(part t0 ys o0).run P W=.ok y0 W) (hy1:(part t1 ys o1).run P W=.ok y1 W) (hy2:(part t2 ys o2).run P W=.ok y2 W)
  (h0:(Op.equalIn d t0 x0 y0).run P W=.ok b0 W) (h1:(Op.equalIn d t1 x1 y1).run P W=.ok b1 W) (h2:(Op.equalIn d t2 x2 y2).run P W=.ok b2 W):(Op.equalIn (d+1) t (.agg xs) (.agg ys)).run P W=.ok (b0&&(b1&&b2)) W:=by
 obtain⟨h5,h3,h4⟩:=jR hf
 rw[run_equalIn_struct W d t xs ys h5 h3]
 obtain⟨f0,fs,hl,e0,hr⟩:=List.map_eq_cons_iff.1 h4
 obtain⟨f1,gs,hl1,e1,hr1⟩:=List.map_eq_cons_iff.1 hr
 obtain⟨f2,hs,hl3,e2,hr2⟩:=List.map_eq_cons_iff.1 hr1
 have hl2:=List.map_eq_nil_iff.1 hr2
 subst hl2 hl3 hl1
 simp only[Prod.mk.injEq]at e0 e1 e2
 obtain⟨rfl,rfl,n0⟩:=e0
 obtain⟨rfl,rfl,n1⟩:=e1
 obtain⟨rfl,rfl,n2⟩:=e2
 rw[hl]
 have:=gF n0 hx0 hy0 h0 (gF n1 hx1 hy1 h1 (gF n2 hx2 hy2 h2 (kN (d:=d))))
 simpa using this
theorem au {P:Program} {t:TypeId} {xs:Array Value} {o:Nat} {W:World} {v:Value} (h:scB P t=true) (hv:xs[o]? = some v):(part t xs o).run P W=.ok v W:=by
 simp[part,fN h,hv]
theorem bw {P:Program} {t:TypeId} {xs:Array Value} {o k:Nat} {W:World} {cs:Array Value} (h:jS P t k=true) (hv:xs.extract o (o+k)=cs):(part t xs o).run P W=.ok (.agg cs) W:=by
 simp[part,fq h,eO h,hv]
section
variable {r : Option Nat} {n : Nat} {P : Program} {ρ : Operand → Value} {t : Option Tmp} {ty : TypeId} {pos : String} {af : Array Edge} {g : Option (Nat × Bool)} {C : World → Prop}
theorem i9 {x y:Operand} {u u':TypeId} {xs ys:Array Value} {b:Bool} (hg:P.eqGuardType P.depth u=false) (hx:ρ x=.agg xs) (hy:ρ y=.agg ys) (h:∀W,(Op.equalIn 10000 u (.agg xs) (.agg ys)).run P W=.ok b W):OpY r n P ⟨t,.binOp .eql u x y u',ty,pos,af,g⟩ ρ C C (.bool b) :=
 aI (by intro c h;cases h) (fun W _=>by
  simp only[execOp,hx,hy,Sem.run_bind,run_eqGuard_agg W .eql u x y xs ys hg,Result.andThen_ok,run_eql_struct,h]
  rfl)
theorem iz {x y:Operand} {u u':TypeId} {xs ys:Array Value} {b:Bool} (hg:P.eqGuardType P.depth u=false) (hx:ρ x=.agg xs) (hy:ρ y=.agg ys) (h:∀W,(Op.equalIn 10000 u (.agg xs) (.agg ys)).run P W=.ok b W):OpY r n P ⟨t,.binOp .neq u x y u',ty,pos,af,g⟩ ρ C C (.bool (!b)) :=
 aI (by intro c h;cases h) (fun W _=>by
  simp only[execOp,hx,hy,Sem.run_bind,run_eqGuard_agg W .neq u x y xs ys hg,Result.andThen_ok,run_neq_struct,h]
  rfl)
end
open Go.RowKit (Below)
structure Rd (W:World) (A:Option Addr) (n c:Nat) (cs:List Value):Prop where
 cell:∀(j:Nat) (v:Value),cs[j]? = some v→∃b o,A=some ⟨b,o,none⟩∧W.cell? ⟨b,o+j,none⟩=some v
 cap:n≤c
def RdL (w0:World) (L:List Res) (A:Option Addr) (n c:Nat) (cs:List Value):Prop:=∀W,Ext w0 W L→Rd W A n c cs
def slA (A:Option Addr) (j:Nat):Value:=.pointer (some ⟨(A.getD ⟨0,0,none⟩).block,(A.getD ⟨0,0,none⟩).off+j,none⟩)
theorem Rd.later {W W':World} {A:Option Addr} {n c:Nat} {cs:List Value} (h:Rd W A n c cs) (hb:Below W.heap.size W W'):Rd W' A n c cs :=
 ⟨fun j v hj=>by
  obtain⟨b,o,e,hc⟩:=h.cell j v hj
  exact⟨b,o,e,(hb.cell (World.block_lt_of_cell? W _ hc)).trans hc⟩,h.cap⟩
theorem RdL.arg {w0:World} {L:List Res} {A:Option Addr} {n c:Nat} {cs:List Value} (h:Rd w0 A n c cs):RdL w0 L A n c cs:=fun _ hW=>h.later hW.below
def bR (A:Option Addr) (c:Nat) (e:TypeId) (sz n:Nat) (cs:List Value):Res where
 dom b:=∃a,A=some a∧a.block=b
 holds W:=W.ownsRow 0 e sz (.slice A n c) n cs
 loc W W' h _ hh:=by
  obtain⟨h1,h2⟩:=hh
  refine⟨h1,?_⟩
  rcases h2 with h2|⟨g,cap,cur,hv,hb,hg,h3⟩
  ·exact .inl h2
  ·refine .inr ⟨g,cap,cur,hv,hb,?_,h3⟩
   simp only[Value.slice.injEq]at hv
   rw[h g ⟨_,hv.1,E⟩]
   exact hg
 inb W h b hb:=by
  obtain⟨a,rfl,rfl⟩:=hb
  exact(World.ownsRow.lt h a.block (by simp[Value.ownBlock])).2
theorem kd {W:World} {A:Option Addr} {c:Nat} {e:TypeId} {sz n:Nat} {cs:List Value} (h:(bR A c e sz n cs).holds W):Rd W A n c cs:=by
 have h':W.ownsRow 0 e sz (.slice A n c) n cs:=h
 rcases h'.2 with⟨h2,h3⟩|⟨g,cap,cur,hv,hb,hg,h3,h4,h5,h6⟩
 ·simp only[Value.slice.injEq]at h2
  refine⟨fun j v hj=>?_,by omega⟩
  have:=h'.1
  rw[h3]at this
  simp at this
  rw[this]at hj
  simp at hj
 ·simp only[Value.slice.injEq]at hv
  obtain⟨rfl,_,rfl⟩:=hv
  refine⟨fun j v hj=>⟨g,0,E,?_⟩,h3⟩
  have hl:j<n*sz:=by
   have h7:=(List.getElem?_eq_some_iff.1 hj).1
   rw[h'.1]at h7
   exact h7
  rw[Nat.zero_add,h'.cellAt j hl]
  exact hj
theorem RdL.row {w0:World} {L:List Res} (i:Nat) {A:Option Addr} {n c:Nat} {e:TypeId} {sz:Nat} {cs:List Value} (h:L[i]? = some (bR A c e sz n cs)):RdL w0 L A n c cs:=fun _ hW=>kd (hW.mem h)
section
variable {r : Option Nat} {n : Nat} {P : Program} {ρ : Operand → Value} {w0 : World} {L : List Res}
variable {t : Option Tmp} {ty : TypeId} {pos : String} {af : Array Edge} {g : Option (Nat × Bool)}
variable {A : Option Addr} {k c : Nat} {cs : List Value}
theorem yI {x ix:Operand} {u e:TypeId} {sz:Nat} {q:IntKind} {i:Int} (hs:kK P u=some (e,sz)) (hsz:0<sz) (h0:0≤i) (h1:i<k) (hR:RdL w0 L A k c cs) (hl:cs.length=k*sz) (hx:ρ x=.slice A k c) (hi:ρ ix=.int q i) :
  OpY r n P ⟨t,.indexAddr u x ix,ty,pos,af,g⟩ ρ (fun W=>Ext w0 W L) (fun W=>Ext w0 W L) (slA A (i.toNat*sz)):=fun W hW=>by
 have hk:0<cs.length:=by
  rw[hl]
  have:0<k:=by omega
  exact Nat.mul_pos this hsz
 obtain⟨b,o,rfl,_⟩:=(hR W hW).cell 0 cs[0] (by simp[hk])
 exact lj (C:=fun W=>Ext w0 W L) hs h0 h1 hx hi W hW
theorem yFR {x:Operand} {s f j q:Nat} {C:World→Prop} (hf:bV P s f=some q) (hx:ρ x=slA A j):OpY r n P ⟨t,.fieldAddr s x f,ty,pos,af,g⟩ ρ C C (slA A (j+q)):=by
 have:=yFA (r:=r) (n:=n) (t:=t) (ty:=ty) (pos:=pos) (af:=af) (g:=g) (C:=C) hf (x:=x) (ρ:=ρ) (b:=(A.getD ⟨0,0,none⟩).block) (o:=(A.getD ⟨0,0,none⟩).off+j) hx
 rw[Nat.add_assoc]at this
 exact this
theorem dW {x ix:Operand} {u:TypeId} {j len sz:Nat} {q:IntKind} {i:Int} {C:World→Prop} (h:kZ P u=some (len,sz)) (h0:0≤i) (h1:i<len) (hx:ρ x=slA A j) (hi:ρ ix=.int q i) :
  OpY r n P ⟨t,.indexAddr u x ix,ty,pos,af,g⟩ ρ C C (slA A (j+i.toNat*sz)):=by
 have:=aq (r:=r) (n:=n) (t:=t) (ty:=ty) (pos:=pos) (af:=af) (g:=g) (C:=C) h h0 h1 (x:=x) (ix:=ix) (ρ:=ρ) (b:=(A.getD ⟨0,0,none⟩).block) (o:=(A.getD ⟨0,0,none⟩).off+j) hx hi
 rw[Nat.add_assoc]at this
 exact this
theorem yR {x:Operand} {u:TypeId} {j:Nat} {v:Value} (hs:scB P u=true) (hR:RdL w0 L A k c cs) (hx:ρ x=slA A j) (hv:cs[j]? = some v) :
  OpY r n P ⟨t,.load u x,ty,pos,af,g⟩ ρ (fun W=>Ext w0 W L) (fun W=>Ext w0 W L) v :=
 aI (by intro c h;cases h) (fun W hW=>by
  obtain⟨b,o,rfl,hc⟩:=(hR W hW).cell j v hv
  have:=iH (P:=P) hs hc
  have hx':ρ x=.pointer (some ⟨b,o+j,none⟩):=hx
  simp[execOp,hx',this])
theorem yM (vs:List Value) {x:Operand} {u:TypeId} {j:Nat} (hs:jS P u vs.length=true) (hp:0<vs.length) (hR:RdL w0 L A k c cs) (hx:ρ x=slA A j) (hv:∀q v,vs[q]? = some v→cs[j+q]? = some v) :
  OpY r n P ⟨t,.load u x,ty,pos,af,g⟩ ρ (fun W=>Ext w0 W L) (fun W=>Ext w0 W L) (.agg vs.toArray) :=
 aI (by intro c h;cases h) (fun W hW=>by
  obtain⟨b,o,rfl,hc⟩:=(hR W hW).cell j vs[0] (by have:=hv 0 vs[0] (by simp[hp]);simpa using this)
  have hx':ρ x=.pointer (some ⟨b,o+j,none⟩):=hx
  have:=iJ (P:=P) (W:=W) (b:=b) (o:=o+j) hs (fun q v hq=>by
   obtain⟨b',o',e,hc'⟩:=(hR W hW).cell (j+q) v (hv q v hq)
   simp only[Option.some.injEq,Addr.mk.injEq,and_true]at e
   obtain⟨rfl,rfl⟩:=e
   rw[Nat.add_assoc]
   exact hc')
  simp[execOp,hx',this])
theorem Rd.cut {W:World} {l h sz:Nat} (hr:Rd W A k c cs) (h1:l≤h) (h2:h≤k):Rd W (if c=l then A else A.map (·.add (l*sz))) (h-l) (c-l) ((cs.drop (l*sz)).take ((h-l)*sz)):=by
 have hcap:=hr.cap
 refine⟨fun j v hj=>?_,by omega⟩
 have hj':(cs.drop (l*sz))[j]? = some v:=by
  rw[List.getElem?_take]at hj
  split at hj
  ·exact hj
  ·cases hj
 rw[List.getElem?_drop]at hj'
 obtain⟨b,o,rfl,hc⟩:=hr.cell _ v hj'
 split
 ·rename_i e
  have:h-l=0:=by omega
  rw[this,Nat.zero_mul]at hj
  simp at hj
 ·refine⟨b,o+l*sz,?_,?_⟩
  ·simp[Addr.add_lit]
  ·rw[Nat.add_assoc];exact hc
theorem y_cut {x a b:Operand} {u e:TypeId} {sz:Nat} {q q':IntKind} {lo hi:Int} (hs:kK P u=some (e,sz)) (h0:0≤lo) (h1:lo≤hi) (h2:hi≤k) (hR:RdL w0 L A k c cs) (hx:ρ x=.slice A k c) (ha:ρ a=.int q lo) (hb:ρ b=.int q' hi) :
  OpY r n P ⟨t,.slice u x (some a) (some b) none,ty,pos,af,g⟩ ρ (fun W=>Ext w0 W L) (fun W=>Ext w0 W L) (.slice (if c=lo.toNat then A else A.map (·.add (lo.toNat*sz))) (hi.toNat-lo.toNat) (c-lo.toNat)) :=
 aI (by intro c h;cases h) (fun W hW=>by
  have hcap:=(hR W hW).cap
  unfold kK at hs
  cases hu:P.underlying u with
  | none=>rw[hu]at hs;cases hs
  | some d =>
   rw[hu]at hs
   cases d with
   | slice e' =>
    simp only[]at hs
    cases hinf:P.info? e' with
    | none=>rw[hinf]at hs;cases hs
    | some inf =>
     rw[hinf]at hs
     simp only[Option.map_some,Option.some.injEq,Prod.mk.injEq]at hs
     obtain⟨rfl,rfl⟩:=hs
     have e1:P.elem u=e':=by simp[Program.elem,hu]
     have hu':P.underlying u=some (.slice (P.elem u)):=by rw[e1];exact hu
     have h3:hi≤(c:Int):=by omega
     have hsz:(Go.sizeOf (P.elem u)).run P W=.ok inf.size W:=by rw[e1];simp[Go.sizeOf,typeInfo,hinf]
     simp only[execOp,hx,ha,hb,Option.map_some,Option.map_none,Sem.run_bind,run_sliceAt_slice W u _ _ _ _ hu',run_slice_lh W u A k c hu' q q' lo hi h0 h1 h3,hsz,Result.andThen_ok,sliced]
     rfl
   | _=>cases hs)
end
theorem lK (W:World) (e:TypeId) (sz:Nat):W.ownsRow 0 e sz (.slice none 0 0) 0 []:=World.ownsRow_nil _ _ _ _
def eC (P:Program) (e:TypeId) (z:Value) (sz by':Nat):Bool:=match P.info? e with
 | some i=>i.size==sz&&i.bytes==by'&&decide (0<by')&&decide (0<sz)&&z.cells.size==sz
 | none=>false
section
variable {r : Option Nat} {n : Nat} {P : Program} {ops : Array Oper} {Q : Exit → Act → World → Prop} {w0 : World} {L : List Res} {m : Nat} {tm : Nat → Value} {d : List Deferred}
variable {t : Tmp} {ty : TypeId} {pos : String} {af : Array Edge} {g : Option (Nat × Bool)} {l rest : List Oper}
theorem Ext.nilrow {W:World} (h:Ext w0 W L) (e:TypeId) (sz:Nat):Ext w0 W (L++[bR none 0 e sz 0 []]) :=
 h.snoc (p:=bR none 0 e sz 0 []) (lK W e sz) (fun b hb=>by obtain⟨a,ha,_⟩:=hb;cases ha) (fun i q _ b _ hb=>by obtain⟨a,ha,_⟩:=hb;cases ha)
theorem gJ {c:Code} (e:TypeId) (sz:Nat) (h:CX r n P c Q w0 (L++[bR none 0 e sz 0 []]) m tm d):CX r n P c Q w0 L m tm d:=fun W hW=>h W (hW.nilrow e sz)
theorem jq (len:Nat) (cs:List Value) {u e:TypeId} {parts:List (Nat × Operand)} {z:Value} {sz by':Nat} (hu:P.underlying u=some (.slice e)) (hz:bg P e=some z) (hb:eC P e z sz by'=true) (hlen:0<len) (hsm:len*sz≤16777216)
  (hfill:Instr.fill (fun i=>some (i*sz,sz)) (madeCells z.cells (len*sz)) (parts.map fun p=>(p.1,opv m tm p.2))=some cs.toArray) (hcs:cs.length=len*sz)
  (hw:cZ ops m tm ⟨some t,.buildSlice u len parts.toArray,ty,pos,af,g⟩=true)
  (h:∀b,OX r n P ops Q w0 (L++[bR (some ⟨b,0,none⟩) len e sz len cs]) rest m (upd tm t (.slice (some ⟨b,0,none⟩) len len)) d) :
  OX r n P ops Q w0 L (⟨some t,.buildSlice u len parts.toArray,ty,pos,af,g⟩::rest) m tm d :=
 fS hw (by intro c h;cases h) fun W hW=>by
  obtain⟨inf,hinf,hzz⟩:∃inf,P.info? e=some inf∧inf.zero=some z:=by
   unfold bg at hz
   cases hi:P.info? e with
   | none=>rw[hi]at hz;cases hz
   | some inf=>rw[hi]at hz;exact⟨inf,E,hz⟩
  unfold eC at hb
  rw[hinf]at hb
  simp only[Bool.and_eq_true,beq_iff_eq,decide_eq_true_eq]at hb
  obtain⟨⟨⟨⟨h1,h2⟩,h3⟩,h4⟩,h5⟩:=hb
  have hne:¬len*sz=0:=by
   have:=Nat.mul_pos hlen h4
   omega
  have hsm':¬2 ^ 24<len*sz:=by omega
  have hu1:(underlying u).run P W=.ok (.slice e) W:=by simp[underlying,hu]
  have hsz:(Go.sizeOf e).run P W=.ok sz W:=by simp[Go.sizeOf,typeInfo,hinf,h1]
  have hz1:(zeroValue e).run P W=.ok z W:=by simp[zeroValue,typeInfo,hinf,hzz]
  have hb:(Instr.buildSlice u len (parts.toArray.map fun(i,x)=>(i,opv m tm x))).run P W=.ok (.slice (some ⟨W.heap.size,0,none⟩) len len) (W.alloc (.cells cs.toArray e)):=by
   have e1:(parts.toArray.map fun(i,x)=>(i,opv m tm x)).toList=parts.map fun p=>(p.1,opv m tm p.2):=by simp
   simp only[Instr.buildSlice,Sem.run_bind,hu1,Result.andThen_ok,hsz,Sem.run_ite,gt_iff_lt,if_neg hsm',if_neg hne,hz1,e1,Sem.run_pure]
   rw[show(Array.map (fun x=>z.cells[x % z.cells.size]!) (Array.range (len*sz)))=madeCells z.cells (len*sz)from E,hfill]
   simp[newRow]
  refine⟨_,W.alloc (.cells cs.toArray e),_,?_,?_,h W.heap.size⟩
  ·simp only[execOp,Sem.run_bind,hb]
   rfl
  ·have hW':=hW.alloc (.cells cs.toArray e)
   have hk:(bR (some ⟨W.heap.size,0,none⟩) len e sz len cs).holds (W.alloc (.cells cs.toArray e)):=by
    have:=World.ownsRow_lit (base:=0) (e:=e) (size:=sz) W cs.toArray len (Nat.zero_le _) (by simp only[maxLen];have:=Nat.le_mul_of_pos_right len h4;omega) (by simpa using hcs)
    have e3:cs.toArray.toList=cs:=rfl
    rw[e3]at this
    exact this
   have h7:Ext w0 (W.alloc (.cells cs.toArray e)) L:=hW.keep (hW.below.alloc hW.size _) (by simp) (fun i p hp b hd=>Below.heap_alloc W _ b (p.inb W (hW.all i p hp) b hd))
   refine h7.snoc hk (fun b hb=>?_) (fun i q hq b hb hb'=>?_)
   ·obtain⟨a,ha,rfl⟩:=hb
    cases ha
    exact hW.size
   ·obtain⟨a,ha,rfl⟩:=hb'
    cases ha
    have:=q.inb W (hW.all i q hq) _ hb
    exact absurd this (Nat.lt_irrefl _)
theorem ox_make (cs:List Value) {x:Operand} {u e:TypeId} {z:Value} {sz by':Nat} {i:Int} (hu:P.underlying u=some (.slice e)) (hz:bg P e=some z) (hb:eC P e z sz by'=true) (h0:0≤i) (h1:i*by'≤281474976710656) (hx:opv m tm x=.int .i64 i)
  (hcs:(madeCells z.cells (i.toNat*sz)).toList=cs) (hw:cZ ops m tm ⟨some t,.makeSlice u x x,ty,pos,af,g⟩=true)
  (h:∀b,OX r n P ops Q w0 (L++[bR (some ⟨b,0,none⟩) i.toNat e sz i.toNat cs]) rest m (upd tm t (.slice (some ⟨b,0,none⟩) i.toNat i.toNat)) d) :
  OX r n P ops Q w0 L (⟨some t,.makeSlice u x x,ty,pos,af,g⟩::rest) m tm d :=
 fS hw (by intro c h;cases h) fun W hW=>by
  obtain⟨inf,hinf,hzz⟩:∃inf,P.info? e=some inf∧inf.zero=some z:=by
   unfold bg at hz
   cases hi:P.info? e with
   | none=>rw[hi]at hz;cases hz
   | some inf=>rw[hi]at hz;exact⟨inf,E,hz⟩
  unfold eC at hb
  rw[hinf]at hb
  simp only[Bool.and_eq_true,beq_iff_eq,decide_eq_true_eq]at hb
  obtain⟨⟨⟨⟨h2,h3⟩,h4⟩,h5⟩,h6⟩:=hb
  have hi63:i≤281474976710656:=by
   have:i*1≤i*by':=Int.mul_le_mul_of_nonneg_left (by omega) h0
   omega
  have hr:=run_make (P:=P) W u e inf z hu hinf hzz .i64 .i64 i i h0 (Int.le_refl _) (by rw[h3,Int.mul_comm];exact h1) (by omega)
  rw[h2]at hr
  have hlen:cs.length=i.toNat*sz:=by rw[←hcs];simp[size_madeCells]
  refine⟨_,W.alloc (.cells cs.toArray e),_,?_,?_,h W.heap.size⟩
  ·have e1:madeCells z.cells (i.toNat*sz)=cs.toArray:=by rw[←hcs]
   rw[e1]at hr
   simp only[execOp,hx,Sem.run_bind,hr]
   rfl
  ·have hk:(bR (some ⟨W.heap.size,0,none⟩) i.toNat e sz i.toNat cs).holds (W.alloc (.cells cs.toArray e)):=by
    have:=World.ownsRow_lit (base:=0) (e:=e) (size:=sz) W cs.toArray i.toNat (Nat.zero_le _) (by simp only[maxLen];omega) (by simpa using hlen)
    have e3:cs.toArray.toList=cs:=rfl
    rw[e3]at this
    exact this
   have h7:Ext w0 (W.alloc (.cells cs.toArray e)) L:=hW.keep (hW.below.alloc hW.size _) (by simp) (fun i p hp b hd=>Below.heap_alloc W _ b (p.inb W (hW.all i p hp) b hd))
   refine h7.snoc hk (fun b hb=>?_) (fun i q hq b hb hb'=>?_)
   ·obtain⟨a,ha,rfl⟩:=hb
    cases ha
    exact hW.size
   ·obtain⟨a,ha,rfl⟩:=hb'
    cases ha
    have:=q.inb W (hW.all i q hq) _ hb
    exact absurd this (Nat.lt_irrefl _)
theorem lb (i:Nat) {x y:Operand} {u e:TypeId} {A B:Option Addr} {c c' k q:Nat} {sz by':Nat} {cs news:List Value} {z:Value} (hu:P.underlying u=some (.slice e)) (hz:bg P e=some z) (hb:eC P e z sz by'=true)
  (hL:L[i]? = some (bR A c e sz k cs)) (hx:opv m tm x=.slice A k c) (hy:opv m tm y=.slice B q c') (hq:0<q) (hR:RdL w0 L B q c' news) (hn:news.length=q*sz) (h1:(news.all (·.oneCell'))=true) (hg:(k+q)*by'≤140737488355328)
  (hw:cZ ops m tm ⟨some t,.call ⟨.builtin .append,#[x,y],#[u,u]⟩,ty,pos,af,g⟩=true)
  (h:∀A' c',OX r n P ops Q w0 (L.set i (bR A' c' e sz (k+q) (cs++news))) rest m (upd tm t (.slice A' (k+q) c')) d) :
  OX r n P ops Q w0 L (⟨some t,.call ⟨.builtin .append,#[x,y],#[u,u]⟩,ty,pos,af,g⟩::rest) m tm d :=
 fS hw (by intro c h;cases h) fun W hW=>by
  obtain⟨inf,hinf,hzz⟩:∃inf,P.info? e=some inf∧inf.zero=some z:=by
   unfold bg at hz
   cases hi:P.info? e with
   | none=>rw[hi]at hz;cases hz
   | some inf=>rw[hi]at hz;exact⟨inf,E,hz⟩
  unfold eC at hb
  rw[hinf]at hb
  simp only[Bool.and_eq_true,beq_iff_eq,decide_eq_true_eq]at hb
  obtain⟨⟨⟨⟨h2,h3⟩,h4⟩,h5⟩,h6⟩:=hb
  have hp:0<news.length:=by rw[hn];exact Nat.mul_pos hq h5
  obtain⟨b,o,rfl,_⟩:=(hR W hW).cell 0 news[0] (by simp[hp])
  have hlen:k+q≤140737488355328:=Nat.le_trans (Nat.le_mul_of_pos_right _ h4) hg
  have hown:W.ownsRow 0 e sz (.slice A k c) k cs:=hW.mem hL
  obtain⟨v',W',hr,hown',hgr,hnil,hat⟩:=run_append_own_at (P:=P) W 0 u ty e inf z sz by' hu hinf hzz h2 h3 h6 h5 (.slice A k c) k cs hown ⟨b,o,none⟩ q c' news hn
   (fun j v hj=>by
    obtain⟨b',o',e',hc⟩:=(hR W hW).cell j v hj
    simp only[Option.some.injEq,Addr.mk.injEq,and_true]at e'
    obtain⟨rfl,rfl⟩:=e'
    rw[Addr.add_lit]
    exact hc) (by simpa using h1) (by simp only[maxLen];omega) hg (Nat.zero_le _)
  have hshape:∃A' cc,v'=.slice A' (k+q) cc:=by
   rcases hown'.2 with⟨h7,h8⟩|⟨g',cap,cur,h7,_⟩
   ·exact⟨none,0,by rw[h7,h8]⟩
   ·exact⟨_,cap,h7⟩
  obtain⟨A',cc,rfl⟩:=hshape
  refine⟨_,W',_,?_,?_,h A' cc⟩
  ·simp only[execOp,resolve,invoke,builtin]
   simp[hx,hy,hr]
  ·refine hW.set hL (bR A' cc e sz (k+q) (cs++news)) hown' hgr.os hgr.tape hgr.output hgr.size (fun b' hb' hnd=>?_) (fun b' hb'=>?_)
   ·refine hgr.block b' hb' (fun e'=>hnd ?_)
    cases A with
    | none=>simp[Value.ownBlock]at e'
    | some a=>exact⟨a,E,by simpa [Value.ownBlock]using e'.symm⟩
   ·obtain⟨a,rfl,rfl⟩:=hb'
    rcases hat with h9|h9
    ·left
     cases A with
     | none=>simp[Value.ownBlock]at h9
     | some a0=>exact⟨a0,E,by simpa [Value.ownBlock]using h9.symm⟩
    ·right
     have:a.block=W.heap.size:=by simpa [Value.ownBlock]using h9
     omega
end
def aL {α:Type} (cells:α→List Value) (xs:List α):List Value:=xs.flatMap cells
def cI (x:Int):List Value:=[.int .i64 x]
theorem eL {α:Type} {cells:α→List Value} {sz:Nat} (hc:∀x,(cells x).length=sz) {n:Nat} {xs:List α} (hn:n=xs.length):(aL cells xs).length=n*sz:=by
 subst hn
 unfold aL
 induction xs with
 | nil=>simp
 | cons x xs ih=>simp[hc,ih,Nat.add_mul,Nat.add_comm]
theorem jJ {α:Type} {cells:α→List Value} {sz:Nat} (hc:∀x,(cells x).length=sz) {d:α} (q:Nat) (hq:q<sz):∀(xs:List α) (j:Nat),j<xs.length→(aL cells xs)[j*sz+q]? = (cells (xs.getD j d))[q]?
 | [],j,h=>by simp at h
 | x::xs,0,_=>by
  have:q<(cells x).length:=by rw[hc];exact hq
  simp[aL,List.getElem?_append_left this]
 | x::xs,j+1,h=>by
  have ih:=jJ hc (d:=d) q hq xs j (by simpa using h)
  have hge:(cells x).length≤(j+1)*sz+q:=by rw[hc,Nat.add_mul];omega
  unfold aL at ih ⊢
  rw[List.flatMap_cons,List.getElem?_append_right hge,hc,show(j+1)*sz+q-sz=j*sz+q by rw[Nat.add_mul];omega,ih]
  simp
theorem eG {α:Type} [Inhabited α] {cells:α→List Value} {sz:Nat} (hc:∀x,(cells x).length=sz) {xs:List α} {i:Int} {q:Nat} {v:Value} (h0:0≤i) (h1:i<(xs.length:Int)) (hv:(cells (rdL xs i))[q]? = some v):(aL cells xs)[i.toNat*sz+q]? = some v:=by
 have hq:q<sz:=by rw[←hc (rdL xs i)];exact(List.getElem?_eq_some_iff.1 hv).1
 rw[jJ hc (d:=default) q hq xs i.toNat (by omega)]
 exact hv
theorem gv {α:Type} [Inhabited α] {cells:α→List Value} {sz:Nat} (hc:∀x,(cells x).length=sz) {xs:List α} {i:Int} {v:Value} (h0:0≤i) (h1:i<(xs.length:Int)) (hv:(cells (rdL xs i))[0]? = some v):(aL cells xs)[i.toNat*sz]? = some v:=eG hc h0 h1 hv
theorem bx {α:Type} [Inhabited α] {cells:α→List Value} {sz:Nat} (hc:∀x,(cells x).length=sz) {xs:List α} {i:Int} (h0:0≤i) (h1:i<(xs.length:Int)):∀q v,(cells (rdL xs i))[q]? = some v→(aL cells xs)[i.toNat*sz+q]? = some v:=fun _ _ hv=>eG hc h0 h1 hv
theorem dI {α:Type} [Inhabited α] {cells:α→List Value} {sz o:Nat} (hc:∀x,(cells x).length=sz) {xs:List α} {i:Int} {vs:List Value} (h0:0≤i) (h1:i<(xs.length:Int)) (hp:∀q v,vs[q]? = some v→(cells (rdL xs i))[o+q]? = some v):∀q v,vs[q]? = some v→(aL cells xs)[(i.toNat*sz+o)+q]? = some v:=fun q v hq=>by
 have:=eG hc h0 h1 (hp q v hq)
 rw[←Nat.add_assoc]at this
 exact this
theorem kj {α:Type} {cells:α→List Value} (hc:∀x,(cells x).length=1) (v:α) (u:Value) (hu:cells v=[u]):∀(xs:List α) (j:Nat),(aL cells xs).set j u=aL cells (xs.set j v)
 | [],j=>by simp[aL]
 | x::xs,0=>by
  obtain⟨y,hy⟩:=List.length_eq_one_iff.1 (hc x)
  simp[aL,hy,hu]
 | x::xs,j+1=>by
  obtain⟨y,hy⟩:=List.length_eq_one_iff.1 (hc x)
  have ih:=kj hc v u hu xs j
  unfold aL at ih ⊢
  simp[hy,ih]
section
variable {r : Option Nat} {n : Nat} {P : Program} {ρ : Operand → Value} {w0 : World} {L : List Res}
variable {t : Option Tmp} {ty : TypeId} {pos : String} {af : Array Edge} {g : Option (Nat × Bool)}
theorem lD (i:Nat) {α:Type} {cells:α→List Value} (hc:∀x,(cells x).length=1) {xs:List α} (v:α) {x y:Operand} {u e:TypeId} {A:Option Addr} {k c:Nat} {j:Int} {w:Value} (hs:szB P u 1=true) (hL:L[i]? = some (bR A c e 1 k (aL cells xs))) (h0:0≤j) (h1:j<(xs.length:Int)) (hx:ρ x=slA A (j.toNat*1)) (hw:cells v=[w]) (hy:ρ y=w) (ho:w.oneCell'=true) :
  OpY r n P ⟨t,.store u x y,ty,pos,af,g⟩ ρ (fun W=>Ext w0 W L) (fun W=>Ext w0 W (L.set i (bR A c e 1 k (aL cells (xs.set j.toNat v))))) undef :=
 gE (by intro c h;cases h) (fun W hW=>by
  have hown:W.ownsRow 0 e 1 (.slice A k c) k (aL cells xs):=hW.mem hL
  have hk:xs.length=k:=by
   have h5:=hown.1
   rw[eL hc E]at h5
   omega
  rcases hown.2 with⟨_,h3⟩|⟨g',cap,cur,hv,_,hg,h3,h4,h5,h6⟩
  ·omega
  ·simp only[Value.slice.injEq]at hv
   obtain⟨rfl,_,rfl⟩:=hv
   have hjk:j.toNat<k:=by omega
   have hcur:j.toNat<cur.size:=by omega
   have hx':ρ x=.pointer (some ⟨g',j.toNat,none⟩):=by
    rw[hx]
    simp[slA]
   have hcw:w.cells = #[w]:=by cases w <;> first|rfl|cases ho
   have hst:=run_storeCells_at (P:=P) g' j.toNat e w.cells.toList 0 cur W hg (by rw[hcw];simp;omega) (by rw[hcw];simpa using ho)
   simp only[Nat.add_zero]at hst
   refine⟨_,by
    simp only[execOp,hx',hy,Sem.run_bind]
    have:(Instr.storeAt u (.pointer (some ⟨g',j.toNat,none⟩)) w).run P W=.ok () (W.setRow g' (cur.toList.take j.toNat++w.cells.toList++cur.toList.drop (j.toNat+w.cells.toList.length)).toArray):=by
     simp[Instr.storeAt,Instr.sureAddr,storeVar,cD (show szB P u w.cells.size=true by rw[hcw];exact hs),hst]
    rw[this]
    rfl,?_⟩
   have e1:cur.toList.take j.toNat++w.cells.toList++cur.toList.drop (j.toNat+w.cells.toList.length)=cur.toList.set j.toNat w:=by
    rw[hcw]
    simp only[List.length_cons,List.length_nil]
    rw[List.set_eq_take_append_cons_drop,if_pos (by simpa using hcur)]
    simp
   rw[e1]
   refine hW.set hL (bR (some ⟨g',0,none⟩) c e 1 k (aL cells (xs.set j.toNat v))) ?_ E E E (by simp[World.setRow]) (fun b' _ hn=>?_) (fun b' hb'=>.inl hb')
   ·refine⟨?_,.inr ⟨g',c,(cur.toList.set j.toNat w).toArray,E,Nat.zero_le _,setRow_heap W g' _ _ e _ hg,h3,h4,by simpa using h5,?_⟩⟩
    ·rw[eL hc E];simp[hk]
    ·simp only[Nat.mul_one]at h6 ⊢
     rw[←kj hc v w hw,←h6,List.take_set]
   ·show(W.heap.modify g' _)[b']? = _
    rw[Array.getElem?_modify,if_neg (fun e'=>hn ⟨_,E,e'⟩)])
end
section
variable {r : Option Nat} {n : Nat} {P : Program} {ops : Array Oper} {Q : Exit → Act → World → Prop} {w0 : World} {L : List Res} {m : Nat} {tm : Nat → Value} {d : List Deferred}
theorem RdL.cells (i:Nat) {b:Nat} {e:TypeId} {cs:List Value} (h:L[i]? = some (ac b e cs)):RdL w0 L (some ⟨b,0,none⟩) 1 1 cs:=fun W hW =>
 ⟨fun j v hj=>⟨b,0,E,by rw[Nat.zero_add,dx hW h];exact hj⟩,Nat.le_refl _⟩
theorem Ext.pick {W:World} (h:Ext w0 W L) (i:Nat) {p:Res} (hp:L[i]? = some p):Ext w0 W [p]:=by
 have hg:∀(j:Nat) (q:Res),[p][j]? = some q→j=0∧q=p:=fun j q hq=>by
  cases j with
  | zero=>simp at hq;exact⟨E,hq.symm⟩
  | succ j=>simp at hq
 exact⟨h.below,fun j q hq=>by obtain⟨_,rfl⟩:=hg j q hq;exact h.all i _ hp,fun j q hq=>by obtain⟨_,rfl⟩:=hg j q hq;exact h.new i _ hp,
  fun j k q s hq hs hne=>by obtain⟨rfl,_⟩:=hg j q hq;obtain⟨rfl,_⟩:=hg k s hs;exact absurd E hne⟩
theorem Ext.none {W:World} (h:Ext w0 W L):Ext w0 W []:=h.take 0
end
open Go.RowKit (Below)
theorem fP {p q:Bool} (h:p=true):q=(p&&q):=by subst h;rfl
theorem fI {p:Bool} {q:Bool} (h:p=false):false=(p&&q):=by subst h;rfl
theorem jG {p:Bool} {q:Bool} (h:p=true):true=(p||q):=by subst h;rfl
theorem jH {p q:Bool} (h:p=false):q=(p||q):=by subst h;rfl
theorem ar (p:Bool):p=true∨p=false:=by cases p <;> simp
theorem in3 {i:Int} (h:0≤i∧i<3):i=0∨i=1∨i=2:=by omega
theorem bC {α:Type} {xs:List α} {n:Nat} {i:Int} (h:i<(n:Int)) (hn:n=xs.length):i<(xs.length:Int):=by subst hn;exact h
theorem hn_set {α:Type} {xs:List α} {n j:Nat} {v:α} (h:n=xs.length):n=(xs.set j v).length:=by rw[List.length_set];exact h
theorem gB {α:Type} {xs ys:List α} {n k:Nat} (h:n=xs.length) (h':k=ys.length):n+k=(xs++ys).length:=by rw[List.length_append,h,h']
theorem dO {cs vs:List Value} {j:Nat} (h:(cs.drop j).take vs.length=vs):∀q v,vs[q]? = some v→cs[j+q]? = some v:=fun q v hq=>by
 rw[←h,List.getElem?_take]at hq
 split at hq
 ·rw[List.getElem?_drop]at hq;exact hq
 ·cases hq
theorem made_enc {α:Type} (cells:α→List Value) (n:Nat) (a:α) {z v:Value} (hz:z.cells = #[v]) (h:cells a=[v]):(madeCells z.cells (n*1)).toList=aL cells (List.replicate n a):=by
 have e1:aL cells (List.replicate n a)=List.replicate n v:=by
  unfold aL
  induction n with
  | zero=>rfl
  | succ n ih=>rw[List.replicate_succ,List.flatMap_cons,ih,h,List.replicate_succ];rfl
 rw[Nat.mul_one,e1,hz]
 unfold madeCells
 apply List.ext_getElem
 ·simp
 ·intro i h1 h2
  simp[Nat.mod_one]
theorem fm {α:Type} {cells:α→List Value} (h:∀x,((cells x).all (·.oneCell'))=true) (xs:List α):((aL cells xs).all (·.oneCell'))=true:=by
 unfold aL
 induction xs with
 | nil=>rfl
 | cons x xs ih=>rw[List.flatMap_cons,List.all_append,h,ih];rfl
theorem kr {α:Type} {cells:α→List Value} (xs ys:List α):aL cells xs++aL cells ys=aL cells (xs++ys):=by simp[aL]
theorem fw (x:Int):(cI x).length=1:=rfl
theorem ff {k q b:Nat} (h:k+q≤1000000000) (hb:b≤100000):(k+q)*b≤140737488355328 :=
 Nat.le_trans (Nat.mul_le_mul h hb) (by decide)
theorem Rd.nil {W:World} {cs:List Value} (h:cs=[]):Rd W none 0 0 cs:=⟨fun j v hj=>by subst h;simp at hj,Nat.le_refl _⟩
theorem cut_len {α:Type} {xs:List α} {n:Nat} {lo hi:Int} (h0:0≤lo) (h1:lo≤hi) (h2:hi≤(n:Int)) (hn:n=xs.length):hi.toNat-lo.toNat=((xs.drop lo.toNat).take (hi.toNat-lo.toNat)).length:=by
 rw[List.length_take,List.length_drop,←hn]
 omega
theorem e6 {α:Type} {cells:α→List Value} {sz:Nat} (hc:∀x,(cells x).length=sz):∀(xs:List α) (k:Nat),(aL cells xs).drop (k*sz)=aL cells (xs.drop k)
 | xs,0=>by simp
 | [],k+1=>by simp[aL]
 | x::xs,k+1=>by
  have ih:=e6 hc xs k
  unfold aL at ih ⊢
  rw[List.flatMap_cons,Nat.add_mul,Nat.one_mul,Nat.add_comm,←List.drop_drop,←hc x,List.drop_left,hc x]
  exact ih
theorem gy {α:Type} {cells:α→List Value} {sz:Nat} (hc:∀x,(cells x).length=sz):∀(xs:List α) (k:Nat),(aL cells xs).take (k*sz)=aL cells (xs.take k)
 | xs,0=>by simp[aL]
 | [],k+1=>by simp[aL]
 | x::xs,k+1=>by
  have ih:=gy hc xs k
  unfold aL at ih ⊢
  rw[List.flatMap_cons,List.take_succ_cons,List.flatMap_cons,Nat.add_mul,Nat.one_mul,Nat.add_comm,←hc x,List.take_length_add_append,hc x,ih]
section
variable {w0 : World} {L : List Res}
theorem RdL.cellsAs (i len:Nat) {b:Nat} {e:TypeId} {cs:List Value} (h:L[i]? = some (ac b e cs)):RdL w0 L (some ⟨b,0,none⟩) len len cs:=fun W hW =>
 ⟨fun j v hj=>⟨b,0,E,by rw[Nat.zero_add,dx hW h];exact hj⟩,Nat.le_refl _⟩
theorem RdL.cut {α:Type} {cells:α→List Value} {sz:Nat} (hc:∀x,(cells x).length=sz) {A:Option Addr} {n c:Nat} {xs:List α} {lo hi:Int} (h:RdL w0 L A n c (aL cells xs)) (_h0:0≤lo) (h1:lo≤hi) (h2:hi≤(n:Int)) (_hn:n=xs.length) :
  RdL w0 L (if c=lo.toNat then A else A.map (fun x=>x.add (lo.toNat*sz))) (hi.toNat-lo.toNat) (c-lo.toNat) (aL cells ((xs.drop lo.toNat).take (hi.toNat-lo.toNat))):=fun W hW=>by
 have:=(h W hW).cut (sz:=sz) (l:=lo.toNat) (h:=hi.toNat) (by omega) (by omega)
 rw[e6 hc,gy hc]at this
 exact this
end
section
variable {r : Option Nat} {n : Nat} {P : Program} {ρ : Operand → Value} {w0 : World} {L L' : List Res}
variable {t : Option Tmp} {ty : TypeId} {pos : String} {af : Array Edge} {g : Option (Nat × Bool)} {C C' : World → Prop}
theorem iF {x ix:Operand} {u:TypeId} {a b c:Int} {q k:IntKind} {i:Int} {e:TypeId} (hu:P.underlying u=some (.array 3 e)) (hs:scB P e=true) (h0:0≤i) (h1:i<3) (hx:ρ x=.agg #[.int q a,.int q b,.int q c]) (hi:ρ ix=.int k i) :
  OpY r n P ⟨t,.index u x ix,ty,pos,af,g⟩ ρ C C (.int q (aH a b c i)):=by
 have:=y_index3 (r:=r) (n:=n) (t:=t) (ty:=ty) (pos:=pos) (af:=af) (g:=g) (C:=C) hu hs h0 h1 hx hi
 have e:aH (Value.int q a) (.int q b) (.int q c) i=.int q (aH a b c i):=by unfold aH;split;rfl;split <;> rfl
 rw[e]at this
 exact this
theorem y_indexN (cells vs:List Value) {x ix:Operand} {u:TypeId} {len:Nat} {k:IntKind} {i:Int} {e:TypeId} (hu:P.underlying u=some (.array len e)) (hs:jS P e vs.length=true) (h0:0≤i) (h1:i<len) (hx:ρ x=.agg cells.toArray) (hi:ρ ix=.int k i)
  (hv:(cells.drop (i.toNat*vs.length)).take vs.length=vs):OpY r n P ⟨t,.index u x ix,ty,pos,af,g⟩ ρ C C (.agg vs.toArray) :=
 aI (by intro c h;cases h) (fun W _=>by
  simp[execOp,hx,hi,Instr.index,asIntOf,underlying,hu,eO hs,part,fq hs,h0,h1,hv])
theorem fb (i:Nat) (cs':List Value) {x y:Operand} {u:TypeId} {b o:Nat} {e:TypeId} {cs:List Value} {v:Value} (hs:szB P u 1=true) (hL:L[i]? = some (ac b e cs)) (hl:o<cs.length) (hcs:cs.set o v=cs') (hx:ρ x=.pointer (some ⟨b,o,none⟩)) (hy:ρ y=v) (h1:v.oneCell'=true) :
  OpY r n P ⟨t,.store u x y,ty,pos,af,g⟩ ρ (fun W=>Ext w0 W L) (fun W=>Ext w0 W (L.set i (ac b e cs'))) undef:=by
 subst hcs
 exact dE i hs hL hl hx hy h1
def strB (P:Program) (t:TypeId) (sz:List (Nat × Nat)):Bool:=match P.underlying t with
 | some (.struct fs)=>decide (fs.toList.map (fun f=>((P.info? f.type).map (fun i=>(f.offset,i.size))))=sz.map some)
 | _=>false
theorem aw (cells:List Value) {u:TypeId} {parts:List (Nat × Operand)} {z:Value} (sz:List (Nat × Nat)) (hu:strB P u sz=true) (hz:bg P u=some z)
  (hfill:Instr.fill (fun x=>sz.toArray[x]?) z.cells (parts.map fun p=>(p.1,ρ p.2))=some cells.toArray) :
  OpY r n P ⟨t,.build u parts.toArray,ty,pos,af,g⟩ ρ C C (.agg cells.toArray):=by
 unfold strB at hu
 split at hu
 ·rename_i fs h1
  exact y_build cells h1 hz sz (of_decide_eq_true hu) hfill
 ·cases hu
theorem dS (cells:List Value) {u:TypeId} {parts:List (Nat × Operand)} {z:Value} {len e size:Nat} (hu:P.underlying u=some (.array len e)) (hz:bg P u=some z) (hs:szB P e size=true)
  (hfill:Instr.fill (fun i=>some (i*size,size)) z.cells (parts.map fun p=>(p.1,ρ p.2))=some cells.toArray) :
  OpY r n P ⟨t,.build u parts.toArray,ty,pos,af,g⟩ ρ C C (.agg cells.toArray) :=
 aI (by intro c h;cases h) (fun W _=>by
  obtain⟨inf,hinf,hzz⟩:∃inf,P.info? u=some inf∧inf.zero=some z:=by
   unfold bg at hz
   cases hi:P.info? u with
   | none=>rw[hi]at hz;cases hz
   | some inf=>rw[hi]at hz;exact⟨inf,E,hz⟩
  have hz1:(zeroValue u).run P W=.ok z W:=by simp[zeroValue,typeInfo,hinf,hzz]
  have hu1:(underlying u).run P W=.ok (.array len e) W:=by simp[underlying,hu]
  have e1:(parts.toArray.map fun(i,x)=>(i,ρ x)).toList=parts.map fun p=>(p.1,ρ p.2):=by simp
  have hb:(Instr.build u (parts.toArray.map fun(i,x)=>(i,ρ x))).run P W=.ok (.agg cells.toArray) W:=by
   simp only[Instr.build,Sem.run_bind,hz1,hu1,Result.andThen_ok,cD hs,e1,hfill]
   rfl
  simp only[execOp,Sem.run_bind,hb]
  rfl)
end
section
variable {r : Option Nat} {n : Nat} {P : Program} {ops : Array Oper} {Q : Exit → Act → World → Prop} {w0 : World} {L : List Res} {m : Nat} {tm : Nat → Value} {d : List Deferred}
variable {t : Tmp} {ty : TypeId} {pos : String} {af : Array Edge} {g : Option (Nat × Bool)} {l rest : List Oper}
theorem kB (i:Nat) {α:Type} {cells:α→List Value} {xs ys:List α} {x y:Operand} {u e:TypeId} {A B:Option Addr} {c c' k q:Nat} {sz by':Nat} {z:Value} (hu:P.underlying u=some (.slice e)) (hz:bg P e=some z) (hb:eC P e z sz by'=true)
  (hL:L[i]? = some (bR A c e sz k (aL cells xs))) (hx:opv m tm x=.slice A k c) (hy:opv m tm y=.slice B q c') (hq:0<q) (hR:RdL w0 L B q c' (aL cells ys)) (hn:(aL cells ys).length=q*sz) (h1:((aL cells ys).all (·.oneCell'))=true) (hg:(k+q)*by'≤140737488355328)
  (hw:cZ ops m tm ⟨some t,.call ⟨.builtin .append,#[x,y],#[u,u]⟩,ty,pos,af,g⟩=true)
  (h:∀A' c',OX r n P ops Q w0 (L.set i (bR A' c' e sz (k+q) (aL cells (xs++ys)))) rest m (upd tm t (.slice A' (k+q) c')) d) :
  OX r n P ops Q w0 L (⟨some t,.call ⟨.builtin .append,#[x,y],#[u,u]⟩,ty,pos,af,g⟩::rest) m tm d :=
 lb i hu hz hb hL hx hy hq hR hn h1 hg hw (fun A' c'=>by rw[kr];exact h A' c')
theorem ey {α:Type} {f:FuncId} {xs:List Operand} {us:Array TypeId} (vs:List Value) (val:α→Value) (res:α→List Res) (hw:cZ ops m tm ⟨some t,.call ⟨.value (.func f),xs.toArray,us⟩,ty,pos,af,g⟩=true) (hf:cx P f=true) (ha:xs.map (opv m tm)=vs)
  (hc:∀W,Ext w0 W L→Calls P f vs.toArray W fun e W'=>∃x:α,e=.returned (val x)∧Ext W W' (res x))
  (h:∀x,OX r n P ops Q w0 (L++res x) rest m (upd tm t (val x)) d):OX r n P ops Q w0 L (⟨some t,.call ⟨.value (.func f),xs.toArray,us⟩,ty,pos,af,g⟩::rest) m tm d :=
 oC vs (fun _=>True) val res hw hf ha (fun W hW=>(hc W hW).mono (fun e W' h=>by obtain⟨x,h1,h2⟩:=h;exact⟨x,trivial,h1,h2⟩)) (fun x _=>h x)
end
section
variable {F : Fence} {n : Nat} {P : Program} {Q : Exit → Act → World → Prop} {a : Act} {w : World}
section
variable {b : Frame} {k : List Item} {cs : List Frame}
theorem dA {c:Code}:step P (lone (b.atR a (.code (.scope c)::k)) cs w)=.next (lone (b.atR a (.code c :: .inScope c::k)) cs w) :=
 step_lone_go (by simp[stepG,stepG.exec,Frame.atR])
theorem jl {c:Code}:step P (lone (b.atR a (.inScope c::k)) cs w)=.next (lone (b.atR a k) cs w) :=
 step_lone_go (by simp[stepG,stepG.exec,Frame.atR])
end
theorem kw {c:Code} (h:c.wpIn F n P (Exit.noGoto Q) a w):(Code.scope c).wpIn F n P Q a w:=by
 intro b k cs hro hb hr
 have h0:(lone (b.atR a (.code (.scope c)::k)) cs w).fenced P F:=fenced_calm hb hr E
 obtain⟨e,a₁,w₁,hq,harr⟩:=h b (.inScope c::k) cs hro hb hr
 cases e with
 | normal=>exact⟨.normal,a₁,w₁,hq,.head h0 dA (StepsIn.trans harr (.one (fenced_calm hb hr E) jl))⟩
 | exit id =>
  have hx:exitTo id (.inScope c::k)=exitTo id k:=by simp[exitTo]
  exact⟨.exit id,a₁,w₁,hq,fun k' hk=>.head h0 dA (harr.1 k' (by rw[hx];exact hk)),
    fun hr' hk=>let ⟨k₁,h1,h2⟩:=harr.2 hr' (by rw[hx];exact hk);⟨k₁,h1,.head h0 dA h2⟩⟩
 | goto l=>exact hq.elim
 | ret=>exact⟨_,a₁,w₁,hq,.of_steps (.one h0 dA) harr⟩
 | panic ch=>exact⟨_,a₁,w₁,hq,.of_steps (.one h0 dA) harr⟩
 | outgrown=>exact⟨_,a₁,w₁,hq,.of_steps (.one h0 dA) harr⟩
end
section
variable {r : Option Nat} {n : Nat} {P : Program} {Q : Exit → Act → World → Prop} {w0 : World} {L : List Res} {m : Nat} {tm : Nat → Value} {d : List Deferred}
theorem kq {x:Code} (h:CX r n P x (Exit.noGoto Q) w0 L m tm d):CX r n P (.scope x) Q w0 L m tm d:=fun W hW=>kw (h W hW)
theorem ku {l:Nat} (h:EX Q .normal w0 L m tm d):CX r n P (.label l) Q w0 L m tm d:=fun W hW=>wpIn_label (h W hW)
theorem ep (h:EX Q .ret w0 L m tm d):EX (Exit.noGoto Q) .ret w0 L m tm d:=h
end
section
variable {r : Option Nat} {n : Nat} {P : Program} {ops : Array Oper} {Q : Exit → Act → World → Prop} {w0 : World} {L : List Res} {m : Nat} {tm : Nat → Value} {d : List Deferred}
variable {t : Tmp} {ty : TypeId} {pos : String} {af : Array Edge} {g : Option (Nat × Bool)} {l rest : List Oper}
theorem aY (len:Nat) (cs:List Value) (mc:Array Value) {u e:TypeId} {parts:List (Nat × Operand)} {z:Value} {sz by':Nat} (hmc:madeCells z.cells (len*sz)=mc) (hu:P.underlying u=some (.slice e)) (hz:bg P e=some z) (hb:eC P e z sz by'=true) (hlen:0<len) (hsm:len*sz≤16777216)
  (hfill:Instr.fill (fun i=>some (i*sz,sz)) mc (parts.map fun p=>(p.1,opv m tm p.2))=some cs.toArray) (hcs:cs.length=len*sz)
  (hw:cZ ops m tm ⟨some t,.buildSlice u len parts.toArray,ty,pos,af,g⟩=true)
  (h:∀b,OX r n P ops Q w0 (L++[bR (some ⟨b,0,none⟩) len e sz len cs]) rest m (upd tm t (.slice (some ⟨b,0,none⟩) len len)) d) :
  OX r n P ops Q w0 L (⟨some t,.buildSlice u len parts.toArray,ty,pos,af,g⟩::rest) m tm d :=
 jq len cs hu hz hb hlen hsm (by rw[hmc];exact hfill) hcs hw h
end
open Go.RowKit (Below)
def KpB (bs:List Nat) (A B:World):Prop:=∀b∈bs,B.heap[b]? = A.heap[b]?
def SeqX (P:Program) (g:Nat) (caps:List Value) {α:Type} (enc:α→List Value) (bs:List Nat) (xs:List α) (w:World):Prop :=
 ∀(l:Nat) (J:Nat→World→Prop) (Jx:World→Prop) (W:World),Below w.heap.size w W→AbidesFrom W.heap.size J→AbidesFrom W.heap.size (fun(_:Unit)=>Jx) →
  (∀i x W1,xs[i]? = some x→J i W1→YieldAt (Fw none) 6 P l (enc x).toArray W1 fun e W'=>(e=.returned (.bool true)∧J (i+1) W'∧KpB bs W1 W')∨(e=.returned (.bool false)∧Jx W')) →
  J 0 W→CallsIn (Fw none) 7 P g (#[.func (.yield l) #[] #[]]++caps.toArray) W fun e W'=>(∃v,e=.returned v)∧(J xs.length W'∨Jx W')
theorem SeqX.later {P:Program} {g:Nat} {caps:List Value} {α:Type} {enc:α→List Value} {bs:List Nat} {xs:List α} {w w':World} (h:SeqX P g caps enc bs xs w) (hb:Below w.heap.size w w'):SeqX P g caps enc bs xs w' :=
 fun l J Jx W hW=>h l J Jx W (hb.trans (hW.mono hb.size))
section
variable {r : Option Nat} {n : Nat} {P : Program} {Q : Exit → Act → World → Prop} {w0 : World} {L : List Res} {m : Nat} {tm : Nat → Value} {d : List Deferred}
def dfR (D:Nat):Res:=blk D (.deferred (some []))
def lpR (l:Nat) (rec:Loop):Res:=blk l (.loop rec)
def rgQ {S T:Type} (w0:World) (D l:Nat) (rec:Loop) (I:S→List Res→Prop) (J:T→Exit→List Res→Prop) (st:S ⊕ T):Exit→Act→World→Prop:=fun e _ W =>
 match st with
 | .inl s'=>e=.normal∧∃L',I s' L'∧Ext w0 W (L'++[dfR D,lpR l { rec with state:=.busy }])
 | .inr t=>∃L',J t e L'∧Ext w0 W (L'++[dfR D,lpR l { rec with state:=.busy }])
theorem je {S T:Type} {I:S→List Res→Prop} {J:T→Exit→List Res→Prop} {D l:Nat} {rec:Loop} {s':S} (L':List Res) (h:I s' L'):EX (rgQ w0 D l rec I J (.inl s')) .normal w0 (L'++[dfR D,lpR l { rec with state:=.busy }]) m tm d :=
 fun _ hW=>⟨E,L',h,hW⟩
theorem ex_rstop {S T:Type} {I:S→List Res→Prop} {J:T→Exit→List Res→Prop} {D l:Nat} {rec:Loop} {t:T} {e:Exit} (L':List Res) (h:J t e L'):EX (rgQ w0 D l rec I J (.inr t)) e w0 (L'++[dfR D,lpR l { rec with state:=.busy }]) m tm d :=
 fun _ hW=>⟨L',h,hW⟩
def asgQ (n:Nat) (P:Program) (l:Nat) (body:Code) (Q:Exit→Act→World→Prop):Exit→Act→World→Prop :=
 Exit.then (fun a₁ w₁=>∃w₂,(Instr.beginRound l).run P w₁=.ok () w₂∧body.wpIn (Fw (some l)) n P Q a₁ w₂) (fun _ _ _=>False)
theorem ij {body:Code} {l:Nat} {rec:Loop} (i:Nat) (hL:L[i]? = some (lpR l rec)) (hr:rec.state=.ready) (h:CX (some l) n P body Q w0 (L.set i (lpR l { rec with state:=.busy })) m tm d):EX (asgQ n P l body Q) .normal w0 L m tm d:=fun W hW=>by
 have hl:W.heap[l]? = some (.loop rec):=hW.mem hL
 have hlt:l<W.heap.size:=bv hl
 refine⟨_,run_beginRound hl hr,h _ ?_⟩
 refine hW.set hL (lpR l { rec with state:=.busy }) (World.putObj_heap_same hlt) E E E (by simp[World.putObj]) (fun b hb hn=>World.putObj_heap_other (fun e=>hn e)) (fun b hb=>.inl hb)
def Cy (B:Nat) (p:Res):Prop:=∀W b,p.holds W→p.dom b→b<B∨∃o:Obj,W.heap[b]? = some o∧o.isWalk=false
theorem Cy.blk {B b:Nat} {o:Obj} (h:o.isWalk=false):Cy B (blk b o):=fun W c hh hc=>by
 have hc':c=b:=hc
 subst hc'
 exact .inr ⟨o,hh,h⟩
theorem Cy.cells {B b:Nat} {e:TypeId} {cs:List Value}:Cy B (ac b e cs):=Cy.blk E
theorem Cy.row {B:Nat} {A:Option Addr} {c:Nat} {e:TypeId} {sz n:Nat} {cs:List Value}:Cy B (bR A c e sz n cs):=fun W b hh hb=>by
 obtain⟨a,rfl,rfl⟩:=hb
 have hh':W.ownsRow 0 e sz (.slice (some a) n c) n cs:=hh
 rcases hh'.2 with⟨h2,_⟩|⟨g',cap,cur,hv,_,hg,_⟩
 ·cases h2
 ·simp only[Value.slice.injEq,Option.some.injEq]at hv
  obtain⟨rfl,_,_⟩:=hv
  exact .inr ⟨_,hg,E⟩
def CyL (B:Nat) (L:List Res):Prop:=∀p∈L,Cy B p
theorem CyL.nil {B:Nat}:CyL B []:=fun p hp=>by cases hp
theorem CyL.cons {B:Nat} {p:Res} {L:List Res} (h:Cy B p) (h':CyL B L):CyL B (p::L):=fun q hq=>by
 rcases List.mem_cons.1 hq with rfl|hq
 ·exact h
 ·exact h' q hq
theorem Ext.abides {W W':World} {B:Nat} {row:Option Nat} (h:Ext w0 W L) (hc:CyL B L) (hg:W.grownBy W' row) (hr:∀x,row=some x→w0.heap.size≤x∧B≤x∧∃o:Obj,W.heap[x]? = some o∧o.isWalk=true):Ext w0 W' L:=by
 refine h.keep (h.below.trans ⟨hg.os,hg.tape,hg.output,hg.size,fun k hk=>hg.block k (Nat.lt_of_lt_of_le hk h.size) (fun e=>?_)⟩) hg.size (fun i p hp b hd=>hg.block b (p.inb W (h.all i p hp) b hd) (fun e=>?_))
 ·have:=(hr k e.symm).1
  omega
 ·obtain⟨_,h2,o,ho,hw⟩:=hr b e.symm
  rcases hc p (List.mem_of_getElem? hp) W b (h.all i p hp) hd with h3|⟨o',ho',hw'⟩
  ·omega
  ·rw[ho]at ho';cases ho';rw[hw]at hw';cases hw'
theorem getElem?_app1 {L:List Res} {p q:Res}:(L++[p,q])[L.length+1]? = some q:=by simp
theorem set_app1 {L:List Res} {p q q':Res}:(L++[p,q]).set (L.length+1) q'=L++[p,q']:=by
 rw[List.set_append_right _ _ (by omega)]
 simp
theorem Ext.putLoop {W:World} {p:Res} {l:Nat} {rec rec':Loop} (h:Ext w0 W (L++[p,lpR l rec])):Ext w0 (W.putObj l (.loop rec')) (L++[p,lpR l rec']):=by
 have hl:W.heap[l]? = some (.loop rec):=h.mem getElem?_app1
 have hlt:l<W.heap.size:=bv hl
 have:=h.set getElem?_app1 (lpR l rec') (W':=W.putObj l (.loop rec')) (World.putObj_heap_same hlt) E E E (by simp[World.putObj]) (fun b hb hn=>World.putObj_heap_other (fun e=>hn e)) (fun b hb=>.inl hb)
 rw[set_app1]at this
 exact this
theorem ig {α S T:Type} {enc:α→Value} {bodyf:S→α→Option (S ⊕ T)} {g:Operand} {p:Tmp} {assign body:Code} {gf:Nat} {caps:List Value} {bs:List Nat} {xs:List α} {s0:S} {st:S ⊕ T}
  (I:S→List Res→Prop) (J:T→Exit→List Res→Prop) (hl:eH bodyf xs s0=some st) (hg:opv m tm g=.func (.func gf) #[] caps.toArray) (hgo:cx P gf=true)
  (hseq:∀W,Ext w0 W L→SeqX P gf caps (fun x=>[enc x]) bs xs W) (hbs:∀b∈bs,b<w0.heap.size∨∃o:Obj,∀s (L':List Res),I s L'→∃i:Nat,L'[i]? = some (blk b o)) (h0:I s0 L)
  (hcyI:∀W,Ext w0 W L→∀s L',I s L'→CyL W.heap.size L') (hcyJ:∀W,Ext w0 W L→∀t e L',J t e L'→CyL W.heap.size L')
  (hJe:∀t e L',J t e L'→e=.ret∨∃id,e=.exit id)
  (round:∀D l rec s x L' st',rec.state=.ready→I s L'→bodyf s x=some st'→CX (some l) 6 P assign (asgQ 6 P l body (rgQ w0 D l rec I J st')) w0 (L'++[dfR D,lpR l rec]) m (upd tm p (enc x)) [])
  (done:∀D s L',st=.inl s→I s L'→EX Q .normal w0 (L'++[dfR D]) m tm (⟨.collected D,#[]⟩::d))
  (stop:∀D t e L',st=.inr t→J t e L'→EX Q e w0 (L'++[dfR D]) m tm (⟨.collected D,#[]⟩::d)):CX none 8 P (.rangeFunc g #[p] assign body) Q w0 L m tm d:=fun W hW=>by
 refine wpIn_rangeFunc ?_
 intro fn hfn
 obtain⟨rec0,hrec0⟩:∃rec0:Loop,rec0={ state:=.ready,pending:=none,fn,tmps:=(act m tm d).tmps,params:=#[p],assign,body,defers:=W.heap.size }:=⟨_,E⟩
 have hW1:Ext w0 ((W.alloc (.deferred (some []))).alloc (.loop rec0)) (L++[dfR W.heap.size,lpR (W.heap.size+1) rec0]):=by
  have h1:=(hW.alloc (.deferred (some []))).alloc (.loop rec0)
  rw[World.size_alloc,List.append_assoc]at h1
  exact h1
 have hab:∀(row:Option Nat) (A:World),(∀x,row=some x→((W.alloc (.deferred (some []))).alloc (.loop rec0)).heap.size≤x∧∃o:Obj,A.heap[x]? = some o∧o.isWalk=true)→∀x,row=some x→w0.heap.size≤x∧W.heap.size≤x∧∃o:Obj,A.heap[x]? = some o∧o.isWalk=true:=fun row A hr x hx=>by
  obtain⟨h1,h2⟩:=hr x hx
  have:=hW.size
  simp at h1
  exact⟨by omega,by omega,h2⟩
 refine⟨W.heap.size+1,[{ target:=.collected W.heap.size,args:=#[] }],((W.alloc (.deferred (some []))).alloc (.loop rec0)),{ target:=.fn (.func gf) caps.toArray,args:=#[.func (.yield (W.heap.size+1)) #[] #[]] },((W.alloc (.deferred (some []))).alloc (.loop rec0)),gf,
  #[.func (.yield (W.heap.size+1)) #[] #[]]++caps.toArray,((W.alloc (.deferred (some []))).alloc (.loop rec0)),(by rw[hrec0];exact run_enterLoop_outer _ _ _ _ _),?_,fun _ _=>trivial,?_,fun hd=>(by cases hd),?_⟩
 ·have hg':(act m tm d).eval g=.func (.func gf) #[] caps.toArray:=by rw[bW];exact hg
  simp only[resolve,hg']
  simp[go_sem]
 ·have:=f5 hgo (#[.func (.yield (W.heap.size+1)) #[] #[]]++caps.toArray) ((W.alloc (.deferred (some []))).alloc (.loop rec0))
  simp only[invoke]
  exact this
 ·generalize hl0:W.heap.size+1=l
  rw[hl0]at hW1
  generalize hD:W.heap.size=D at *
  have hseq1:=hseq W hW l
   (fun i W'=>∃s L',eH bodyf (xs.take i) s0=some (.inl s)∧I s L'∧Ext w0 W' (L'++[dfR D,lpR l rec0]))
   (fun W'=>∃t e c L',st=.inr t∧J t e L'∧((e=.ret∧c=Code.ret)∨∃id,e=.exit id∧c=Code.exit id)∧Ext w0 W' (L'++[dfR D,lpR l { rec0 with state:=.done,pending:=some c }]))
   ((W.alloc (.deferred (some []))).alloc (.loop rec0)) (((Below.refl _ W).alloc (Nat.le_refl _) _).alloc (by simp) _)
   (fun i A B row hs hg' hr=>by
    obtain⟨s,L',h1,h2,h3⟩:=hs
    refine⟨s,L',h1,h2,h3.abides (B:=D) (fun q hq=>?_) hg' (hab row A hr)⟩
    rcases List.mem_append.1 hq with hq|hq
    ·have:=hcyI W hW s L' h2 q hq;rw[hD]at this;exact this
    ·rcases List.mem_cons.1 hq with rfl|hq
     ·exact Cy.blk E
     ·rw[List.mem_singleton.1 hq];exact Cy.blk E)
   (fun i A B row hs hg' hr=>by
    obtain⟨t,e,c,L',h1,h2,h5,h3⟩:=hs
    refine⟨t,e,c,L',h1,h2,h5,h3.abides (B:=D) (fun q hq=>?_) hg' (hab row A hr)⟩
    rcases List.mem_append.1 hq with hq|hq
    ·have:=hcyJ W hW t e L' h2 q hq;rw[hD]at this;exact this
    ·rcases List.mem_cons.1 hq with rfl|hq
     ·exact Cy.blk E
     ·rw[List.mem_singleton.1 hq];exact Cy.blk E)
   ?_ ⟨s0,L,E,h0,hW1⟩
  ·refine hseq1.mono ?_
   rintro e W2 ⟨⟨v,rfl⟩,h2⟩
   rcases h2 with⟨s,L',h3,h4,h5⟩|⟨t,e,c,L',h3,h4,h6,h5⟩
   ·rw[List.take_length,hl]at h3
    have hl2:W2.heap[l]? = some (.loop rec0):=h5.mem getElem?_app1
    refine⟨rec0.pending,_,run_endLoop hl2 (by rw[hrec0];simp),?_⟩
    have hpd:rec0.pending=none:=by rw[hrec0]
    rw[hpd]
    show Q .normal _ _
    have h7:=(h5.putLoop (rec':={ rec0 with state:=.exhausted,pending:=none })).take (L'.length+1)
    have e7:(L'++[dfR D,lpR l { rec0 with state:=.exhausted,pending:=none }]).take (L'.length+1)=L'++[dfR D]:=by
     rw[List.take_append];simp[List.take_of_length_le]
    rw[e7]at h7
    exact done D s L' (Option.some.inj h3) h4 _ h7
   ·have hl2:W2.heap[l]? = some (.loop { rec0 with state:=.done,pending:=some c }):=h5.mem getElem?_app1
    refine⟨some c,_,run_endLoop hl2 (by simp),?_⟩
    have h7:=(h5.putLoop (rec':={ rec0 with state:=.exhausted,pending:=some c })).take (L'.length+1)
    have e7:(L'++[dfR D,lpR l { rec0 with state:=.exhausted,pending:=some c }]).take (L'.length+1)=L'++[dfR D]:=by
     rw[List.take_append];simp[List.take_of_length_le]
    rw[e7]at h7
    have h8:=stop D t e L' h3 h4 _ h7
    rcases h6 with⟨rfl,rfl⟩|⟨id,rfl,rfl⟩
    ·exact wpIn_ret h8
    ·exact wpIn_exit h8
  ·rintro i x W1 hx ⟨s,L',h1,h2,h3⟩
   obtain⟨st',hf,hft,hst⟩:=kL hl h1 hx
   have hl1:W1.heap[l]? = some (.loop rec0):=h3.mem getElem?_app1
   have hy:=run_yield (P:=P) (args:=#[enc x]) hl1 (by rw[hrec0];rfl)
   have et:((#[p]:Array Tmp).zip #[enc x]).foldl (fun tmps (t,a)=>tmps.setIfInBounds t a) (act m tm d).tmps=(act m (upd tm p (enc x)) []).tmps:=by
    have h9:(act m tm []).put (some p) (enc x)=act m (upd tm p (enc x)) []:=cj m tm [] (some p) (enc x)
    rw[←h9]
    simp[Act.put]
    rfl
   refine⟨fn,_,assign,body,(by rw[hy,hrec0]),roundIn_of_wpIn (F:=Fw none) (n:=6) trivial ?_⟩
   have hr:=round D l rec0 s x L' st' (by rw[hrec0]) h2 hf W1 h3
   have ea:(act m (upd tm p (enc x)) [])={ tmps:=((#[p]:Array Tmp).zip #[enc x]).foldl (fun tmps (t,a)=>tmps.setIfInBounds t a) (act m tm d).tmps,defers:=[] }:=by
    rw[et];rfl
   rw[ea]at hr
   refine wpIn_mono (F:=(Fw none).inRound l) hr ?_
   intro e a2 W2 h4
   cases e with
   | normal =>
    obtain⟨w₂,hb,hbody⟩:=h4
    refine⟨w₂,hb,wpIn_mono hbody ?_⟩
    intro e a3 W3 h5
    have kp:∀s'' L'',I s'' L''→Ext w0 W3 (L''++[dfR D,lpR l { rec0 with state:=.busy }])→KpB bs W1 (W3.putObj l (.loop rec0)):=fun s'' L'' hI hE b hb=>by
     have hbl:b≠l→(W3.putObj l (.loop rec0)).heap[b]? = W3.heap[b]?:=fun h=>World.putObj_heap_other h
     have hll:w0.heap.size≤l:=by have:=hW.size;omega
     rcases hbs b hb with h6|⟨o,h6⟩
     ·rw[hbl (by omega),hE.below.block b h6,h3.below.block b h6]
     ·obtain⟨i1,h7⟩:=h6 s L' h2
      obtain⟨i2,h8⟩:=h6 s'' L'' hI
      have hi1:i1<L'.length:=(List.getElem?_eq_some_iff.1 h7).1
      have hi2:i2<L''.length:=(List.getElem?_eq_some_iff.1 h8).1
      have h9:W1.heap[b]? = some o:=h3.mem (i:=i1) (by rw[List.getElem?_append_left hi1];exact h7)
      have h10:W3.heap[b]? = some o:=hE.mem (i:=i2) (by rw[List.getElem?_append_left hi2];exact h8)
      have hne:b≠l:=fun hbl=>by
       have:=hE.sep i2 (L''.length+1) _ _ (by rw[List.getElem?_append_left hi2];exact h8) getElem?_app1 (by omega) b E
       exact this hbl
      rw[hbl hne,h10,h9]
    cases st' with
    | inl s' =>
     obtain⟨rfl,L'',h6,h7⟩:=h5
     have hl3:W3.heap[l]? = some (.loop { rec0 with state:=.busy }):=h7.mem getElem?_app1
     refine⟨_,_,run_endRound none hl3,.inl ⟨E,?_,?_⟩⟩
     ·refine⟨s',L'',hft,h6,?_⟩
      have:=h7.putLoop (rec':=rec0)
      rw[hrec0]at this ⊢
      exact this
     ·have:=kp s' L'' h6 h7
      rw[hrec0]at this ⊢
      exact this
    | inr t =>
     obtain⟨L'',h6,h7⟩:=h5
     have hl3:W3.heap[l]? = some (.loop { rec0 with state:=.busy }):=h7.mem getElem?_app1
     have hstt:=hst t E
     rcases hJe t e L'' h6 with rfl|⟨id,rfl⟩
     ·exact⟨_,_,run_endRound (some .ret) hl3,.inr ⟨E,t,.ret,.ret,L'',hstt,h6,.inl ⟨E,E⟩,h7.putLoop⟩⟩
     ·exact⟨_,_,run_endRound (some (.exit id)) hl3,.inr ⟨E,t,.exit id,.exit id,L'',hstt,h6,.inr ⟨id,E,E⟩,h7.putLoop⟩⟩
   | _=>exact h4.elim
end
open Go.RowKit (Below)
section
variable {P : Program} {w0 : World} {L : List Res} {m : Nat} {tm : Nat → Value}
theorem eA {f:FuncId} {fn:Func} {c:Code} {vs:List Value} {W:World} {R:Ending→World→Prop} (hf:P.funcs[f]? = some fn) (hb:fn.body=some c) (hn:fn.ntmps=m) (hl:vs.length≤m)
  (h:CX none 8 P c (bodyPostM (Fw none) 8 P fn R) W [] m (fun i=>(vs[i]?).getD undef) []):Calls P f vs.toArray W R:=by
 refine j5 (r:=none) (n:=8) (callsIn_of_wp_marks hf hb trivial ?_ E)
 rw[gU _ _ (by rw[hn];simpa using hl),hn]
 have:=h W (Ext.nil W)
 simpa using this
theorem ex_M0 {fn:Func} {R:Ending→World→Prop} {e:Exit} (he:e=.ret∨e=.normal) (h:EX (bodyPost P fn R) e w0 L m tm []):EX (bodyPostM (Fw none) 8 P fn R) e w0 L m tm []:=fun W hW=>by
 have h1:=h W hW
 rcases he with rfl|rfl <;> exact h1.2
theorem k5 {fn:Func} {R:Ending→World→Prop} {e:Exit} {D:Nat} (i:Nat) (hL:L[i]? = some (dfR D)) (he:e=.ret∨e=.normal) (h:EX (bodyPost P fn R) e w0 (L.set i (blk D (.deferred none))) m tm []) :
  EX (bodyPostM (Fw none) 8 P fn R) e w0 L m tm [⟨.collected D,#[]⟩]:=fun W hW=>by
 have hd:W.heap[D]? = some (.deferred (some [])):=hW.mem hL
 have h2:Ext w0 (W.putObj D (.deferred none)) (L.set i (blk D (.deferred none))) :=
  hW.set hL (blk D (.deferred none)) (World.putObj_heap_same (bv hd)) E E E (by simp[World.putObj]) (fun b hb hn=>World.putObj_heap_other (fun e=>hn e)) (fun b hb=>.inl hb)
 have h1:=h _ h2
 have key:LeavesInM (Fw none) 8 P fn (act m tm [⟨.collected D,#[]⟩]).tmps R [⟨.collected D,#[]⟩] .returning W :=
  ⟨(by intro h;cases h),.inl ⟨D,_,E,run_takeDeferred hd,by
   rcases he with rfl|rfl <;> exact h1.2⟩⟩
 rcases he with rfl|rfl <;> exact key
end
open Go.RowKit (Below)
section
variable {P : Program} {Q : Exit → Act → World → Prop} {w0 : World} {m : Nat} {tm : Nat → Value} {d : List Deferred} {r : Option Nat} {n : Nat}
def rndS {S:Type} (R:S→Act→World→Prop) (μ:S→Nat) (Q:Exit→Act→World→Prop) (s:S):Exit→Act→World→Prop:=fun e a W =>
 (e=.normal→∃s',R s' a W∧μ s'<μ s)∧(e ≠ .normal→Q e a W)
theorem wp_loopS {S:Type} {F:Fence} {c:Code} {a:Act} {W:World} (R:S→Act→World→Prop) (μ:S→Nat) {s0:S} (h0:R s0 a W)
  (round:∀s a W,R s a W→c.wpIn F n P (rndS R μ Q s) a W):(Code.loop c).wpIn F n P Q a W:=by
 let p:Act→World→Nat→Prop:=fun a W k=>∃s,R s a W∧μ s=k
 let M:Act→World→Nat:=fun a W=>open Classical in if h:∃k,p a W k∧∀i,i<k→¬p a W i then Classical.choose h else 0
 have hM:∀a W k,p a W k→p a W (M a W)∧∀j,p a W j→M a W≤j:=fun a W k hk=>by
  have hx:=least (p a W) k hk
  have he:M a W=Classical.choose hx:=by simp only[M];rw[dif_pos hx]
  have hs:=Classical.choose_spec hx
  rw[←he]at hs
  exact⟨hs.1,fun j hj=>by
   rcases Nat.lt_or_ge j (M a W)with h|h
   ·exact absurd hj (hs.2 j h)
   ·exact h⟩
 refine wpIn_loop (fun a W=>∃k,p a W k) M ⟨_,s0,h0,E⟩ ?_
 rintro a1 W1 ⟨k,hk⟩
 obtain⟨⟨s1,hR,hμ⟩,hmin⟩:=hM a1 W1 k hk
 refine wpIn_mono (round s1 a1 W1 hR) ?_
 intro e a2 W2 h2
 cases e with
 | normal =>
  obtain⟨s',hR',hlt⟩:=h2.1 E
  have hp:p a2 W2 (μ s'):=⟨s',hR',E⟩
  exact⟨⟨_,hp⟩,by have:=(hM _ _ _ hp).2 _ hp;omega⟩
 | _=>exact h2.2 (by intro h;cases h)
theorem kk {S:Type} {c:Code} (T:S→(Nat→Value)→Nat→Value) (G:S→World→Prop) (μ:S→Nat) (s0:S) (tm0:Nat→Value) (ht:tm=T s0 tm0) (h0:∀W,Ext w0 W []→G s0 W)
  (round:∀s tm0 W,G s W→CX r n P c (rndS (fun s a W=>∃tm0,a=act m (T s tm0) d∧G s W) μ Q s) W [] m (T s tm0) d):CX r n P (.loop c) Q w0 [] m tm d:=fun W hW =>
 wp_loopS (fun s a W=>∃tm0,a=act m (T s tm0) d∧G s W) μ (s0:=s0) ⟨tm0,by rw[ht],h0 W hW⟩ (fun s a W h=>by
  obtain⟨tm0,rfl,hG⟩:=h
  exact round s tm0 W hG W (Ext.nil W))
theorem jf {S:Type} {R:S→Act→World→Prop} {μ:S→Nat} {s:S} {L:List Res} {e:Exit} (he:e ≠ .normal) (h:EX Q e w0 L m tm d):EX (rndS R μ Q s) e w0 L m tm d:=fun W hW=>⟨fun h'=>absurd h' he,fun _=>h W hW⟩
theorem jg {S:Type} {T:S→(Nat→Value)→Nat→Value} {G:S→World→Prop} {μ:S→Nat} {s:S} {L:List Res} (s':S) (tm0:Nat→Value) (ht:tm=T s' tm0) (hμ:μ s'<μ s) (h:∀W,Ext w0 W L→G s' W) :
  EX (rndS (fun s a W=>∃tm0,a=act m (T s tm0) d∧G s W) μ Q s) .normal w0 L m tm d:=fun W hW=>⟨fun _=>⟨s',⟨tm0,by rw[ht],h W hW⟩,hμ⟩,fun h=>absurd E h⟩
variable {ops : Array Oper} {t : Tmp} {ty : TypeId} {pos : String} {af : Array Edge} {g : Option (Nat × Bool)} {rest : List Oper} {L : List Res}
theorem ox_yield {x:Operand} {xs:List Operand} {us:Array TypeId} {l:Nat} (vs:List Value) {A B:World→Prop} (hw:cZ ops m tm ⟨some t,.call ⟨.value x,xs.toArray,us⟩,ty,pos,af,g⟩=true) (hx:opv m tm x=.func (.yield l) #[] #[]) (ha:xs.map (opv m tm)=vs)
  (hy:∀W,Ext w0 W L→YieldAt (Fw none) 6 P l vs.toArray W fun e W'=>(e=.returned (.bool true)∧A W')∨(e=.returned (.bool false)∧B W'))
  (hA:∀W,A W→OX none 7 P ops Q W [] rest m (upd tm t (.bool true)) d) (hB:∀W,B W→OX none 7 P ops Q W [] rest m (upd tm t (.bool false)) d) :
  OX none 7 P ops Q w0 L (⟨some t,.call ⟨.value x,xs.toArray,us⟩,ty,pos,af,g⟩::rest) m tm d:=fun W hW=>by
 unfold OL
 rw[a7,if_pos hw]
 refine⟨fun _ _=>trivial,?_⟩
 subst ha
 obtain⟨fn,tmps,assign,body,hr,hR⟩:=hy W hW
 have e:(execOp (opv m tm) ⟨some t,.call ⟨.value x,xs.toArray,us⟩,ty,pos,af,g⟩).run P W=.ok (.round l fn tmps assign body) W:=by
  have h9:(Instr.yield l (xs.map (opv m tm)).toArray).run P W=.ok (.round l fn tmps assign body) W:=hr
  simp[execOp,resolve,hx,Deferred.ofValue,invoke]
  simpa using h9
 have e0:(Fw none).round=none:=rfl
 rw[e0,cr (by intro c h;cases h),bW,e]
 refine⟨(fun hd=>by cases hd),?_⟩
 refine hR.mono ?_
 rintro e' W' (⟨rfl,h⟩|⟨rfl,h⟩)
 ·show OL none 7 P ops Q rest ((act m tm d).put (some t) (.bool true)) W'
  rw[cj]
  exact hA W' h W' (Ext.nil W')
 ·show OL none 7 P ops Q rest ((act m tm d).put (some t) (.bool false)) W'
  rw[cj]
  exact hB W' h W' (Ext.nil W')
theorem jc {f:FuncId} {fn:Func} {c:Code} {vs:List Value} {W:World} {R:Ending→World→Prop} (hf:P.funcs[f]? = some fn) (hb:fn.body=some c) (hn:fn.ntmps=m) (hl:vs.length≤m)
  (h:CX none 7 P c (bodyPost P fn R) W [] m (fun i=>(vs[i]?).getD undef) []):CallsIn (Fw none) 7 P f vs.toArray W R:=by
 refine callsIn_of_wp hf hb trivial ?_ E
 rw[gU _ _ (by rw[hn];simpa using hl),hn]
 have:=h W (Ext.nil W)
 simpa using this
theorem Ext.grown {w0 W:World} {L:List Res} (h:Ext w0 W L) (row:Option Nat) (hr:row=Option.none):w0.grownBy W row:=by
 subst hr
 exact⟨h.below.os,h.below.tape,h.below.output,h.below.size,fun k hk _=>h.below.block k hk⟩
theorem Rd.blk {W:World} {b:Nat} {e:TypeId} {cs:List Value} (h:W.heap[b]? = some (.cells cs.toArray e (0,0))):Rd W (some ⟨b,0,none⟩) 1 1 cs :=
 ⟨fun j v hj=>⟨b,0,E,by rw[Nat.zero_add,iL h];simpa using hj⟩,Nat.le_refl _⟩
theorem AbidesFrom.ext {β:Type} {B:Nat} {J:β→World→Prop} (h:AbidesFrom B J) {s:β} {W W':World} (hs:J s W) (hE:Ext W W' []):J s W' :=
 h s W W' Option.none hs (hE.grown Option.none E) (fun r e=>by cases e)
end
open Go.RowKit (Below)
theorem jB {α:Type} {cells:α→List Value} {sz:Nat} (hc:∀x,(cells x).length=sz) (v:α):∀(xs:List α) (j:Nat),j<xs.length→(aL cells xs).take (j*sz)++cells v++(aL cells xs).drop ((j+1)*sz)=aL cells (xs.set j v)
 | [],j,h=>by simp at h
 | x::xs,0,_=>by
  have e:(aL cells (x::xs)).drop ((0+1)*sz)=aL cells xs:=by
   have:=e6 hc (x::xs) 1
   simpa using this
  rw[e]
  simp[aL]
 | x::xs,j+1,h=>by
  have ih:=jB hc v xs j (by simpa using h)
  have e1:(aL cells (x::xs)).take ((j+1)*sz)=cells x++(aL cells xs).take (j*sz):=by
   have h1:aL cells (x::xs)=cells x++aL cells xs:=by simp[aL]
   rw[h1,Nat.add_mul,Nat.one_mul,Nat.add_comm,←hc x,List.take_length_add_append,hc x]
  have e2:(aL cells (x::xs)).drop ((j+1+1)*sz)=(aL cells xs).drop ((j+1)*sz):=by
   rw[e6 hc,e6 hc]
   rfl
  rw[e1,e2,List.set_cons_succ]
  have h2:aL cells (x::xs.set j v)=cells x++aL cells (xs.set j v):=by simp[aL]
  rw[h2,←ih]
  simp
section
variable {r : Option Nat} {n : Nat} {P : Program} {ρ : Operand → Value} {w0 : World} {L : List Res}
variable {t : Option Tmp} {ty : TypeId} {pos : String} {af : Array Edge} {g : Option (Nat × Bool)}
theorem lp (i:Nat) {α:Type} {cells:α→List Value} (vs:List Value) (hc:∀x,(cells x).length=vs.length) (hpos:0<vs.length) {xs:List α} (v:α) {x y:Operand} {u e:TypeId} {A:Option Addr} {k c:Nat} {j:Int} (hs:szB P u vs.length=true) (hL:L[i]? = some (bR A c e vs.length k (aL cells xs))) (h0:0≤j) (h1:j<(xs.length:Int)) (hx:ρ x=slA A (j.toNat*vs.length)) (hw:cells v=vs) (hy:ρ y=.agg vs.toArray) (ho:(vs.all (·.oneCell'))=true) :
  OpY r n P ⟨t,.store u x y,ty,pos,af,g⟩ ρ (fun W=>Ext w0 W L) (fun W=>Ext w0 W (L.set i (bR A c e vs.length k (aL cells (xs.set j.toNat v))))) undef :=
 gE (by intro c h;cases h) (fun W hW=>by
  have hown:W.ownsRow 0 e vs.length (.slice A k c) k (aL cells xs):=hW.mem hL
  have hk:xs.length=k:=by
   have h5:=hown.1
   rw[eL hc E]at h5
   exact Nat.eq_of_mul_eq_mul_right hpos h5
  rcases hown.2 with⟨_,h3⟩|⟨g',cap,cur,hv,_,hg,h3,h4,h5,h6⟩
  ·omega
  ·simp only[Value.slice.injEq]at hv
   obtain⟨rfl,_,rfl⟩:=hv
   have hjk:j.toNat<k:=by omega
   have hjs:j.toNat*vs.length+vs.length≤k*vs.length:=by
    have:=Nat.mul_le_mul_right vs.length (show j.toNat+1≤k by omega)
    rw[Nat.add_mul,Nat.one_mul]at this
    exact this
   have hcs:k*vs.length≤cur.size:=by
    have:=Nat.mul_le_mul_right vs.length h3
    omega
   have hx':ρ x=.pointer (some ⟨g',j.toNat*vs.length,none⟩):=by
    rw[hx]
    simp[slA]
   have hcw:(Value.agg vs.toArray).cells.toList=vs:=by simp[Value.cells]
   have hst:=run_storeCells_at (P:=P) g' (j.toNat*vs.length) e vs 0 cur W hg (by omega) (by simpa using ho)
   simp only[Nat.add_zero]at hst
   refine⟨_,by
    simp only[execOp,hx',hy,Sem.run_bind]
    have:(Instr.storeAt u (.pointer (some ⟨g',j.toNat*vs.length,none⟩)) (.agg vs.toArray)).run P W=.ok () (W.setRow g' (cur.toList.take (j.toNat*vs.length)++vs++cur.toList.drop (j.toNat*vs.length+vs.length)).toArray):=by
     simp[Instr.storeAt,Instr.sureAddr,storeVar,cD hs,Value.cells,hst]
    rw[this]
    rfl,?_⟩
   have hlen:(cur.toList.take (j.toNat*vs.length)++vs++cur.toList.drop (j.toNat*vs.length+vs.length)).length=cur.size:=by
    simp;omega
   refine hW.set hL (bR (some ⟨g',0,none⟩) c e vs.length k (aL cells (xs.set j.toNat v))) ?_ E E E (by simp[World.setRow]) (fun b' _ hn=>?_) (fun b' hb'=>.inl hb')
   ·refine⟨?_,.inr ⟨g',c,(cur.toList.take (j.toNat*vs.length)++vs++cur.toList.drop (j.toNat*vs.length+vs.length)).toArray,E,Nat.zero_le _,setRow_heap W g' _ _ e _ hg,h3,h4,by simp only[List.size_toArray];rw[hlen];exact h5,?_⟩⟩
    ·rw[eL hc E];simp[hk]
    ·have h6':cur.toList.take (k*vs.length)=aL cells xs:=h6
     show(cur.toList.take (j.toNat*vs.length)++vs++cur.toList.drop (j.toNat*vs.length+vs.length)).take (k*vs.length)=_
     rw[←jB hc v xs j.toNat (by omega),hw,←h6',List.take_take,Nat.min_eq_left (by omega)]
     rw[List.append_assoc,List.append_assoc,List.take_append,List.take_of_length_le (by simp;omega)]
     congr 1
     rw[List.take_append,List.take_of_length_le (by simp;omega)]
     congr 1
     rw[List.drop_take,Nat.add_mul,Nat.one_mul]
     congr 1
     simp
     omega
   ·show(W.heap.modify g' _)[b']? = _
    rw[Array.getElem?_modify,if_neg (fun e'=>hn ⟨_,E,e'⟩)])
end
open Go.RowKit (Below)
def mapR (P:Program) (kt et:TypeId) (b:Nat) (m:List (Int × Int)):Res where
 dom c:=c=b
 holds W:=∃D:DataW Unit,W.ownsMap P kt (plainElem P et) b m.length D∧Maps.IsMap D∧∀x:Int,ki x=true→D.atKey (.int .i64 x) (.lit (.int .i64 0))=.lit (.int .i64 (mget m x))
 loc W W' h _ hh:=by
  obtain⟨D,⟨es,clock,hb,h1⟩,h2⟩:=hh
  exact⟨D,⟨es,clock,(h b E).trans hb,h1⟩,h2⟩
 inb W h c hc:=by
  obtain⟨D,h1,_⟩:=h
  have hc':c=b:=hc
  rw[hc']
  exact h1.lt
theorem rngB_wf {x:Int} (h:ki x=true):(Lit.int .i64 x).wf=true:=by
 unfold ki at h
 simp only[Bool.and_eq_true,decide_eq_true_eq]at h
 have h1:IntKind.i64.min = -9223372036854775808:=by decide
 have h2:IntKind.i64.max=9223372036854775807:=by decide
 simp[Lit.wf,h1,h2]
 omega
section
variable {P : Program} {w0 : World} {L : List Res}
theorem zero_run {W:World} {e:TypeId} {z:Value} (h:bg P e=some z):(zeroValue e).run P W=.ok z W:=by
 unfold bg at h
 cases hi:P.info? e with
 | none=>rw[hi]at h;cases h
 | some inf =>
  rw[hi]at h
  have h':inf.zero=some z:=h
  simp[zeroValue,typeInfo,hi,h']
theorem Cy.map {B:Nat} {kt et:TypeId} {b:Nat} {m:List (Int × Int)} (h:b<B):Cy B (mapR P kt et b m):=fun W c _ hc=>by
 have hc':c=b:=hc
 exact .inl (by omega)
end
section
variable {r : Option Nat} {n : Nat} {P : Program} {ρ : Operand → Value} {w0 : World} {L : List Res}
variable {t : Option Tmp} {ty : TypeId} {pos : String} {af : Array Edge} {g : Option (Nat × Bool)}
theorem keyI {kt:TypeId} (hk:P.underlying kt=some (.int .i64)) {x:Int} (h:ki x=true):keyOf P kt (.int .i64 x)=some (.int .i64 x):=by
 have:=rngB_wf h
 simp[keyOf,hk,mapKey,this]
end
section
variable {r : Option Nat} {n : Nat} {P : Program} {ops : Array Oper} {Q : Exit → Act → World → Prop} {w0 : World} {L : List Res} {m : Nat} {tm : Nat → Value} {d : List Deferred}
variable {t : Tmp} {ty : TypeId} {pos : String} {af : Array Edge} {g : Option (Nat × Bool)} {l rest : List Oper}
end
open Go.RowKit (Below)
section
variable {r : Option Nat} {n : Nat} {P : Program} {ρ : Operand → Value}
variable {t : Option Tmp} {ty : TypeId} {pos : String} {af : Array Edge} {g : Option (Nat × Bool)} {C : World → Prop}
end
section
variable {r : Option Nat} {n : Nat} {P : Program} {ops : Array Oper} {Q : Exit → Act → World → Prop} {w0 : World} {L L' : List Res} {m : Nat} {tm : Nat → Value} {d : List Deferred}
end
end Go.Proofs.Ytcleeakjghgbdaa
