import Derived.Test.YtbblpokfbmekfaaGreatGt
import Derived.RangeFuncNested
import Derived.Laws.OwnMore
import Derived.Lib.SliceRun
import Derived.Maps.OwnSet
import Derived.DeepKeys4
import Derived.Maps.Range
set_option linter.unusedVariables false
namespace Go.Proofs.YtbblpokfbmekfaaGreat
open Go.RowKit (Below)
section
variable {w0 : World} {L : List Res}
def restR (L : List Res) (S : List Nat) : Res where
 dom b:=∃ (j : Nat) (p : Res),j ∉ S ∧ L[j]? = some p ∧ p.dom b
 holds W:=(∀ (j : Nat) (p : Res),j ∉ S → L[j]? = some p → p.holds W) ∧ ∀ (j k : Nat) (p q : Res),j ∉ S → k ∉ S → L[j]? = some p → L[k]? = some q → j ≠ k → ∀ b,p.dom b → ¬ q.dom b
 loc W W' h hs hh:=⟨fun j p hj hp => p.loc W W' (fun b hb => h b ⟨j,p,hj,hp,hb⟩) hs (hh.1 j p hj hp),hh.2⟩
 inb W hh b hb:=by
  obtain ⟨j,p,hj,hp,hd⟩:=hb
  exact p.inb W (hh.1 j p hj hp) b hd
def noR : Res where
 dom _:=False
 holds _:=True
 loc _ _ _ _ _:=trivial
 inb _ _ _ hb:=hb.elim
theorem Ext.focus {W : World} (h : Ext w0 W L) (i : Nat) {p : Res} (hp : L[i]? = some p) : Ext w0 W [restR L [i],p] where
 below:=h.below
 all k q hq:=by
  match k,hq with
  | 0,hq => cases hq; exact ⟨fun j p _ hp => h.all j p hp,fun j k p q _ _ hp hq hne => h.sep j k p q hp hq hne⟩
  | 1,hq => cases hq; exact h.all i p hp
 new k q hq b hb:=by
  match k,hq with
  | 0,hq => cases hq; obtain ⟨j,p',_,hp',hd⟩:=hb; exact h.new j p' hp' b hd
  | 1,hq => cases hq; exact h.new i p hp b hb
 sep k l q q' hq hq' hne b hb hb':=by
  match k,hq,l,hq' with
  | 0,hq,0,hq' => exact hne rfl
  | 1,hq,1,hq' => exact hne rfl
  | 0,hq,1,hq' =>
   cases hq; cases hq'
   obtain ⟨j,p',hj,hp',hd⟩:=hb
   exact h.sep j i _ _ hp' hp (fun e => hj (by simp [e])) b hd hb'
  | 1,hq,0,hq' =>
   cases hq; cases hq'
   obtain ⟨j,p',hj,hp',hd⟩:=hb'
   exact h.sep i j _ _ hp hp' (fun e => hj (by simp [e])) b hb hd
theorem Ext.unfocus {W W2 : World} (h : Ext w0 W L) (i : Nat) {p p' : Res} (hp : L[i]? = some p) {X : List Res} (h2 : Ext w0 W2 (restR L [i] :: p' :: X)) : Ext w0 W2 (L.set i p' ++ X):=by
 have hi : i < L.length:=(List.getElem?_eq_some_iff.1 hp).1
 have hget : ∀ (k : Nat) (q : Res),(L.set i p' ++ X)[k]? = some q → (k = i ∧ q = p') ∨ (k ≠ i ∧ L[k]? = some q) ∨ (L.length ≤ k ∧ (restR L [i] :: p' :: X)[k - L.length + 2]? = some q):=by
  intro k q hq
  by_cases hk : k < L.length
  ·rw [List.getElem?_append_left (by simpa using hk),List.getElem?_set] at hq
   by_cases e : i = k
   ·subst e
    simp [hi] at hq
    exact .inl ⟨rfl,hq.symm⟩
   ·rw [if_neg e] at hq
    exact .inr (.inl ⟨fun e' => e e'.symm,hq⟩)
  ·rw [List.getElem?_append_right (by simpa using Nat.le_of_not_lt hk),List.length_set] at hq
   exact .inr (.inr ⟨Nat.le_of_not_lt hk,by simpa using hq⟩)
 have hr : ∀ (k : Nat) (q : Res) (b : Nat),k ≠ i → L[k]? = some q → q.dom b → (restR L [i]).dom b:=fun k q b hk hq hb => ⟨k,q,by simpa using hk,hq,hb⟩
 refine ⟨h2.below,fun k q hq => ?_,fun k q hq b hb => ?_,fun k l q q' hq hq' hne b hb hb' => ?_⟩
 ·rcases hget k q hq with ⟨_,rfl⟩ | ⟨h3,h4⟩ | ⟨h3,h4⟩
  ·exact h2.all 1 _ rfl
  ·exact (h2.all 0 _ rfl).1 k q (by simpa using h3) h4
  ·exact h2.all _ q h4
 ·rcases hget k q hq with ⟨_,rfl⟩ | ⟨h3,h4⟩ | ⟨h3,h4⟩
  ·exact h2.new 1 _ rfl b hb
  ·exact h.new k q h4 b hb
  ·exact h2.new _ q h4 b hb
 ·rcases hget k q hq with ⟨a1,a2⟩ | ⟨h3,h4⟩ | ⟨h3,h4⟩ <;> rcases hget l q' hq' with ⟨b1,b2⟩ | ⟨h5,h6⟩ | ⟨h5,h6⟩
  ·exact hne (a1.trans b1.symm)
  ·subst a2
   exact h2.sep 1 0 _ _ rfl rfl (by decide) b hb (hr l q' b h5 h6 hb')
  ·subst a2
   exact h2.sep 1 _ _ _ rfl h6 (by omega) b hb hb'
  ·subst b2
   exact h2.sep 1 0 _ _ rfl rfl (by decide) b hb' (hr k q b h3 h4 hb)
  ·exact h.sep k l q q' h4 h6 hne b hb hb'
  ·exact h2.sep _ 0 _ _ h6 rfl (by omega) b hb' (hr k q b h3 h4 hb)
  ·subst b2
   exact h2.sep _ 1 _ _ h4 rfl (by omega) b hb hb'
  ·exact h2.sep _ 0 _ _ h4 rfl (by omega) b hb (hr l q' b h5 h6 hb')
  ·exact h2.sep _ _ _ _ h4 h6 (by omega) b hb hb'
theorem Ext.rest {W W3 : World} {i : Nat} {X : List Res} (h : Ext w0 W (restR L [i] :: X)) (hb : Below w0.heap.size w0 W3) (hR : (restR L [i]).holds W3) : Ext w0 W3 (L.set i noR):=by
 have hget : ∀ (k : Nat) (q : Res),(L.set i noR)[k]? = some q → q = noR ∨ (k ∉ [i] ∧ L[k]? = some q):=by
  intro k q hq
  rw [List.getElem?_set] at hq
  by_cases e : i = k
  ·subst e
   rw [if_pos rfl] at hq
   split at hq
   ·cases hq; exact .inl rfl
   ·cases hq
  ·rw [if_neg e] at hq
   exact .inr ⟨by simp; exact fun e' => e e'.symm,hq⟩
 refine ⟨hb,fun k q hq => ?_,fun k q hq b hd => ?_,fun k l q q' hq hq' hne b hd hd' => ?_⟩
 ·rcases hget k q hq with rfl | ⟨h1,h2⟩
  ·trivial
  ·exact hR.1 k q h1 h2
 ·rcases hget k q hq with rfl | ⟨h1,h2⟩
  ·exact hd.elim
  ·exact h.new 0 _ rfl b ⟨k,q,h1,h2,hd⟩
 ·rcases hget k q hq with rfl | ⟨h1,h2⟩
  ·exact hd.elim
  ·rcases hget l q' hq' with rfl | ⟨h3,h4⟩
   ·exact hd'.elim
   ·exact hR.2 k l q q' h1 h3 h2 h4 hne b hd hd'
end
section
variable {r : Option Nat} {n : Nat} {P : Program} {ops : Array Oper} {Q : Exit → Act → World → Prop} {w0 : World} {L L' : List Res} {m : Nat} {tm : Nat → Value} {d : List Deferred}
variable {t : Tmp} {ty : TypeId} {pos : String} {af : Array Edge} {g : Option (Nat × Bool)} {rest : List Oper}
theorem ox_callT {α : Type} {f : FuncId} {xs : List Operand} {us : Array TypeId} (i : Nat) {p : Res} (vs : List Value) (φ : α → Prop) (val : α → Value) (p' : α → Res) (res : α → List Res) (hL : L[i]? = some p)
  (hw : seesB ops m tm ⟨some t,.call ⟨.value (.func f),xs.toArray,us⟩,ty,pos,af,g⟩ = true) (hf : goes P f = true) (ha : xs.map (opv m tm) = vs)
  (hc : ∀ W,Ext w0 W [restR L [i],p] → Calls P f vs.toArray W fun e W' => ∃ x : α,φ x ∧ e = .returned (val x) ∧ Ext w0 W' (restR L [i] :: p' x :: res x))
  (h : ∀ x,φ x → OX r n P ops Q w0 (L.set i (p' x) ++ res x) rest m (upd tm t (val x)) d) : OX r n P ops Q w0 L (⟨some t,.call ⟨.value (.func f),xs.toArray,us⟩,ty,pos,af,g⟩ :: rest) m tm d:=fun W hW => by
 unfold OL
 rw [wanted_act,if_pos hw]
 refine ⟨fun _ _ => trivial,?_⟩
 show Oper.uponIn (Fw r) n P _ _ _ Q ((Oper.semAt r (act m tm d).eval _).run P W)
 have e : (execOp (opv m tm) ⟨some t,.call ⟨.value (.func f),xs.toArray,us⟩,ty,pos,af,g⟩).run P W = .ok (.enter f (xs.map (opv m tm)).toArray) W:=by
  have hρ : opv m tm (.func f) = .func (.func f) #[] #[]:=rfl
  simp [execOp,resolve,hρ,Deferred.ofValue,invoke,run_goes hf]
 rw [semAt_exec (by intro c h; cases h),eval_act,e,ha]
 refine ⟨(fun hd => by cases hd),?_⟩
 refine (callsW (hc W (hW.focus i hL))).mono ?_
 rintro e W' ⟨x,hφ,rfl,hx⟩
 show OL r n P ops Q rest ((act m tm d).put (some t) (val x)) W'
 rw [put_act]
 exact h x hφ W' (hW.unfocus i hL hx)
theorem calls_enterB {f : FuncId} {fn : Func} {c : Code} {vs : List Value} {W : World} {R : Ending → World → Prop} (hf : P.funcs[f]? = some fn) (hb : fn.body = some c) (hn : fn.ntmps = m) (hl : vs.length ≤ m) (hW : Ext w0 W L)
  (h : CX none 8 P c (bodyPost P fn R) w0 L m (fun i => (vs[i]?).getD undef) []) : Calls P f vs.toArray W R:=by
 refine callsW' (r:=none) (n:=8) (callsIn_of_wp hf hb trivial ?_ rfl)
 rw [act_enter _ _ (by rw [hn]; simpa using hl),hn]
 have:=h W hW
 simpa using this
end
section
variable {r : Option Nat} {n : Nat} {P : Program} {ρ : Operand → Value} {w0 : World} {L L' : List Res}
variable {t : Option Tmp} {ty : TypeId} {pos : String} {af : Array Edge} {g : Option (Nat × Bool)} {C C' : World → Prop}
theorem run_eqnil {W : World} {A : Option Addr} {l c : Nat} {e u : TypeId} (hu : P.underlying u = some (.slice e)) : (Op.equalIn 10000 u (.slice A l c) (.slice none 0 0)).run P W = .ok A.isNone W:=by
 have h1 : (underlying u).run P W = .ok (.slice e) W:=by simp [underlying,hu]
 unfold Op.equalIn
 simp only [Sem.run_bind,h1,Result.andThen_ok]
 cases A <;> rfl
theorem y_eqnil {x y : Operand} {A : Option Addr} {l c : Nat} {e u u' : TypeId} (hu : P.underlying u = some (.slice e)) (hx : ρ x = .slice A l c) (hy : ρ y = .slice none 0 0) : OpY r n P ⟨t,.binOp .eql u x y u',ty,pos,af,g⟩ ρ C C (.bool A.isNone) :=
 opY_val (by intro c h; cases h) (fun W _ => by
  have:=run_eqnil (W:=W) (A:=A) (l:=l) (c:=c) hu
  simp [execOp,hx,hy,go_sem,binOp,Op.equal,Op.maxDepth,this])
theorem y_convertU {x : Operand} {u v : TypeId} {a : Int} (hu : P.underlying u = some (.int .i64)) (hv : P.underlying v = some (.int .u64)) (h : 0 ≤ a ∧ a ≤ 9223372036854775807) (hx : ρ x = .int .i64 a) : OpY r n P ⟨t,.convert u v x,ty,pos,af,g⟩ ρ C C (.int .u64 a) :=
 opY_val (by intro c h; cases h) (fun W _ => by
  have h2 : IntKind.u64.wrap a = a:=by
   simp [IntKind.wrap,IntKind.bits,IntKind.signed]
   omega
  have h1 : (convert u v (.int .i64 a)).run P W = .ok (.int .u64 a) W:=by
   simp [convert,underlying,hu,hv,Conv.intToInt,h2]
  simp [execOp,hx,h1])
end
open Go.RowKit (Below)
section
variable {r : Option Nat} {n : Nat} {P : Program} {Q : Exit → Act → World → Prop} {w0 : World} {L : List Res} {m : Nat} {tm : Nat → Value} {d : List Deferred}
end
open Go.RowKit (Below)
section
variable {w0 : World} {L : List Res}
theorem Ext.tell {W : World} (h : Ext w0 W L) (i : Nat) {p q : Res} (hp : L[i]? = some p) (hq : p.holds W → q.holds W) (hd : ∀ b,q.dom b → p.dom b) : Ext w0 W (L.set i q) :=
 h.set hp q (hq (h.all i p hp)) rfl rfl rfl (Nat.le_refl _) (fun _ _ _ => rfl) (fun b hb => .inl (hd b hb))
end
section
variable {r : Option Nat} {n : Nat} {P : Program} {ρ : Operand → Value} {w0 : World} {L : List Res}
variable {t : Option Tmp} {ty : TypeId} {pos : String} {af : Array Edge} {g : Option (Nat × Bool)}
variable {A : Option Addr} {k c : Nat} {cs : List Value}
theorem slOf_inv {u e : TypeId} {sz : Nat} (hs : slOf P u = some (e,sz)) : P.underlying u = some (.slice (P.elem u)) ∧ ∀ W,(Go.sizeOf (P.elem u)).run P W = .ok sz W:=by
 unfold slOf at hs
 cases hu : P.underlying u with
 | none => rw [hu] at hs; cases hs
 | some d =>
  rw [hu] at hs
  cases d with
  | slice e' =>
   simp only [] at hs
   cases hinf : P.info? e' with
   | none => rw [hinf] at hs; cases hs
   | some inf =>
    rw [hinf] at hs
    simp only [Option.map_some,Option.some.injEq,Prod.mk.injEq] at hs
    obtain ⟨rfl,rfl⟩:=hs
    have e1 : P.elem u = e':=by simp [Program.elem,hu]
    exact ⟨by rw [e1],fun W => by rw [e1]; simp [Go.sizeOf,typeInfo,hinf]⟩
  | _ => cases hs
theorem y_cutH {x b : Operand} {u e : TypeId} {sz : Nat} {q : IntKind} {hi : Int} (hs : slOf P u = some (e,sz)) (h0 : 0 ≤ hi) (h2 : hi ≤ k) (hR : RdL w0 L A k c cs) (hx : ρ x = .slice A k c) (hb : ρ b = .int q hi) :
  OpY r n P ⟨t,.slice u x none (some b) none,ty,pos,af,g⟩ ρ (fun W => Ext w0 W L) (fun W => Ext w0 W L) (.slice A hi.toNat c) :=
 opY_val (by intro c h; cases h) (fun W hW => by
  obtain ⟨hu',hsz⟩:=slOf_inv hs
  have hcap:=(hR W hW).cap
  have h3 : hi ≤ (c : Int):=by omega
  simp only [execOp,hx,hb,Option.map_some,Option.map_none,Sem.run_bind,run_sliceAt_slice W u _ _ _ _ hu',run_slice_h W u A k c hu' q hi h0 h3,hsz,Result.andThen_ok,sliced]
  have e1 : (if c = 0 then A else Option.map (fun x => x.add (0 * sz)) A) = A:=by
   split
   ·rfl
   ·cases A <;> simp [Addr.add]
  rw [e1]
  rfl)
theorem RdL.cutH {α : Type} {cells : α → List Value} {sz : Nat} (hc : ∀ x,(cells x).length = sz) {A : Option Addr} {n c : Nat} {xs : List α} {hi : Int} (h : RdL w0 L A n c (encL cells xs)) (_h0 : 0 ≤ hi) (h2 : hi ≤ (n : Int)) :
  RdL w0 L A hi.toNat c (encL cells (xs.take hi.toNat)):=fun W hW => by
 have hr:=h W hW
 refine ⟨fun j v hj => hr.cell j v ?_,by have:=hr.cap; omega⟩
 rw [← encL_take hc,List.getElem?_take] at hj
 split at hj
 ·exact hj
 ·cases hj
theorem cutH_len {α : Type} {xs : List α} {n : Nat} {hi : Int} (h2 : hi ≤ (n : Int)) (hn : n = xs.length) : hi.toNat = (xs.take hi.toNat).length:=by rw [List.length_take,← hn]; omega
end
section
variable {r : Option Nat} {n : Nat} {P : Program} {ops : Array Oper} {Q : Exit → Act → World → Prop} {w0 : World} {L : List Res} {m : Nat} {tm : Nat → Value} {d : List Deferred}
variable {t : Tmp} {ty : TypeId} {pos : String} {af : Array Edge} {g : Option (Nat × Bool)} {l rest : List Oper}
theorem ox_append0 (i : Nat) {α : Type} {cells : α → List Value} {xs ys : List α} {x y : Operand} {u e : TypeId} {A B : Option Addr} {c c' k q : Nat} {sz by' : Nat} {z : Value} (hu : P.underlying u = some (.slice e)) (hz : zeroOf P e = some z) (hb : bytesB P e z sz by' = true)
  (hL : L[i]? = some (rowR A c e sz k (encL cells xs))) (hx : opv m tm x = .slice A k c) (hy : opv m tm y = .slice B q c') (hR : RdL w0 L B q c' (encL cells ys)) (hn : (encL cells ys).length = q * sz) (h1 : ((encL cells ys).all (·.oneCell')) = true) (hg : (k + q) * by' ≤ 140737488355328)
  (hw : seesB ops m tm ⟨some t,.call ⟨.builtin .append,#[x,y],#[u,u]⟩,ty,pos,af,g⟩ = true)
  (h : ∀ A' c',OX r n P ops Q w0 (L.set i (rowR A' c' e sz (k + q) (encL cells (xs ++ ys)))) rest m (upd tm t (.slice A' (k + q) c')) d) :
  OX r n P ops Q w0 L (⟨some t,.call ⟨.builtin .append,#[x,y],#[u,u]⟩,ty,pos,af,g⟩ :: rest) m tm d:=by
 rcases Nat.eq_zero_or_pos q with hq | hq
 ·subst hq
  have hys : encL cells ys = []:=by
   have:=hn
   rw [Nat.zero_mul] at this
   exact List.eq_nil_of_length_eq_zero this
  refine ox_step hw (by intro c h; cases h) fun W hW => ?_
  obtain ⟨inf,hinf,hzz⟩ : ∃ inf,P.info? e = some inf ∧ inf.zero = some z:=by
   unfold zeroOf at hz
   cases hi : P.info? e with
   | none => rw [hi] at hz; cases hz
   | some inf => rw [hi] at hz; exact ⟨inf,rfl,hz⟩
  have hcap:=(rowR_rd (hW.mem hL)).cap
  have hrun : (Builtin.append_ #[u,u] ty #[.slice A k c,.slice B 0 c']).run P W = .ok (.slice A k c) W:=by
   cases A <;> cases B <;> simp [Builtin.append_,run_underlying hu,sizeOf,typeInfo,hinf,Builtin.lenOf,Builtin.firstCells,hcap,storeCells,loadCells,loadCellsFrom]
  refine ⟨_,W,_,?_,?_,h A c⟩
  ·simp only [execOp,resolve,invoke,builtin]
   simp [hx,hy,hrun]
  ·have e1 : encL cells (xs ++ ys) = encL cells xs:=by rw [← encL_app,hys,List.append_nil]
   rw [e1,Nat.add_zero]
   have e2 : L.set i (rowR A c e sz k (encL cells xs)) = L:=by
    obtain ⟨hi,he⟩:=List.getElem?_eq_some_iff.1 hL
    rw [← he,List.set_getElem_self]
   rw [e2]
   exact hW
 ·exact ox_appendE i hu hz hb hL hx hy hq hR hn h1 hg hw h
end
def rawR (v : Value) : Option (DataW Value × List MemPlace):=some (.held v,[])
structure KeyE (P : Program) (kt : TypeId) {κ : Type} (ek : κ → Value) (ok : κ → Bool) : Prop where
 keyed : Maps.Keyed P kt
 tot : ∀ x,ok x = true → ∃ l,keyOf P kt (ek x) = some l
 inj : ∀ x y,ek x = ek y → x = y
def mapV (P : Program) (kt : TypeId) {κ β : Type} [DecidableEq κ] (ek : κ → Value) (ok : κ → Bool) (ev : β → Value) (z : β) (b : Nat) (m : List (κ × β)) : Res where
 dom c:=c = b
 holds W:=∃ D : DataW Value,W.ownsMap P kt rawR b m.length D ∧ Maps.IsMap D ∧ (∀ x l,ok x = true → keyOf P kt (ek x) = some l → D.atKey l (.held (ev z)) = .held (ev (mgetV z m x)) ∧ Maps.has D l = mhasV m x) ∧ ∀ l,Maps.has D l = true → ∃ x,ok x = true ∧ keyOf P kt (ek x) = some l
 loc W W' h _ hh:=by
  obtain ⟨D,⟨es,clock,hb,h1⟩,h2⟩:=hh
  exact ⟨D,⟨es,clock,(h b rfl).trans hb,h1⟩,h2⟩
 inb W h c hc:=by
  obtain ⟨D,h1,_⟩:=h
  have hc' : c = b:=hc
  rw [hc']
  exact h1.lt
theorem Cy.mapV {B : Nat} {P : Program} {kt : TypeId} {κ β : Type} [DecidableEq κ] {ek : κ → Value} {ok : κ → Bool} {ev : β → Value} {z : β} {b : Nat} {m : List (κ × β)} (h : b < B) : Cy B (mapV P kt ek ok ev z b m):=fun W c _ hc => by
 have hc' : c = b:=hc
 exact .inl (by omega)
theorem mapV.later {P : Program} {kt : TypeId} {κ β : Type} [DecidableEq κ] {ek : κ → Value} {ok : κ → Bool} {ev : β → Value} {z : β} {b : Nat} {m : List (κ × β)} {W W' : World} (h : (mapV P kt ek ok ev z b m).holds W) (hb : Below W.heap.size W W') : (mapV P kt ek ok ev z b m).holds W' :=
 (mapV P kt ek ok ev z b m).loc W W' (fun c hc => by
  have hc' : c = b:=hc
  obtain ⟨D,h1,_⟩:=h
  rw [hc']
  exact hb.block b h1.lt) hb.size h
def MpL (w0 : World) (L : List Res) (p : Res) : Prop:=∀ W,Ext w0 W L → p.holds W
theorem MpL.own {w0 : World} {L : List Res} {p : Res} (i : Nat) (h : L[i]? = some p) : MpL w0 L p:=fun _ hW => hW.mem h
theorem MpL.arg {w0 : World} {L : List Res} {P : Program} {kt : TypeId} {κ β : Type} [DecidableEq κ] {ek : κ → Value} {ok : κ → Bool} {ev : β → Value} {z : β} {b : Nat} {m : List (κ × β)} (h : (mapV P kt ek ok ev z b m).holds w0) : MpL w0 L (mapV P kt ek ok ev z b m):=fun _ hW => mapV.later h hW.below
def kI (x : Int) : Value:=.int .i64 x
def kB (x : Bool) : Value:=.bool x
theorem keyE_int {P : Program} {kt : TypeId} (hk : P.underlying kt = some (.int .i64)) : KeyE P kt kI rngB :=
 ⟨Maps.int_keyed hk,fun x h => ⟨_,keyI hk h⟩,fun x y h => by cases h; rfl⟩
section
variable {r : Option Nat} {n : Nat} {P : Program} {ρ : Operand → Value} {w0 : World} {L : List Res}
variable {t : Option Tmp} {ty : TypeId} {pos : String} {af : Array Edge} {g : Option (Nat × Bool)}
variable {κ β : Type} [DecidableEq κ] {ek : κ → Value} {ok : κ → Bool} {ev : β → Value} {z : β}
theorem y_lookupV {kt et mt b : Nat} {m : List (κ × β)} {x y : Operand} {k : κ} (hM : MpL w0 L (mapV P kt ek ok ev z b m)) (K : KeyE P kt ek ok) (hm : P.underlying mt = some (.map kt et)) (hz : zeroOf P et = some (ev z))
  (hx : ρ x = .map (some b)) (hy : ρ y = ek k) (hr : ok k = true) :
  OpY r n P ⟨t,.lookup mt x y false,ty,pos,af,g⟩ ρ (fun W => Ext w0 W L) (fun W => Ext w0 W L) (ev (mgetV z m k)) :=
 opY_val (by intro c h; cases h) (fun W hW => by
  obtain ⟨D,h1,_,h3,_⟩:=hM W hW
  obtain ⟨l,hl⟩:=K.tot k hr
  obtain ⟨v,ps,hrun,hv⟩:=h1.lookup K.keyed hm (zero_run hz) (zd:=.held (ev z)) (zp:=[]) rfl hl
  rw [(h3 k l hr hl).1] at hv
  have : v = ev (mgetV z m k):=by
   have:=Option.some.inj hv
   simp only [Prod.mk.injEq,DataW.held.injEq] at this
   exact this.1
  subst this
  simp [execOp,hx,hy,hrun])
theorem y_updateV (i : Nat) {kt et mt b : Nat} {m : List (κ × β)} {x y u : Operand} {k : κ} {v : β} (hL : L[i]? = some (mapV P kt ek ok ev z b m)) (K : KeyE P kt ek ok) (hm : P.underlying mt = some (.map kt et))
  (hx : ρ x = .map (some b)) (hy : ρ y = ek k) (hv : ρ u = ev v) (hr : ok k = true ∧ m.length < 1000000) :
  OpY r n P ⟨t,.mapUpdate mt x y u,ty,pos,af,g⟩ ρ (fun W => Ext w0 W L) (fun W => Ext w0 W (L.set i (mapV P kt ek ok ev z b ((k,v) :: m)))) undef :=
 opY_skip (by intro c h; cases h) (fun W hW => by
  obtain ⟨D,h1,h2,h3,h4⟩:=hW.mem hL
  obtain ⟨l,hl⟩:=K.tot k hr.1
  obtain ⟨W',hrun,hown,hg⟩:=h1.update K.keyed hm (by simp only [maxLen]; omega) (val:=ev v) (d:=.held (ev v)) (ps:=[]) hl rfl
  refine ⟨W',by simp [execOp,hx,hy,hv,hrun],?_⟩
  refine hW.set hL (mapV P kt ek ok ev z b ((k,v) :: m)) ⟨_,hown,h2.put _ _,fun q l' hq hl' => ?_,fun l' hl' => ?_⟩ hg.os hg.tape hg.output hg.size (fun c hc hn => hg.block c hc (fun e => hn (by cases e; rfl))) (fun c hc => .inl hc)
  rotate_left
  ·by_cases e : l' = l
   ·exact ⟨k,hr.1,by rw [e]; exact hl⟩
   ·rw [Maps.has_put_other e] at hl'
    exact h4 l' hl'
  unfold mgetV mhasV
  by_cases e : k = q
  ·subst e
   have e2 : l' = l:=by rw [hl] at hl'; exact (Option.some.inj hl').symm
   subst e2
   rw [Maps.atKey_put_same h2 (K.keyed.key hl),Maps.has_put_same h2 (K.keyed.key hl)]
   simp
  ·have hne : l' ≠ l:=fun e2 => e (K.inj k q (K.keyed.inj hl (e2 ▸ hl')))
   rw [Maps.atKey_put_other hne,Maps.has_put_other hne,(h3 q l' hq hl').1,(h3 q l' hq hl').2]
   simp [e])
end
section
variable {r : Option Nat} {n : Nat} {P : Program} {ops : Array Oper} {Q : Exit → Act → World → Prop} {w0 : World} {L : List Res} {m : Nat} {tm : Nat → Value} {d : List Deferred}
variable {t : Tmp} {ty : TypeId} {pos : String} {af : Array Edge} {g : Option (Nat × Bool)} {l rest : List Oper}
theorem ox_makeMapV (kt : TypeId) {κ β : Type} [DecidableEq κ] (ek : κ → Value) (ok : κ → Bool) (ev : β → Value) (z : β) {mt : TypeId} (hw : seesB ops m tm ⟨some t,.makeMap mt none,ty,pos,af,g⟩ = true)
  (h : ∀ b,OX r n P ops Q w0 (L ++ [mapV P kt ek ok ev z b []]) rest m (upd tm t (.map (some b))) d) : OX r n P ops Q w0 L (⟨some t,.makeMap mt none,ty,pos,af,g⟩ :: rest) m tm d :=
 ox_step hw (by intro c h; cases h) fun W hW => by
  refine ⟨_,W.alloc (.map #[] 0),_,?_,?_,h W.heap.size⟩
  ·simp [execOp,Instr.makeMap,newObj]
   rfl
  ·have h7 : Ext w0 (W.alloc (.map #[] 0)) L:=hW.keep (hW.below.alloc hW.size _) (by simp) (fun i p hp b hd => Below.heap_alloc W _ b (p.inb W (hW.all i p hp) b hd))
   refine h7.snoc (p:=mapV P kt ek ok ev z W.heap.size []) ⟨_,World.ownsMap_made W P kt _,⟨_,rfl⟩,fun x _ _ _ => ⟨rfl,rfl⟩,fun l hl => by cases hl⟩ (fun b hb => ?_) (fun i q hq b hb hb' => ?_)
   ·have hb' : b = W.heap.size:=hb
    have:=hW.size
    omega
   ·have hb'' : b = W.heap.size:=hb'
    have:=q.inb W (hW.all i q hq) _ hb
    omega
end
theorem encL_setF {α : Type} [Inhabited α] {cells : α → List Value} {sz : Nat} (hc : ∀ x,(cells x).length = sz) {xs : List α} {v : α} {j q : Nat} {w : Value} (hj : j < xs.length) (hq : q < sz) (hv : cells v = (cells (xs.getD j default)).set q w) : (encL cells xs).set (j * sz + q) w = encL cells (xs.set j v):=by
 rw [← encL_setN hc v xs j hj,hv]
 have e0:=encL_setN hc (xs.getD j default) xs j hj
 have e1 : xs.set j (xs.getD j default) = xs:=by
  rw [List.getD_eq_getElem?_getD,List.getElem?_eq_getElem hj]
  simp
 rw [e1] at e0
 conv => lhs; rw [← e0]
 have hl : ((encL cells xs).take (j * sz)).length = j * sz:=by
  rw [List.length_take,encL_len hc rfl,Nat.min_eq_left (Nat.mul_le_mul_right _ (Nat.le_of_lt hj))]
 rw [List.append_assoc,List.set_append_right _ _ (by omega),hl,Nat.add_sub_cancel_left,List.set_append_left _ _ (by rw [hc]; exact hq),List.append_assoc]
section
variable {r : Option Nat} {n : Nat} {P : Program} {ρ : Operand → Value} {w0 : World} {L : List Res}
variable {t : Option Tmp} {ty : TypeId} {pos : String} {af : Array Edge} {g : Option (Nat × Bool)}
theorem y_storeRF (i : Nat) {α : Type} [Inhabited α] {cells : α → List Value} {sz : Nat} (hc : ∀ x,(cells x).length = sz) {xs : List α} (v : α) (q : Nat) (hq : q < sz) {x y : Operand} {u e : TypeId} {A : Option Addr} {k c : Nat} {j : Int} {w : Value} (hs : szB P u 1 = true) (hL : L[i]? = some (rowR A c e sz k (encL cells xs))) (h0 : 0 ≤ j) (h1 : j < (xs.length : Int)) (hx : ρ x = slA A (j.toNat * sz + q)) (hv : cells v = (cells (rdL xs j)).set q w) (hy : ρ y = w) (ho : w.oneCell' = true) :
  OpY r n P ⟨t,.store u x y,ty,pos,af,g⟩ ρ (fun W => Ext w0 W L) (fun W => Ext w0 W (L.set i (rowR A c e sz k (encL cells (xs.set j.toNat v))))) undef :=
 opY_skip (by intro c h; cases h) (fun W hW => by
  have hown : W.ownsRow 0 e sz (.slice A k c) k (encL cells xs):=hW.mem hL
  have hk : xs.length = k:=by
   have h5:=hown.1
   rw [encL_len hc rfl] at h5
   exact Nat.eq_of_mul_eq_mul_right (by omega) h5
  rcases hown.2 with ⟨_,h3⟩ | ⟨g',cap,cur,hv',_,hg,h3,h4,h5,h6⟩
  ·omega
  ·simp only [Value.slice.injEq] at hv'
   obtain ⟨rfl,_,rfl⟩:=hv'
   have hjk : j.toNat < k:=by omega
   have hjs : j.toNat * sz + sz ≤ k * sz:=by
    have:=Nat.mul_le_mul_right sz (show j.toNat + 1 ≤ k by omega)
    rw [Nat.add_mul,Nat.one_mul] at this
    exact this
   have hcs : k * sz ≤ cur.size:=by
    have:=Nat.mul_le_mul_right sz h3
    omega
   have hcur : j.toNat * sz + q < cur.size:=by omega
   have hx' : ρ x = .pointer (some ⟨g',j.toNat * sz + q,none⟩):=by
    rw [hx]
    simp [slA]
   have hcw : w.cells = #[w]:=by cases w <;> first | rfl | cases ho
   have hst:=run_storeCells_at (P:=P) g' (j.toNat * sz + q) e w.cells.toList 0 cur W hg (by rw [hcw]; simp; omega) (by rw [hcw]; simpa using ho)
   simp only [Nat.add_zero] at hst
   refine ⟨_,by
    simp only [execOp,hx',hy,Sem.run_bind]
    have : (Instr.storeAt u (.pointer (some ⟨g',j.toNat * sz + q,none⟩)) w).run P W = .ok () (W.setRow g' (cur.toList.take (j.toNat * sz + q) ++ w.cells.toList ++ cur.toList.drop (j.toNat * sz + q + w.cells.toList.length)).toArray):=by
     simp [Instr.storeAt,Instr.sureAddr,storeVar,run_sizeOf_sz (show szB P u w.cells.size = true by rw [hcw]; exact hs),hst]
    rw [this]
    rfl,?_⟩
   have e1 : cur.toList.take (j.toNat * sz + q) ++ w.cells.toList ++ cur.toList.drop (j.toNat * sz + q + w.cells.toList.length) = cur.toList.set (j.toNat * sz + q) w:=by
    rw [hcw]
    simp only [List.length_cons,List.length_nil]
    rw [List.set_eq_take_append_cons_drop,if_pos (by simpa using hcur)]
    simp
   rw [e1]
   refine hW.set hL (rowR (some ⟨g',0,none⟩) c e sz k (encL cells (xs.set j.toNat v))) ?_ rfl rfl rfl (by simp [World.setRow]) (fun b' _ hn => ?_) (fun b' hb' => .inl hb')
   ·refine ⟨?_,.inr ⟨g',c,(cur.toList.set (j.toNat * sz + q) w).toArray,rfl,Nat.zero_le _,setRow_heap W g' _ _ e _ hg,h3,h4,by simpa using h5,?_⟩⟩
    ·rw [encL_len hc rfl]; simp [hk]
    ·have h6' : cur.toList.take (k * sz) = encL cells xs:=h6
     show (cur.toList.set (j.toNat * sz + q) w).take (k * sz) = _
     rw [← encL_setF hc (w:=w) (q:=q) (by omega) hq hv,← h6',List.take_set]
   ·show (W.heap.modify g' _)[b']? = _
    rw [Array.getElem?_modify,if_neg (fun e' => hn ⟨_,rfl,e'⟩)])
end
theorem rd_none {W : World} {n c sz : Nat} {α : Type} {cells : α → List Value} {xs : List α} (h : Rd W none n c (encL cells xs)) (hc : ∀ x,(cells x).length = sz) (hp : 0 < sz) : xs = []:=by
 cases xs with
 | nil => rfl
 | cons x xs =>
  have hl : 0 < (encL cells (x :: xs)).length:=by rw [encL_len hc rfl]; exact Nat.mul_pos (Nat.succ_pos _) hp
  obtain ⟨b,o,e,_⟩:=h.cell 0 (encL cells (x :: xs))[0] (by simp [hl])
  cases e
section
variable {r : Option Nat} {n : Nat} {P : Program} {ops : Array Oper} {Q : Exit → Act → World → Prop} {w0 : World} {L : List Res} {m : Nat} {tm : Nat → Value} {d : List Deferred}
variable {t : Tmp} {ty : TypeId} {pos : String} {af : Array Edge} {g : Option (Nat × Bool)} {l rest : List Oper}
theorem ox_buildSlice0 {α : Type} (cells : α → List Value) {u e : TypeId} {z : Value} {sz by' : Nat} (hu : P.underlying u = some (.slice e)) (hz : zeroOf P e = some z) (_hb : bytesB P e z sz by' = true)
  (hw : seesB ops m tm ⟨some t,.buildSlice u 0 #[],ty,pos,af,g⟩ = true)
  (h : ∀ b,OX r n P ops Q w0 (L ++ [rowR (some ⟨b,0,none⟩) 0 e sz 0 (encL cells [])]) rest m (upd tm t (.slice (some ⟨b,0,none⟩) 0 0)) d) :
  OX r n P ops Q w0 L (⟨some t,.buildSlice u 0 #[],ty,pos,af,g⟩ :: rest) m tm d :=
 ox_step hw (by intro c h; cases h) fun W hW => by
  obtain ⟨inf,hinf,hzz⟩ : ∃ inf,P.info? e = some inf ∧ inf.zero = some z:=by
   unfold zeroOf at hz
   cases hi : P.info? e with
   | none => rw [hi] at hz; cases hz
   | some inf => rw [hi] at hz; exact ⟨inf,rfl,hz⟩
  have hu1 : (underlying u).run P W = .ok (.slice e) W:=by simp [underlying,hu]
  have hsz : (Go.sizeOf e).run P W = .ok inf.size W:=by simp [Go.sizeOf,typeInfo,hinf]
  have hb : (Instr.buildSlice u 0 #[]).run P W = .ok (.slice (some ⟨W.heap.size,0,none⟩) 0 0) (W.alloc (.cells #[] e)):=by
   simp [Instr.buildSlice,hu1,Result.andThen_ok,hsz,Instr.fill,newRow]
   rw [show (Array.range 0) = #[] by simp [Array.range]]
   simp
  refine ⟨_,W.alloc (.cells #[] e),_,?_,?_,h W.heap.size⟩
  ·simp only [execOp,Sem.run_bind,List.map_toArray,List.map_nil,hb]
   rfl
  ·have hk : (rowR (some ⟨W.heap.size,0,none⟩) 0 e sz 0 (encL cells [])).holds (W.alloc (.cells #[] e)):=by
    have:=World.ownsRow_lit (base:=0) (e:=e) (size:=sz) W #[] 0 (Nat.zero_le _) (Nat.zero_le _) (by simp)
    exact this
   have h7 : Ext w0 (W.alloc (.cells #[] e)) L:=hW.keep (hW.below.alloc hW.size _) (by simp) (fun i p hp b hd => Below.heap_alloc W _ b (p.inb W (hW.all i p hp) b hd))
   refine h7.snoc hk (fun b hb => ?_) (fun i q hq b hb hb' => ?_)
   ·obtain ⟨a,ha,rfl⟩:=hb
    cases ha
    exact hW.size
   ·obtain ⟨a,ha,rfl⟩:=hb'
    cases ha
    have:=q.inb W (hW.all i q hq) _ hb
    exact absurd this (Nat.lt_irrefl _)
theorem Ext.mv {W : World} (h : Ext w0 W L) (i j : Nat) (_hij : i ≠ j) {q : Res} (hq : L[j]? = some q) : Ext w0 W ((L.set j noR).set i q):=by
 have hget : ∀ (k : Nat) (s : Res),((L.set j noR).set i q)[k]? = some s → (k = i ∧ s = q) ∨ s = noR ∨ (k ≠ i ∧ k ≠ j ∧ L[k]? = some s):=by
  intro k s hk
  rw [List.getElem?_set] at hk
  by_cases e : i = k
  ·subst e
   rw [if_pos rfl] at hk
   split at hk
   ·cases hk; exact .inl ⟨rfl,rfl⟩
   ·cases hk
  ·rw [if_neg e,List.getElem?_set] at hk
   by_cases e2 : j = k
   ·subst e2
    rw [if_pos rfl] at hk
    split at hk
    ·cases hk; exact .inr (.inl rfl)
    ·cases hk
   ·rw [if_neg e2] at hk
    exact .inr (.inr ⟨fun h => e h.symm,fun h => e2 h.symm,hk⟩)
 refine ⟨h.below,fun k s hk => ?_,fun k s hk b hb => ?_,fun k l s s' hk hl hne b hb hb' => ?_⟩
 ·rcases hget k s hk with ⟨_,rfl⟩ | rfl | ⟨_,_,h3⟩
  ·exact h.all j _ hq
  ·trivial
  ·exact h.all k _ h3
 ·rcases hget k s hk with ⟨_,rfl⟩ | rfl | ⟨_,_,h3⟩
  ·exact h.new j _ hq b hb
  ·exact hb.elim
  ·exact h.new k _ h3 b hb
 ·rcases hget k s hk with ⟨a1,rfl⟩ | rfl | ⟨a1,a2,a3⟩
  ·rcases hget l s' hl with ⟨b1,rfl⟩ | rfl | ⟨b1,b2,b3⟩
   ·exact hne (a1.trans b1.symm)
   ·exact hb'.elim
   ·exact h.sep j l _ _ hq b3 (fun e => b2 e.symm) b hb hb'
  ·exact hb.elim
  ·rcases hget l s' hl with ⟨b1,rfl⟩ | rfl | ⟨b1,b2,b3⟩
   ·exact h.sep k j _ _ a3 hq a2 b hb hb'
   ·exact hb'.elim
   ·exact h.sep k l _ _ a3 b3 hne b hb hb'
theorem ex_mv {e : Exit} (i j : Nat) (hij : i ≠ j) {q : Res} (hq : L[j]? = some q) (h : EX Q e w0 ((L.set j noR).set i q) m tm d) : EX Q e w0 L m tm d:=fun W hW => h W (hW.mv i j hij hq)
end
section
variable {r : Option Nat} {n : Nat} {P : Program} {ρ : Operand → Value} {C : World → Prop}
variable {t : Option Tmp} {ty : TypeId} {pos : String} {af : Array Edge} {g : Option (Nat × Bool)}
theorem y_convQ {x : Operand} {u v : TypeId} {q q' : IntKind} {a a' : Int} (hu : P.underlying u = some (.int q)) (hv : P.underlying v = some (.int q')) (h : q'.wrap a = a') (hx : ρ x = .int q a) : OpY r n P ⟨t,.convert u v x,ty,pos,af,g⟩ ρ C C (.int q' a') :=
 opY_val (by intro c h; cases h) (fun W _ => by
  have h1 : (convert u v (.int q a)).run P W = .ok (.int q' a') W:=by
   simp [convert,underlying,hu,hv,Conv.intToInt,h]
  simp [execOp,hx,h1])
theorem y_indexStr {x ix : Operand} {u : TypeId} {s : ByteArray} {k : IntKind} {i : Int} {b : UInt8} (hu : P.underlying u = some .string) (h0 : 0 ≤ i) (hb : s[i.toNat]? = some b) (hx : ρ x = .string s) (hi : ρ ix = .int k i) : OpY r n P ⟨t,.index u x ix,ty,pos,af,g⟩ ρ C C (.int .u8 b.toNat) :=
 opY_val (by intro c h; cases h) (fun W _ => by
  simp [execOp,hx,hi,Instr.index,asIntOf,underlying,hu,h0,hb])
end
section
variable {r : Option Nat} {n : Nat} {P : Program} {ρ : Operand → Value} {C : World → Prop}
variable {t : Option Tmp} {ty : TypeId} {pos : String} {af : Array Edge} {g : Option (Nat × Bool)}
end
section
variable {P : Program} {w0 : World} {L : List Res} {m : Nat} {tm : Nat → Value}
end
section
variable {r : Option Nat} {n : Nat} {P : Program} {ρ : Operand → Value} {C : World → Prop} {w0 : World} {L : List Res}
variable {t : Option Tmp} {ty : TypeId} {pos : String} {af : Array Edge} {g : Option (Nat × Bool)}
theorem RdL.under {R : Res} {A : Option Addr} {k c : Nat} {cs : List Value} (h : ∀ W2,Below w0.heap.size w0 W2 → R.holds W2 → Rd W2 A k c cs) : RdL w0 (R :: L) A k c cs:=fun W hW => h W hW.below (hW.mem (i:=0) rfl)
end
open Go.RowKit (Below)
abbrev Hd:=Option Addr × Nat × Nat
theorem rdL_snd {α β : Type} [Inhabited α] [Inhabited β] {ys : List (α × β)} {xs : List β} (h : ys.map Prod.snd = xs) (i : Int) : (rdL ys i).2 = rdL xs i:=by
 subst h
 unfold rdL
 rw [List.getD_eq_getElem?_getD,List.getD_eq_getElem?_getD,List.getElem?_map]
 cases ys[i.toNat]? <;> rfl
theorem rdL_mem {α : Type} [Inhabited α] {xs : List α} {i : Int} (h0 : 0 ≤ i) (h1 : i < (xs.length : Int)) : rdL xs i ∈ xs:=by
 unfold rdL
 rw [List.getD_eq_getElem?_getD,List.getElem?_eq_getElem (show i.toNat < xs.length by omega)]
 exact List.getElem_mem _
section
variable {β γ : Type} {sel : β → List γ} {ic : γ → List Value}
structure NestP (sel : β → List γ) (ys : List (Hd × β)) (xs : List β) : Prop where
 eq : ys.map Prod.snd = xs
 ln : ∀ y ∈ ys,y.1.2.1 = (sel y.2).length
structure NestW (W : World) (sel : β → List γ) (ic : γ → List Value) (ys : List (Hd × β)) (xs : List β) : Prop where
 p : NestP sel ys xs
 inn : ∀ y ∈ ys,Rd W y.1.1 y.1.2.1 y.1.2.2 (encL ic (sel y.2))
structure NestL (w0 : World) (L : List Res) (sel : β → List γ) (ic : γ → List Value) (ys : List (Hd × β)) (xs : List β) : Prop where
 p : NestP sel ys xs
 inn : ∀ y ∈ ys,RdL w0 L y.1.1 y.1.2.1 y.1.2.2 (encL ic (sel y.2))
variable {w0 W : World} {L : List Res} {ys : List (Hd × β)} {xs : List β}
theorem NestL.arg (h : NestW w0 sel ic ys xs) : NestL w0 L sel ic ys xs:=⟨h.p,fun y hy => RdL.arg (h.inn y hy)⟩
theorem NestL.at (h : NestL w0 L sel ic ys xs) (W : World) (hW : Ext w0 W L) : NestW W sel ic ys xs:=⟨h.p,fun y hy => h.inn y hy W hW⟩
theorem NestW.later {W' : World} (h : NestW W sel ic ys xs) (hb : Below W.heap.size W W') : NestW W' sel ic ys xs:=⟨h.p,fun y hy => (h.inn y hy).later hb⟩
theorem NestP.hn {n : Nat} (h : NestP sel ys xs) (hn : n = xs.length) : n = ys.length:=by rw [hn,← h.eq,List.length_map]
variable [Inhabited β] [Inhabited γ]
omit [Inhabited γ] in
theorem NestP.snd (h : NestP sel ys xs) (i : Int) : (rdL ys i).2 = rdL xs i:=rdL_snd h.eq i
omit [Inhabited γ] in
theorem NestP.len (h : NestP sel ys xs) {i : Int} (h0 : 0 ≤ i) (h1 : i < (xs.length : Int)) : (rdL ys i).1.2.1 = (sel (rdL xs i)).length:=by
 have hl : xs.length = ys.length:=h.hn rfl
 rw [← h.snd i]
 exact h.ln _ (rdL_mem h0 (by omega))
omit [Inhabited γ] in
theorem NestL.rd (h : NestL w0 L sel ic ys xs) {i : Int} (h0 : 0 ≤ i) (h1 : i < (xs.length : Int)) : RdL w0 L (rdL ys i).1.1 (sel (rdL xs i)).length (rdL ys i).1.2.2 (encL ic (sel (rdL xs i))):=by
 have hl : xs.length = ys.length:=h.p.hn rfl
 have h2:=h.p.len h0 h1
 have h3:=h.inn _ (rdL_mem (xs:=ys) h0 (by omega))
 rw [h2,h.p.snd i] at h3
 exact h3
end
theorem gets_eq {cs vs us : List Value} {j : Nat} (he : vs = us) (h : ∀ q v,us[q]? = some v → cs[j + q]? = some v) : ∀ q v,vs[q]? = some v → cs[j + q]? = some v:=by subst he; exact h
open Go.RowKit (Below)
theorem put_sizeU (a : Act) (d : Option Tmp) (v : Value) : (a.put d v).tmps.size = a.tmps.size:=by
 cases d with
 | none => rfl
 | some i => simp [Act.put]
theorem stA_sizeU {ops : Array Oper} (vals : Nat → Value) (a0 : Act) (S : Nat → Bool) : ∀ m,(stA ops vals a0 S m).tmps.size = a0.tmps.size
 | 0 => rfl
 | m + 1 => by
  unfold stA
  split
  ·rw [put_sizeU,stA_sizeU vals a0 S m]
  ·exact stA_sizeU vals a0 S m
theorem put_sameU {a b : Act} {d : Option Tmp} {u v : Value} (hs : a.tmps.size = b.tmps.size) (h : a.put d u = a.put d v) : b.put d u = b.put d v:=by
 cases d with
 | none => rfl
 | some i =>
  have h1 : a.tmps.setIfInBounds i u = a.tmps.setIfInBounds i v:=congrArg Act.tmps h
  show (⟨b.tmps.setIfInBounds i u,b.defers⟩ : Act) = ⟨b.tmps.setIfInBounds i v,b.defers⟩
  congr 1
  apply Array.ext_getElem?
  intro j
  have h2:=congrArg (fun t => t[j]?) h1
  simp only [Array.getElem?_setIfInBounds] at h2 ⊢
  by_cases e : i = j
  ·subst e
   by_cases hl : i < b.tmps.size
   ·simp [hl,hs] at h2 ⊢
    exact h2
   ·simp [hl]
  ·simp [e]
abbrev Xo:=Nat → Option Addr × Nat × Nat × List (Option Addr × Nat × Nat) × Res
abbrev Sd:=Option Nat × Nat × List Bool
structure Dyn where
 val : (Nat → Xo) → Value
 wp : (Nat → Xo) → Res
 made : (Nat → Xo) → List Res
instance : Inhabited Dyn:=⟨⟨fun _ => undef,fun _ => noR,fun _ => []⟩⟩
def maskL : List Res → List Bool → List Res
 | p :: L,true :: k => p :: maskL L k
 | _ :: L,false :: k => noR :: maskL L k
 | _,_ => []
def aftL (s : Sd) (d : Dyn) (ξ : Nat → Xo) (L : List Res) : List Res:=(match s.1 with | some i => L.set i (d.wp ξ) | none => L) ++ d.made ξ
def updX (ξ : Nat → Xo) (j : Nat) (x : Xo) : Nat → Xo:=fun i => if i = j then x else ξ i
def obQ (w0 : World) (j : Nat) (s : Sd) (d : Dyn) (ξ : Nat → Xo) (dst : Option Tmp) (L : List Res) (a : Act) : Exit → Act → World → Prop:=fun e a' W =>
 e = .normal ∧ ∃ x,a' = a.put dst (d.val (updX ξ j x)) ∧ Ext w0 W (aftL s d (updX ξ j x) L)
def obG (r : Option Nat) (n : Nat) (P : Program) (ops : Array Oper) (w0 : World) (ξ : Nat → Xo) (j : Nat) (o : Oper) (s : Sd) (d : Dyn) (L : List Res) (a : Act) : Prop :=
 (Region.wanted o (yielded ops a.tmps) = true ∧ ∀ (L2 : List Res) (W : World),Ext w0 W (maskL L s.2.2 ++ L2) → o.wpIn (Fw r) n P a W (fun a' W' => obQ w0 j s d ξ o.dst (maskL L s.2.2 ++ L2) a .normal a' W') (obQ w0 j s d ξ o.dst (maskL L s.2.2 ++ L2) a)) ∨
 (Region.wanted o (yielded ops a.tmps) = false ∧ (∀ ξ',d.val ξ' = undef) ∧ s.1 = none ∧ s.2.1 = 0)
def GW (r : Option Nat) (n : Nat) (P : Program) (ops : Array Oper) (w0 : World) (ξ : Nat → Xo) (K : List Res → Act → Prop) : Nat → List Oper → List Sd → List Dyn → List Res → Act → Prop
 | _,[],[],[],L,a => K L a
 | j,o :: os,s :: ss,d :: ds,L,a => obG r n P ops w0 ξ j o s d L a ∧ GW r n P ops w0 ξ K (j + 1) os ss ds (aftL s d ξ L) (a.put o.dst (d.val ξ))
 | _,_,_,_,_,_ => False
def lenG (sd : List Sd) (base : Nat) : Nat → Nat
 | 0 => base
 | j + 1 => lenG sd base j + (sd.getD j default).2.1
def wrG (sd : List Sd) (base j i : Nat) : Bool:=((sd.getD j default).1 == some i) || (decide (lenG sd base j ≤ i) && decide (i < lenG sd base (j + 1)))
def dpG (A : List (List Nat)) (j i : Nat) : Bool:=(A.getD j []).contains i
def chkG (ops : Array Oper) (A : List (List Nat)) (sd : List Sd) (base : Nat) : Bool :=
 decide (sd.length = ops.size) && (List.range ops.size).all fun j =>
  (match (sd.getD j default).1 with | none => true | some i => decide (i < lenG sd base j)) && decide ((sd.getD j default).2.2.length = lenG sd base j) &&
  ((A.getD j []).all fun i => match ops[j]? with
   | some o => o.after.any fun e => Region.binds .any e && (e.on == i || dpG A e.on i)
   | none => false) &&
  ((List.range ops.size).all fun i => decide (i = j) || (List.range (lenG sd base ops.size)).all fun q => !(wrG sd base i q) ||
   ((!(wrG sd base j q) || dpG A j i || dpG A i j) && (!((sd.getD j default).2.2.getD q false) || (if i < j then dpG A j i else dpG A i j))))
def IndA (A : List (List Nat)) : Nat → List Sd → List Dyn → Prop
 | _,[],[] => True
 | j,s :: ss,d :: ds => ((∀ ξ ξ' : Nat → Xo,(∀ i,(i = j ∨ dpG A j i = true) → ξ i = ξ' i) → d.val ξ = d.val ξ' ∧ d.wp ξ = d.wp ξ' ∧ d.made ξ = d.made ξ') ∧ ∀ ξ,(d.made ξ).length = s.2.1) ∧ IndA A (j + 1) ss ds
 | _,_,_ => False
structure ExtF (w0 W : World) (f : Nat → Option Res) : Prop where
 below : Below w0.heap.size w0 W
 all : ∀ (i : Nat) (p : Res),f i = some p → p.holds W
 new : ∀ (i : Nat) (p : Res),f i = some p → ∀ b,p.dom b → w0.heap.size ≤ b
 sep : ∀ (i j : Nat) (p q : Res),f i = some p → f j = some q → i ≠ j → ∀ b,p.dom b → ¬ q.dom b
theorem ExtF.of {w0 W : World} {L : List Res} (h : Ext w0 W L) : ExtF w0 W (fun i => L[i]?):=⟨h.below,h.all,h.new,h.sep⟩
theorem ExtF.to {w0 W : World} {L : List Res} (h : ExtF w0 W (fun i => L[i]?)) : Ext w0 W L:=⟨h.below,h.all,h.new,h.sep⟩
theorem ExtF.map {w0 W : World} {f g : Nat → Option Res} (h : ExtF w0 W f) (σ : Nat → Nat) (hg : ∀ i p,g i = some p → p = noR ∨ f (σ i) = some p)
  (hj : ∀ i j p q,g i = some p → g j = some q → i ≠ j → p = noR ∨ q = noR ∨ (f (σ i) = some p ∧ f (σ j) = some q ∧ σ i ≠ σ j)) : ExtF w0 W g where
 below:=h.below
 all i p hp:=by
  rcases hg i p hp with rfl | h1
  ·trivial
  ·exact h.all _ _ h1
 new i p hp b hb:=by
  rcases hg i p hp with rfl | h1
  ·exact hb.elim
  ·exact h.new _ _ h1 b hb
 sep i j p q hp hq hne b hb hb':=by
  rcases hj i j p q hp hq hne with rfl | rfl | ⟨h1,h2,h3⟩
  ·exact hb.elim
  ·exact hb'.elim
  ·exact h.sep _ _ _ _ h1 h2 h3 b hb hb'
theorem maskL_get : ∀ (L : List Res) (k : List Bool) (q : Nat),L.length = k.length → (maskL L k)[q]? = (L[q]?).map fun p => if k.getD q false = true then p else noR
 | [],[],q,_ => by simp [maskL]
 | p :: L,true :: k,0,_ => by simp [maskL]
 | p :: L,false :: k,0,_ => by simp [maskL]
 | p :: L,true :: k,q + 1,h => by
  have:=maskL_get L k q (by simpa using h)
  simpa [maskL] using this
 | p :: L,false :: k,q + 1,h => by
  have:=maskL_get L k q (by simpa using h)
  simpa [maskL] using this
theorem maskL_len : ∀ (L : List Res) (k : List Bool),L.length = k.length → (maskL L k).length = L.length
 | [],[],_ => rfl
 | p :: L,true :: k,h => by simp [maskL,maskL_len L k (by simpa using h)]
 | p :: L,false :: k,h => by simp [maskL,maskL_len L k (by simpa using h)]
section
variable {r : Option Nat} {n : Nat} {P : Program} {ops : Array Oper}
def lx (sd : List Sd) (dy : List Dyn) (ξ : Nat → Xo) (L0 : List Res) : Nat → List Res
 | 0 => L0
 | j + 1 => aftL (sd.getD j default) (dy.getD j default) ξ (lx sd dy ξ L0 j)
def vaG (dy : List Dyn) (ξ : Nat → Xo) (j : Nat) : Value:=(dy.getD j default).val ξ
theorem gw_spec {l : List Oper} (hops : ops = l.toArray) {sd : List Sd} {dy : List Dyn} {w0 : World} {ξ : Nat → Xo} {K : List Res → Act → Prop} {L0 : List Res} {a0 : Act} (hs : sd.length = l.length) (hd : dy.length = l.length) :
  ∀ (c j : Nat),j + c = l.length → GW r n P ops w0 ξ K j (l.drop j) (sd.drop j) (dy.drop j) (lx sd dy ξ L0 j) (stA ops (vaG dy ξ) a0 (fun _ => true) j) →
   (∀ i o,j ≤ i → ops[i]? = some o → obG r n P ops w0 ξ i o (sd.getD i default) (dy.getD i default) (lx sd dy ξ L0 i) (stA ops (vaG dy ξ) a0 (fun _ => true) i)) ∧ K (lx sd dy ξ L0 l.length) (stA ops (vaG dy ξ) a0 (fun _ => true) l.length):=by
 intro c
 induction c with
 | zero =>
  intro j hj h
  have : j = l.length:=by omega
  subst this
  rw [List.drop_length,← hs,List.drop_length,hs,← hd,List.drop_length,hd] at h
  refine ⟨fun i o hi ho => ?_,h⟩
  have : i < ops.size:=(Array.getElem?_eq_some_iff.1 ho).1
  rw [hops] at this
  simp at this
  omega
 | succ c ih =>
  intro j hj h
  have h1 : j < l.length:=by omega
  rw [List.drop_eq_getElem_cons h1,List.drop_eq_getElem_cons (show j < sd.length by omega),List.drop_eq_getElem_cons (show j < dy.length by omega)] at h
  obtain ⟨hob,hrest⟩:=h
  have e1 : sd[j]'(by omega) = sd.getD j default:=by simp [show j < sd.length by omega]
  have e2 : dy[j]'(by omega) = dy.getD j default:=by simp [show j < dy.length by omega]
  have ho : ops[j]? = some l[j]:=by rw [hops]; simp [h1]
  have e3 : dstA ops j = l[j].dst:=by simp [dstA,ho]
  rw [e1,e2] at hob hrest
  have hrest' : GW r n P ops w0 ξ K (j + 1) (l.drop (j + 1)) (sd.drop (j + 1)) (dy.drop (j + 1)) (lx sd dy ξ L0 (j + 1)) (stA ops (vaG dy ξ) a0 (fun _ => true) (j + 1)):=by
   have e4 : stA ops (vaG dy ξ) a0 (fun _ => true) (j + 1) = (stA ops (vaG dy ξ) a0 (fun _ => true) j).put (l[j]).dst ((dy.getD j default).val ξ):=by
    simp [stA,e3,vaG]
   rw [e4]
   exact hrest
  obtain ⟨h2,h3⟩:=ih (j + 1) (by omega) hrest'
  refine ⟨fun i o hi hoi => ?_,h3⟩
  by_cases e : i = j
  ·subst e
   rw [ho] at hoi; cases hoi
   exact hob
  ·exact h2 i o (by omega) hoi
theorem ind_spec {A : List (List Nat)} : ∀ (sd : List Sd) (dy : List Dyn) (j0 : Nat),IndA A j0 sd dy → dy.length = sd.length ∧ ∀ j,j < sd.length →
  (∀ ξ ξ' : Nat → Xo,(∀ i,(i = j0 + j ∨ dpG A (j0 + j) i = true) → ξ i = ξ' i) → (dy.getD j default).val ξ = (dy.getD j default).val ξ' ∧ (dy.getD j default).wp ξ = (dy.getD j default).wp ξ' ∧ (dy.getD j default).made ξ = (dy.getD j default).made ξ') ∧ ∀ ξ,((dy.getD j default).made ξ).length = (sd.getD j default).2.1
 | [],[],_,_ => ⟨rfl,fun j hj => by simp at hj⟩
 | s :: ss,d :: ds,j0,h => by
  obtain ⟨h1,h2⟩:=ind_spec ss ds (j0 + 1) h.2
  refine ⟨by simp [h1],fun j hj => ?_⟩
  cases j with
  | zero => exact ⟨h.1.1,h.1.2⟩
  | succ j =>
   have:=h2 j (by simpa using hj)
   simpa [Nat.add_assoc,Nat.add_comm 1 j] using this
 | [],_ :: _,_,h => h.elim
 | _ :: _,[],_,h => h.elim
theorem wpIn_moveG {o : Oper} {a b : Act} {W w0 : World} {j : Nat} {s : Sd} {dd : Dyn} {ξ : Nat → Xo} {L : List Res} {K : Act → World → Prop} {Q : Exit → Act → World → Prop} (hs : ∀ cs x,o.op ≠ .select cs x) (hd : ∀ c,o.op ≠ .defer c) (hev : ∀ x ∈ o.op.operands,a.eval x = b.eval x) (hsz : a.tmps.size = b.tmps.size)
  (h : o.wpIn (Fw r) n P a W (fun a' W' => obQ w0 j s dd ξ o.dst L a .normal a' W') (obQ w0 j s dd ξ o.dst L a)) (hK : ∀ x W',Ext w0 W' (aftL s dd (updX ξ j x) L) → K (b.put o.dst (dd.val (updX ξ j x))) W') : o.wpIn (Fw r) n P b W K Q:=by
 refine ⟨fun _ _ => by cases r <;> trivial,?_⟩
 have h2:=h.2
 have e : o.semAt r b.eval = o.semAt r a.eval:=by
  have e1 : execOp b.eval o = execOp a.eval o:=execOp_congr o hs (fun x hx => (hev x hx).symm)
  cases r with
  | none => rw [Oper.semAt_none,Oper.semAt_none,e1]
  | some l => rw [Oper.semAt_some l _ o hd,Oper.semAt_some l _ o hd,e1]
 have e0 : (Fw r).round = r:=by cases r <;> rfl
 rw [e0] at h2 ⊢
 rw [e]
 have key : ∀ u W',obQ w0 j s dd ξ o.dst L a .normal (a.put o.dst u) W' → K (b.put o.dst u) W':=fun u W' hc => by
  obtain ⟨_,x,hv,hE⟩:=hc
  rw [put_sameU hsz hv]
  exact hK x W' hE
 generalize (o.semAt r a.eval).run P W = res at h2 ⊢
 match res,h2 with
 | .ok (.value u) W',h2 => exact key u W' h2
 | .ok .skip W',h2 => exact key undef W' h2
 | .ok (.defer d') W',h2 =>
  obtain ⟨_,x,hv,_⟩:=h2
  have h9:=congrArg Act.defers hv
  rw [put_defs,put_defs] at h9
  exact absurd h9 (by simp)
 | .ok (.enter f args) W',h2 =>
  refine ⟨h2.1,h2.2.mono ?_⟩
  rintro (_ | _ | _) w hw
  ·exact key _ _ hw
  ·exact absurd hw.1 (by intro h; cases h)
  ·obtain ⟨a9,w9,h9⟩:=hw
   exact absurd h9.1 (by intro h; cases h)
 | .ok (.row row args) W',h2 =>
  refine ⟨h2.1,?_⟩
  exact RowsIn.mono h2.2 (fun u w hw => key u w hw)
 | .ok (.round l f tmps assign body) W',h2 =>
  refine ⟨h2.1,h2.2.mono ?_⟩
  rintro (_ | _ | _) w hw
  ·exact key _ _ hw
  ·exact absurd hw.1 (by intro h; cases h)
  ·obtain ⟨a9,w9,h9⟩:=hw
   exact absurd h9.1 (by intro h; cases h)
 | .halt (.panic u) W',h2 => exact absurd h2.1 (by intro h; cases h)
end
section
variable {r : Option Nat} {n : Nat} {P : Program} {ops : Array Oper} {Q : Exit → Act → World → Prop} {w0 : World} {sd : List Sd} {dy : List Dyn} {base : Nat} {L0 : List Res} {A : List (List Nat)} {ξ ξ' : Nat → Xo} {S S' : Nat → Bool}
def cu (sd : List Sd) (dy : List Dyn) (base : Nat) (L0 : List Res) (ξ : Nat → Xo) (S : Nat → Bool) : Nat → Nat → Option Res
 | 0,q => L0[q]?
 | j + 1,q => if S j = true ∧ (sd.getD j default).1 = some q then some ((dy.getD j default).wp ξ)
   else if S j = true ∧ lenG sd base j ≤ q ∧ q < lenG sd base (j + 1) then ((dy.getD j default).made ξ)[q - lenG sd base j]?
   else cu sd dy base L0 ξ S j q
theorem wrG_iff {j q : Nat} : wrG sd base j q = true ↔ (sd.getD j default).1 = some q ∨ (lenG sd base j ≤ q ∧ q < lenG sd base (j + 1)):=by
 unfold wrG
 simp only [Bool.or_eq_true,Bool.and_eq_true,decide_eq_true_eq,beq_iff_eq]
theorem cu_no {j q : Nat} (h : ¬ (S j = true ∧ wrG sd base j q = true)) : cu sd dy base L0 ξ S (j + 1) q = cu sd dy base L0 ξ S j q:=by
 rw [wrG_iff] at h
 simp only [cu]
 rw [if_neg (fun x => h ⟨x.1,.inl x.2⟩),if_neg (fun x => h ⟨x.1,.inr x.2⟩)]
theorem lenG_mono {j : Nat} : ∀ k,j ≤ k → lenG sd base j ≤ lenG sd base k:=fun k h => by
 induction k with
 | zero =>
  have : j = 0:=by omega
  subst this; exact Nat.le_refl _
 | succ k ih =>
  by_cases e : j = k + 1
  ·subst e; exact Nat.le_refl _
  ·have:=ih (by omega)
   simp only [lenG]
   omega
theorem lx_spec (hb : L0.length = base) {k : Nat} (hwr : ∀ j i,j < k → (sd.getD j default).1 = some i → i < lenG sd base j) (hlen : ∀ j,j < k → ((dy.getD j default).made ξ).length = (sd.getD j default).2.1) :
  ∀ j,j ≤ k → (lx sd dy ξ L0 j).length = lenG sd base j ∧ ∀ q,(lx sd dy ξ L0 j)[q]? = cu sd dy base L0 ξ (fun _ => true) j q:=by
 intro j
 induction j with
 | zero => intro _; exact ⟨hb,fun q => rfl⟩
 | succ j ih =>
  intro hj
  obtain ⟨h1,h2⟩:=ih (by omega)
  have h3:=hlen j (by omega)
  have h4:=hwr j
  have key : ∀ L : List Res,L.length = lenG sd base j → (∀ q,L[q]? = if (sd.getD j default).1 = some q then some ((dy.getD j default).wp ξ) else cu sd dy base L0 ξ (fun _ => true) j q) →
    (L ++ (dy.getD j default).made ξ).length = lenG sd base (j + 1) ∧ ∀ q,(L ++ (dy.getD j default).made ξ)[q]? = cu sd dy base L0 ξ (fun _ => true) (j + 1) q:=by
   intro L hL hq
   refine ⟨by rw [List.length_append,hL,h3]; rfl,fun q => ?_⟩
   simp only [cu,true_and]
   by_cases e : (sd.getD j default).1 = some q
   ·have:=h4 q (by omega) e
    rw [if_pos e,List.getElem?_append_left (by omega),hq q,if_pos e]
   ·rw [if_neg e]
    by_cases hlt : q < lenG sd base j
    ·rw [if_neg (by omega),List.getElem?_append_left (by omega),hq q,if_neg e]
    ·rw [List.getElem?_append_right (by omega),hL]
     by_cases hlt2 : q < lenG sd base (j + 1)
     ·rw [if_pos ⟨by omega,hlt2⟩]
     ·rw [if_neg (by omega),List.getElem?_eq_none (by rw [h3]; simp only [lenG] at hlt2; omega),← h2 q,List.getElem?_eq_none (by omega)]
  simp only [lx,aftL]
  cases hw : (sd.getD j default).1 with
  | none => exact key _ h1 (fun q => by rw [hw,if_neg (by intro h; cases h),h2 q])
  | some i =>
   have hi:=h4 i (by omega) hw
   refine key _ (by rw [List.length_set]; exact h1) (fun q => ?_)
   rw [List.getElem?_set,hw,h2 q]
   by_cases e : i = q
   ·subst e
    rw [if_pos rfl,if_pos (by omega),if_pos rfl]
   ·rw [if_neg e,if_neg (by intro h; cases h; exact e rfl)]
theorem cu_lt (hb : L0.length = base) {k : Nat} (hwr : ∀ j i,j < k → (sd.getD j default).1 = some i → i < lenG sd base j) :
  ∀ j q p,j ≤ k → cu sd dy base L0 ξ S j q = some p → q < lenG sd base j:=by
 intro j
 induction j with
 | zero =>
  intro q p _ h
  have : q < L0.length:=(List.getElem?_eq_some_iff.1 h).1
  simp only [lenG]; omega
 | succ j ih =>
  intro q p hj h
  have hm : lenG sd base j ≤ lenG sd base (j + 1):=lenG_mono _ (by omega)
  simp only [cu] at h
  split at h
  ·rename_i h1
   have:=hwr j q (by omega) h1.2
   omega
  ·split at h
   ·rename_i h1
    exact h1.2.2
   ·have:=ih q p (by omega) h
    omega
theorem cu_mask {k q : Nat} (h : ∀ i,i < k → wrG sd base i q = true → S i = S' i) : cu sd dy base L0 ξ S k q = cu sd dy base L0 ξ S' k q:=by
 induction k with
 | zero => rfl
 | succ k ih =>
  have ih:=ih (fun i hi => h i (by omega))
  by_cases hw : wrG sd base k q = true
  ·have:=h k (by omega) hw
   simp only [cu,this,ih]
  ·rw [cu_no (fun x => hw x.2),cu_no (fun x => hw x.2),ih]
theorem cu_up {j q : Nat} : ∀ k,j ≤ k → (∀ i,j ≤ i → i < k → wrG sd base i q = true → S i = false) → cu sd dy base L0 ξ S k q = cu sd dy base L0 ξ S j q:=fun k hk h => by
 induction k with
 | zero =>
  have : j = 0:=by omega
  subst this; rfl
 | succ k ih =>
  by_cases e : j = k + 1
  ·subst e; rfl
  ·rw [cu_no (fun x => by have:=h k (by omega) (by omega) x.2; rw [this] at x; cases x.1)]
   exact ih (by omega) (fun i h1 h2 => h i h1 (by omega))
theorem cu_xi {k q : Nat} (h : ∀ i,i < k → S i = true → (dy.getD i default).wp ξ = (dy.getD i default).wp ξ' ∧ (dy.getD i default).made ξ = (dy.getD i default).made ξ') : cu sd dy base L0 ξ S k q = cu sd dy base L0 ξ' S k q:=by
 induction k with
 | zero => rfl
 | succ k ih =>
  have ih:=ih (fun i hi => h i (by omega))
  simp only [cu]
  by_cases hS : S k = true
  ·obtain ⟨h1,h2⟩:=h k (by omega) hS
   rw [h1,h2,ih]
  ·rw [if_neg (fun x => hS x.1),if_neg (fun x => hS x.1),if_neg (fun x => hS x.1),if_neg (fun x => hS x.1),ih]
theorem cu_put {j k q : Nat} (hj : j < k) (hS : S j = false) (hc : ∀ i,j < i → i < k → wrG sd base j q = true → wrG sd base i q = true → S i = false) :
  cu sd dy base L0 ξ (fun i => S i || i == j) k q = if (sd.getD j default).1 = some q then some ((dy.getD j default).wp ξ)
   else if lenG sd base j ≤ q ∧ q < lenG sd base (j + 1) then ((dy.getD j default).made ξ)[q - lenG sd base j]? else cu sd dy base L0 ξ S k q:=by
 by_cases hw : wrG sd base j q = true
 ·rw [cu_up (j:=j + 1) k (by omega) (fun i h1 h2 h3 => by
   have:=hc i (by omega) h2 hw h3
   have hne : (i == j) = false:=by simp; omega
   simp [this,hne])]
  simp only [cu,beq_self_eq_true,Bool.or_true,true_and]
  rw [wrG_iff] at hw
  split
  ·rfl
  ·rename_i h1
   rw [if_pos (hw.resolve_left h1),if_pos (hw.resolve_left h1)]
 ·have h1 : cu sd dy base L0 ξ (fun i => S i || i == j) k q = cu sd dy base L0 ξ S k q:=cu_mask (fun i hi hwi => by
   have hne : (i == j) = false:=by
    simp
    intro e
    subst e
    exact hw hwi
   simp [hne])
  rw [h1]
  rw [wrG_iff] at hw
  rw [if_neg (fun x => hw (.inl x)),if_neg (fun x => hw (.inr x))]
theorem chk_spec (h : chkG ops A sd base = true) : sd.length = ops.size ∧ ∀ j,j < ops.size →
  (∀ i,(sd.getD j default).1 = some i → i < lenG sd base j) ∧ (sd.getD j default).2.2.length = lenG sd base j ∧
  (∀ i o,ops[j]? = some o → dpG A j i = true → ∃ e ∈ o.after,Region.binds .any e = true ∧ (e.on = i ∨ dpG A e.on i = true)) ∧
  ∀ i q,i < ops.size → i ≠ j → q < lenG sd base ops.size → wrG sd base i q = true → (wrG sd base j q = true → dpG A j i = true ∨ dpG A i j = true) ∧ ((sd.getD j default).2.2.getD q false = true → if i < j then dpG A j i = true else dpG A i j = true):=by
 unfold chkG at h
 simp only [Bool.and_eq_true,decide_eq_true_eq] at h
 refine ⟨h.1,fun j hj => ?_⟩
 have h1:=List.all_eq_true.1 h.2 j (List.mem_range.2 hj)
 simp only [Bool.and_eq_true,decide_eq_true_eq] at h1
 obtain ⟨⟨⟨h2,h3⟩,h4⟩,h5⟩:=h1
 refine ⟨fun i hi => ?_,h3,fun i o ho hd => ?_,fun i q hi hne hq hw => ?_⟩
 ·rw [hi] at h2
  simpa using h2
 ·unfold dpG at hd
  have hm : i ∈ A.getD j []:=by simpa using hd
  have h6:=List.all_eq_true.1 h4 i hm
  simp only [ho] at h6
  rw [Array.any_eq_true] at h6
  obtain ⟨t,ht,h7⟩:=h6
  simp only [Bool.and_eq_true,Bool.or_eq_true,beq_iff_eq] at h7
  exact ⟨o.after[t],Array.getElem_mem ht,h7.1,h7.2⟩
 ·have h6:=List.all_eq_true.1 h5 i (List.mem_range.2 hi)
  rw [Bool.or_eq_true,decide_eq_true_eq] at h6
  have h7:=List.all_eq_true.1 (h6.resolve_left hne) q (List.mem_range.2 hq)
  rw [hw] at h7
  simp only [Bool.not_true,Bool.false_or,Bool.and_eq_true,Bool.or_eq_true,Bool.not_eq_true'] at h7
  obtain ⟨h8,h9⟩:=h7
  refine ⟨fun h10 => ?_,fun h10 => ?_⟩
  ·rcases h8 with (h8 | h8) | h8
   ·rw [h10] at h8; cases h8
   ·exact .inl h8
   ·exact .inr h8
  ·have h9:=h9.resolve_left (by rw [h10]; simp)
   split
   ·rename_i hlt; rw [if_pos hlt] at h9; exact h9
   ·rename_i hlt; rw [if_neg hlt] at h9; exact h9
theorem dp_closed (hO : orderB ops = true) (hA : ∀ j i o,j < ops.size → ops[j]? = some o → dpG A j i = true → ∃ e ∈ o.after,Region.binds .any e = true ∧ (e.on = i ∨ dpG A e.on i = true))
  (hcl : ∀ j oj,ops[j]? = some oj → S j = true → ∀ e ∈ oj.after,Region.binds .any e = true → S e.on = true) : ∀ (j i : Nat),j < ops.size → S j = true → dpG A j i = true → S i = true:=by
 intro j
 induction j using Nat.strongRecOn with
 | _ j ih =>
  intro i hj hS hd
  obtain ⟨o,ho⟩ : ∃ o,ops[j]? = some o:=⟨_,Array.getElem?_eq_some_iff.2 ⟨hj,rfl⟩⟩
  obtain ⟨e,he,hb,h1⟩:=hA j i o hj ho hd
  have h2:=hcl j o ho hS e he hb
  have h3:=(orderB_spec hO ho).2.2.1 e he hb
  rcases h1 with rfl | h1
  ·exact h2
  ·exact ih e.on h3 i (by omega) h2 h1
theorem wp_drawsG {l : List Oper} (A : List (List Nat)) (sd : List Sd) (dy : List Dyn) (base : Nat) (hm : P.follows .mixedOrders = true) (hO : orderB l.toArray = true) (hC : chkG l.toArray A sd base = true) (hI : IndA A 0 sd dy) (hb : L0.length = base) {id : Nat} {a0 : Act} {W0 : World}
  (h0 : Ext w0 { W0 with drawn:=W0.drawn + 1 } L0)
  (hG : ∀ ξ,GW r n P l.toArray w0 ξ (fun L a => ∀ W,Ext w0 W L → Q .normal a W) 0 l sd dy L0 a0) : (Code.region id l.toArray true).wpIn (Fw r) n P Q a0 W0:=by
 refine wpIn_region_any hm ?_
 obtain ⟨ops,hops⟩ : ∃ ops,ops = l.toArray:=⟨_,rfl⟩
 rw [← hops] at hO hC hG ⊢
 obtain ⟨hsl,hck⟩:=chk_spec hC
 obtain ⟨hdl,hind⟩:=ind_spec sd dy 0 hI
 have hN : ops.size = l.length:=by rw [hops]; simp
 obtain ⟨k,hk⟩ : ∃ k,k = ops.size:=⟨_,rfl⟩
 have hwr : ∀ j i,j < k → (sd.getD j default).1 = some i → i < lenG sd base j:=fun j i hj => (hck j (by omega)).1 i
 have hlen : ∀ ξ j,j < k → ((dy.getD j default).made ξ).length = (sd.getD j default).2.1:=fun ξ j hj => (hind j (by omega)).2 ξ
 have hA : ∀ j i o,j < ops.size → ops[j]? = some o → dpG A j i = true → ∃ e ∈ o.after,Region.binds .any e = true ∧ (e.on = i ∨ dpG A e.on i = true):=fun j i o hj => (hck j hj).2.2.1 i o
 have hlxs:=fun ξ => lx_spec (ξ:=ξ) hb (k:=k) hwr (hlen ξ)
 have hgw:=fun ξ => gw_spec (r:=r) (n:=n) (P:=P) (w0:=w0) (ξ:=ξ) (K:=fun L a => ∀ W,Ext w0 W L → Q .normal a W) (L0:=L0) (a0:=a0) hops (sd:=sd) (dy:=dy) (by omega) (by omega) l.length 0 (by omega) (by
  rw [List.drop_zero,List.drop_zero,List.drop_zero]
  exact hG ξ)
 have main : ∀ (c : Nat) (listed : Array Bool) (ξ : Nat → Xo) (W : World),ExtF w0 W (cu sd dy base L0 ξ (fun j => listed.getD j false) k) → listed.size = k → left listed k = c →
   (∀ j oj,ops[j]? = some oj → listed.getD j false = true → ∀ e ∈ oj.after,Region.binds .any e = true → listed.getD e.on false = true) →
   wpAnyIn (Fw r) n P .any ops Q c listed (stA ops (vaG dy ξ) a0 (fun j => listed.getD j false) k) W:=by
  intro c
  induction c with
  | zero =>
   intro listed ξ W hE hsz hc hcl
   have hall:=left_zero hc
   refine ⟨?_,?_⟩
   ·apply List.eq_nil_iff_forall_not_mem.2
    intro i hi
    obtain ⟨hun,o,ho,_⟩:=mem_ready.1 hi
    have hi' : i < ops.size:=(Array.getElem?_eq_some_iff.1 ho).1
    rw [getD_bool (by omega) true false,hall i (by omega)] at hun
    cases hun
   ·have e1 : ∀ m,m ≤ k → stA ops (vaG dy ξ) a0 (fun j => listed.getD j false) m = stA ops (vaG dy ξ) a0 (fun _ => true) m:=by
     intro m
     induction m with
     | zero => intro _; rfl
     | succ m ih =>
      intro hm
      show (if listed.getD m false = true then _ else _) = (if true = true then _ else _)
      rw [if_pos (hall m (by omega)),if_pos rfl,ih (by omega)]
    rw [e1 k (Nat.le_refl _)]
    have h3:=(hgw ξ).2 W (by
     refine ExtF.to ?_
     have e2 : (fun i => (lx sd dy ξ L0 l.length)[i]?) = cu sd dy base L0 ξ (fun j => listed.getD j false) k:=funext fun q => by
      rw [← hN,← hk,(hlxs ξ k (Nat.le_refl _)).2 q]
      exact cu_mask (fun i hi _ => (hall i hi).symm)
     rw [e2]
     exact hE)
    rw [hk,hN]
    exact h3
  | succ c ih =>
   intro listed ξ W hE hsz hc hcl
   have hrdy : ∀ j,j < ops.size → listed.getD j false = false → ∃ i,i ∈ Region.ready .any ops listed:=by
    intro j
    induction j using Nat.strongRecOn with
    | _ j ihj =>
     intro hj hun
     obtain ⟨o,ho⟩ : ∃ o,ops[j]? = some o:=⟨_,Array.getElem?_eq_some_iff.2 ⟨hj,rfl⟩⟩
     by_cases hall : ∀ e ∈ o.after,Region.binds .any e = true → listed.getD e.on false = true
     ·exact ⟨j,mem_ready.2 ⟨by rw [getD_bool (by omega) true false]; exact hun,o,ho,hall⟩⟩
     ·have : ∃ e ∈ o.after,Region.binds .any e = true ∧ listed.getD e.on false = false:=by
       apply Classical.byContradiction
       intro hno
       exact hall fun e he hb => by
        cases hl : listed.getD e.on false with
        | true => rfl
        | false => exact absurd ⟨e,he,hb,hl⟩ hno
      obtain ⟨e,he,hb,hf⟩:=this
      have hlt:=(orderB_spec hO ho).2.2.1 e he hb
      exact ihj e.on hlt (by omega) hf
   have hex : ∃ j,j < k ∧ listed.getD j false = false:=by
    apply Classical.byContradiction
    intro hno
    have : left listed k = 0:=by
     unfold left
     rw [List.length_eq_zero_iff,List.filter_eq_nil_iff]
     intro j hj
     have hj':=List.mem_range.1 hj
     cases hl : listed.getD j false with
     | true => simp
     | false => exact absurd ⟨j,hj',hl⟩ hno
    omega
   obtain ⟨j1,hj1,hf1⟩:=hex
   obtain ⟨i1,hi1⟩:=hrdy j1 (by omega) hf1
   refine ⟨fun h => (by rw [h] at hi1; cases hi1),fun i hi => ?_⟩
   obtain ⟨hun,o,ho,hall⟩:=mem_ready.1 hi
   have hiN : i < k:=by rw [hk]; exact (Array.getElem?_eq_some_iff.1 ho).1
   have hun':=hun
   rw [getD_bool (by omega) true false] at hun'
   have hl:=left_set (by omega) hun' k hiN
   have hfs : (fun j => (listed.setIfInBounds i true).getD j false) = fun j => listed.getD j false || j == i:=funext fun j => getD_set (by omega)
   have hcl' : ∀ j oj,ops[j]? = some oj → (listed.setIfInBounds i true).getD j false = true → ∀ e ∈ oj.after,Region.binds .any e = true → (listed.setIfInBounds i true).getD e.on false = true:=fun j oj hoj hlj e he hb => by
    rw [getD_set (by omega)] at hlj ⊢
    by_cases e' : j = i
    ·subst e'
     rw [ho] at hoj; cases hoj
     rw [hall e he hb]; rfl
    ·have : (j == i) = false:=by simpa using e'
     rw [this,Bool.or_false] at hlj
     rw [hcl j oj hoj hlj e he hb]; rfl
   obtain ⟨hsel,hdef,haft,hord⟩:=orderB_spec hO ho
   have hclos:=dp_closed (S:=fun j => listed.getD j false) hO hA hcl
   have hready : ∀ i',dpG A i i' = true → listed.getD i' false = true:=fun i' hd => by
    obtain ⟨e,he,hbd,h1⟩:=hA i i' o (by omega) ho hd
    have h2:=hall e he hbd
    rcases h1 with rfl | h1
    ·exact h2
    ·exact hclos e.on i' (by have:=haft e he hbd; omega) h2 h1
   have hlater : ∀ j,j < k → dpG A j i = true → listed.getD j false = false:=fun j hj hd => by
    cases hs : listed.getD j false with
    | false => rfl
    | true =>
     have h9 : listed.getD i false = true:=hclos j i (by omega) hs hd
     rw [hun'] at h9; cases h9
   have hxi : ∀ x j,j < k → listed.getD j false = true → ∀ i',(i' = 0 + j ∨ dpG A (0 + j) i' = true) → ξ i' = updX ξ i x i':=fun x j hj hs i' h => by
    unfold updX
    rw [if_neg]
    intro e
    subst e
    rw [Nat.zero_add] at h
    rcases h with rfl | h
    ·rw [hun'] at hs; cases hs
    ·have:=hlater j hj h
     rw [hs] at this; cases this
   have hval : ∀ x j,j < k → listed.getD j false = true → vaG dy ξ j = vaG dy (updX ξ i x) j:=fun x j hj hs => ((hind j (by omega)).1 _ _ (hxi x j hj hs)).1
   have hcux : ∀ x q,cu sd dy base L0 ξ (fun j => listed.getD j false) k q = cu sd dy base L0 (updX ξ i x) (fun j => listed.getD j false) k q:=fun x q => cu_xi (fun j hj hs => ((hind j (by omega)).1 _ _ (hxi x j hj hs)).2)
   have hlook : ∀ j,j < k → listed.getD j false ≠ decide (j < i) → ∀ d,dstA ops j = some d → ¬ d ∈ o.looksAt ops:=by
    intro j hj hne d hd hmem
    obtain ⟨oj,hoj⟩ : ∃ oj,ops[j]? = some oj:=⟨_,Array.getElem?_eq_some_iff.2 ⟨by omega,rfl⟩⟩
    have hdj : oj.dst = some d:=by simpa [dstA,hoj] using hd
    rcases Nat.lt_trichotomy j i with h | h | h
    ·have hl : listed.getD j false = false:=by
      cases hl : listed.getD j false with
      | false => rfl
      | true => exact absurd (by rw [hl]; simp [h]) hne
     rcases hord j oj h hoj with hap | ⟨e,he,hb,hon⟩
     ·exact (Oper.apart_spec hap).1 d hdj hmem
     ·have:=hall e he hb
      rw [hon,hl] at this; cases this
    ·subst h
     exact absurd (by rw [hun']; simp) hne
    ·have hl : listed.getD j false = true:=by
      cases hl : listed.getD j false with
      | true => rfl
      | false => exact absurd (by rw [hl]; simp; omega) hne
     rcases (orderB_spec hO hoj).2.2.2 i o h ho with hap | ⟨e,he,hb,hon⟩
     ·exact (Oper.apart_spec hap).2.2 d hdj hmem
     ·have:=hcl j oj hoj hl e he hb
      rw [hon,hun'] at this; cases this
   have hag:=stA_agree (ops:=ops) (vaG dy ξ) a0 (fun x => x ∈ o.looksAt ops) (fun j => listed.getD j false) (fun j => decide (j < i)) k hlook
   have hlex : stA ops (vaG dy ξ) a0 (fun j => decide (j < i)) k = stA ops (vaG dy ξ) a0 (fun _ => true) i:=by
    have h1 : ∀ m,m ≤ i → stA ops (vaG dy ξ) a0 (fun j => decide (j < i)) m = stA ops (vaG dy ξ) a0 (fun _ => true) m:=by
     intro m
     induction m with
     | zero => intro _; rfl
     | succ m ih => intro hm; simp only [stA]; rw [ih (by omega)]; simp; omega
    have h2 : ∀ m,i ≤ m → stA ops (vaG dy ξ) a0 (fun j => decide (j < i)) m = stA ops (vaG dy ξ) a0 (fun j => decide (j < i)) i:=by
     intro m
     induction m with
     | zero =>
      intro h
      have : i = 0:=by omega
      subst this; rfl
     | succ m ih =>
      intro hm
      by_cases e : i = m + 1
      ·rw [e]
      ·simp only [stA]
       rw [if_neg (by simp; omega)]
       exact ih (by omega)
    rw [h2 k (by omega),h1 i (Nat.le_refl _)]
   rw [hlex] at hag
   obtain ⟨hev,hwa⟩:=looks_same (ops:=ops) (o:=o) (a:=stA ops (vaG dy ξ) a0 (fun j => listed.getD j false) k) (b:=stA ops (vaG dy ξ) a0 (fun _ => true) i) hag.1
   have hput : ∀ ξ',(∀ j,j < k → listed.getD j false = true → vaG dy ξ j = vaG dy ξ' j) → (stA ops (vaG dy ξ) a0 (fun j => listed.getD j false) k).put o.dst ((dy.getD i default).val ξ') = stA ops (vaG dy ξ') a0 (fun j => listed.getD j false || j == i) k:=fun ξ' h => by
    rw [stA_insert (ops:=ops) (vaG dy ξ') a0 (fun j => listed.getD j false) i hun' k hiN (fun j h1 h2 h3 d h4 h5 => by
     obtain ⟨oj,hoj⟩ : ∃ oj,ops[j]? = some oj:=⟨_,Array.getElem?_eq_some_iff.2 ⟨by omega,rfl⟩⟩
     have hdj : oj.dst = some d:=by simpa [dstA,hoj] using h4
     have hdi : o.dst = some d:=by simpa [dstA,ho] using h5
     rcases (orderB_spec hO hoj).2.2.2 i o h1 ho with hap | ⟨e,he,hb,hon⟩
     ·exact (Oper.apart_spec hap).2.1 d hdi hdj
     ·have:=hcl j oj hoj h3 e he hb
      rw [hon,hun'] at this; cases this)]
    have e9 : ∀ m,m ≤ k → stA ops (vaG dy ξ) a0 (fun j => listed.getD j false) m = stA ops (vaG dy ξ') a0 (fun j => listed.getD j false) m:=by
     intro m
     induction m with
     | zero => intro _; rfl
     | succ m ih =>
      intro hm
      simp only [stA]
      rw [ih (by omega)]
      split
      ·rename_i hs
       rw [h m (by omega) hs]
      ·rfl
    have e8 : dstA ops i = o.dst:=by simp [dstA,ho]
    rw [e9 k (Nat.le_refl _),e8]
    rfl
   have hLk : ∀ j,j ≤ k → lenG sd base j ≤ lenG sd base k:=fun j hj => lenG_mono k hj
   rcases (hgw ξ).1 i o (Nat.zero_le _) ho with ⟨hw,hob⟩ | ⟨hw,hv,hn1,hn2⟩
   ·unfold wpOpIn
    simp only [ho]
    rw [hwa,if_pos hw]
    obtain ⟨msk,hmsk⟩ : ∃ msk,msk = (sd.getD i default).2.2:=⟨_,rfl⟩
    obtain ⟨LL,hLL⟩ : ∃ LL,LL = lx sd dy ξ L0 i:=⟨_,rfl⟩
    obtain ⟨len,hlenD⟩ : ∃ len,len = lenG sd base i:=⟨_,rfl⟩
    obtain ⟨LEN,hLEN⟩ : ∃ LEN,LEN = lenG sd base k:=⟨_,rfl⟩
    have hmlen : msk.length = len:=by rw [hmsk,hlenD]; exact (hck i (by omega)).2.1
    have hLlen : LL.length = len:=by rw [hLL,hlenD]; exact (hlxs ξ i (by omega)).1
    have hle : len ≤ LEN:=by rw [hlenD,hLEN]; exact hLk i (by omega)
    obtain ⟨f,hf⟩ : ∃ f,f = cu sd dy base L0 ξ (fun j => listed.getD j false) k:=⟨_,rfl⟩
    have hflt : ∀ q p,f q = some p → q < LEN:=fun q p h => by rw [hf] at h; rw [hLEN]; exact cu_lt hb hwr k q p (Nat.le_refl _) h
    have hmeq : ∀ q,q < len → msk.getD q false = true → LL[q]? = f q:=by
     intro q hq hmq
     rw [hLL,hf,(hlxs ξ i (by omega)).2 q]
     have hc4:=fun j (hj : j < ops.size) (hne : j ≠ i) => (hck i (by omega)).2.2.2 j q hj hne (by rw [← hk,← hLEN]; omega)
     rw [cu_mask (S:=fun _ => true) (S':=fun j => listed.getD j false) (fun j hj hwj => by
      have:=(hc4 j (by omega) (by omega) hwj).2 (by rw [← hmsk]; exact hmq)
      rw [if_pos hj] at this
      exact (hready j this).symm)]
     refine (cu_up k (by omega) (fun j h1 h2 hwj => ?_)).symm
     by_cases e : j = i
     ·subst e; exact hun'
     ·have:=(hc4 j (by omega) e hwj).2 (by rw [← hmsk]; exact hmq)
      rw [if_neg (by omega)] at this
      exact hlater j h2 this
    obtain ⟨L2,hL2⟩ : ∃ L2,L2 = (List.range LEN).map fun q => if q < len ∧ msk.getD q false = true then noR else (f q).getD noR:=⟨_,rfl⟩
    have hL2len : L2.length = LEN:=by rw [hL2]; simp
    have hL2get : ∀ q,q < LEN → L2[q]? = some (if q < len ∧ msk.getD q false = true then noR else (f q).getD noR):=fun q hq => by
     rw [hL2]; simp [hq]
    have hMlen : (maskL LL msk).length = len:=by rw [maskL_len _ _ (by omega)]; exact hLlen
    have hMget : ∀ q,q < len → msk.getD q false = true → (maskL LL msk ++ L2)[q]? = f q:=fun q hq hmq => by
     rw [List.getElem?_append_left (by omega),maskL_get _ _ _ (by omega),← hmeq q hq hmq]
     cases LL[q]? with
     | none => rfl
     | some p => simp only [Option.map_some]; rw [if_pos hmq]
    have hRget : ∀ q,q < LEN → (maskL LL msk ++ L2)[len + q]? = some (if q < len ∧ msk.getD q false = true then noR else (f q).getD noR):=fun q hq => by
     rw [List.getElem?_append_right (by omega),hMlen,show len + q - len = q by omega]
     exact hL2get q hq
    have hcls : ∀ q p,(maskL LL msk ++ L2)[q]? = some p → p = noR ∨ (q < len ∧ msk.getD q false = true ∧ f q = some p) ∨ (len ≤ q ∧ ¬ (q - len < len ∧ msk.getD (q - len) false = true) ∧ f (q - len) = some p):=by
     intro q p hp
     by_cases hq : q < len
     ·by_cases hmq : msk.getD q false = true
      ·rw [hMget q hq hmq] at hp
       exact .inr (.inl ⟨hq,hmq,hp⟩)
      ·rw [List.getElem?_append_left (by omega),maskL_get _ _ _ (by omega)] at hp
       obtain ⟨p0,_,h2⟩:=Option.map_eq_some_iff.1 hp
       rw [if_neg hmq] at h2
       exact .inl h2.symm
     ·have hlt : q - len < LEN:=by
       have:=(List.getElem?_eq_some_iff.1 hp).1
       rw [List.length_append,hMlen,hL2len] at this
       omega
      have h3:=hRget (q - len) hlt
      rw [show len + (q - len) = q by omega,hp] at h3
      have h3:=Option.some.inj h3
      split at h3
      ·exact .inl h3
      ·rename_i h4
       cases hfq : f (q - len) with
       | none => rw [hfq] at h3; exact .inl h3
       | some p1 => rw [hfq] at h3; exact .inr (.inr ⟨by omega,h4,by rw [h3]; rfl⟩)
    have hEx : Ext w0 W (maskL LL msk ++ L2):=by
     refine ExtF.to (hE.map (fun q => if q < len then q else q - len) (fun q p hp => ?_) (fun q q' p p' hp hp' hne => ?_))
     ·rcases hcls q p hp with h | ⟨h1,h2,h3⟩ | ⟨h1,h2,h3⟩
      ·exact .inl h
      ·rw [if_pos h1,← hf]; exact .inr h3
      ·rw [if_neg (by omega),← hf]; exact .inr h3
     ·rcases hcls q p hp with h | ⟨h1,h2,h3⟩ | ⟨h1,h2,h3⟩
      ·exact .inl h
      ·rcases hcls q' p' hp' with h' | ⟨h1',h2',h3'⟩ | ⟨h1',h2',h3'⟩
       ·exact .inr (.inl h')
       ·rw [if_pos h1,if_pos h1',← hf]; exact .inr (.inr ⟨h3,h3',hne⟩)
       ·rw [if_pos h1,if_neg (by omega),← hf]
        exact .inr (.inr ⟨h3,h3',fun e => h2' (by rw [← e]; exact ⟨h1,h2⟩)⟩)
      ·rcases hcls q' p' hp' with h' | ⟨h1',h2',h3'⟩ | ⟨h1',h2',h3'⟩
       ·exact .inr (.inl h')
       ·rw [if_neg (by omega),if_pos h1',← hf]
        exact .inr (.inr ⟨h3,h3',fun e => h2 (by rw [e]; exact ⟨h1',h2'⟩)⟩)
       ·rw [if_neg (by omega),if_neg (by omega),← hf]; exact .inr (.inr ⟨h3,h3',by omega⟩)
    refine wpIn_moveG (j:=i) (s:=sd.getD i default) (dd:=dy.getD i default) (ξ:=ξ) (L:=maskL LL msk ++ L2) (a:=stA ops (vaG dy ξ) a0 (fun _ => true) i) hsel hdef (fun x hx => (hev x hx).symm) (by rw [stA_sizeU,stA_sizeU]) (by
     have:=hob L2 W (by rw [← hLL,← hmsk]; exact hEx)
     rw [← hLL,← hmsk] at this
     exact this) ?_
    intro x W' hE'
    rw [hput (updX ξ i x) (hval x)]
    have hnew : ExtF w0 W' (cu sd dy base L0 (updX ξ i x) (fun j => listed.getD j false || j == i) k):=by
     have hcp : ∀ q,cu sd dy base L0 (updX ξ i x) (fun j => listed.getD j false || j == i) k q = _:=fun q => cu_put (S:=fun j => listed.getD j false) hiN hun' (fun j h1 h2 h3 h4 => by
      have hq : q < lenG sd base ops.size:=by
       rw [← hk]
       rw [wrG_iff] at h3
       rcases h3 with h3 | h3
       ·have:=hwr i q hiN h3
        have:=hLk i (by omega)
        omega
       ·have:=hLk (i + 1) (by omega)
        omega
      rcases ((hck i (by omega)).2.2.2 j q (by omega) (by omega) hq h4).1 h3 with h5 | h5
      ·obtain ⟨e,he,hbd,h6⟩:=hA i j o (by omega) ho h5
       have h7:=haft e he hbd
       have h8:=hready j h5
       exfalso
       have h9 : ∀ (a b : Nat),a < ops.size → dpG A a b = true → b < a:=by
        intro a
        induction a using Nat.strongRecOn with
        | _ a iha =>
         intro b ha hd
         obtain ⟨oa,hoa⟩ : ∃ oa,ops[a]? = some oa:=⟨_,Array.getElem?_eq_some_iff.2 ⟨ha,rfl⟩⟩
         obtain ⟨e,he,hbd,h6⟩:=hA a b oa ha hoa hd
         have h7:=(orderB_spec hO hoa).2.2.1 e he hbd
         rcases h6 with rfl | h6
         ·exact h7
         ·have:=iha e.on h7 b (by omega) h6
          omega
       have:=h9 i j (by omega) h5
       omega
      ·exact hlater j h2 h5)
     obtain ⟨wr,hwrD⟩ : ∃ wr,wr = (sd.getD i default).1:=⟨_,rfl⟩
     obtain ⟨Lm,hLm⟩ : ∃ Lm,Lm = (match wr with | some i' => (maskL LL msk ++ L2).set i' ((dy.getD i default).wp (updX ξ i x)) | none => (maskL LL msk ++ L2)):=⟨_,rfl⟩
     have hwl : ∀ q,wr = some q → q < len:=fun q h => by rw [hlenD]; exact hwr i q hiN (by rw [← hwrD]; exact h)
     have hLmlen : Lm.length = len + LEN:=by
      rw [hLm]
      cases wr <;> simp [hMlen,hL2len]
     have hLmget : ∀ t,t < len + LEN → Lm[t]? = if wr = some t then some ((dy.getD i default).wp (updX ξ i x)) else (maskL LL msk ++ L2)[t]?:=by
      intro t ht
      rw [hLm]
      cases hw9 : wr with
      | none => rw [if_neg (by intro h; cases h)]
      | some i' =>
       simp only []
       rw [List.getElem?_set]
       by_cases e : i' = t
       ·subst e
        rw [if_pos rfl,if_pos (by rw [List.length_append,hMlen,hL2len]; omega),if_pos rfl]
       ·rw [if_neg e,if_neg (by intro h; cases h; exact e rfl)]
     have hE2 : Ext w0 W' (Lm ++ (dy.getD i default).made (updX ξ i x)):=by
      rw [hLm,hwrD]; exact hE'
     have hl1 : lenG sd base (i + 1) = len + (sd.getD i default).2.1:=by rw [hlenD]; rfl
     refine (ExtF.of hE2).map (fun q => if wr = some q then q else if len ≤ q ∧ q < lenG sd base (i + 1) then len + LEN + (q - len) else if q < len ∧ msk.getD q false = true then q else len + q) (fun q p hp => .inr ?_) (fun q q' p p' hp hp' hne => .inr (.inr ⟨?_,?_,?_⟩))
     all_goals
      have hget : ∀ q p,cu sd dy base L0 (updX ξ i x) (fun j => listed.getD j false || j == i) k q = some p → (Lm ++ (dy.getD i default).made (updX ξ i x))[if wr = some q then q else if len ≤ q ∧ q < lenG sd base (i + 1) then len + LEN + (q - len) else if q < len ∧ msk.getD q false = true then q else len + q]? = some p ∧ q < LEN:=by
       intro q p hp
       rw [hcp q,← hwrD,← hlenD] at hp
       by_cases h1 : wr = some q
       ·have:=hwl q h1
        rw [if_pos h1] at hp
        rw [if_pos h1,List.getElem?_append_left (by omega),hLmget q (by omega),if_pos h1]
        exact ⟨hp,by omega⟩
       ·rw [if_neg h1] at hp
        rw [if_neg h1]
        by_cases h2 : len ≤ q ∧ q < lenG sd base (i + 1)
        ·rw [if_pos h2] at hp
         rw [if_pos h2,List.getElem?_append_right (by omega),hLmlen,show len + LEN + (q - len) - (len + LEN) = q - len by omega]
         have:=hLk (i + 1) (by omega)
         exact ⟨hp,by omega⟩
        ·rw [if_neg h2,← hcux x q,← hf] at hp
         have hq:=hflt q p hp
         rw [if_neg h2]
         by_cases h3 : q < len ∧ msk.getD q false = true
         ·rw [if_pos h3,List.getElem?_append_left (by omega),hLmget q (by omega),if_neg h1,hMget q h3.1 h3.2]
          exact ⟨hp,hq⟩
         ·rw [if_neg h3,List.getElem?_append_left (by omega),hLmget (len + q) (by omega),if_neg (fun h => by have:=hwl _ h; omega),hRget q hq,if_neg h3,hp]
          exact ⟨rfl,hq⟩
     ·exact (hget q p hp).1
     ·exact (hget q p hp).1
     ·exact (hget q' p' hp').1
     ·have h1:=(hget q p hp).2
      have h2:=(hget q' p' hp').2
      have ht : ∀ q,((if wr = some q then q else if len ≤ q ∧ q < lenG sd base (i + 1) then len + LEN + (q - len) else if q < len ∧ msk.getD q false = true then q else len + q) = q ∧ q < len) ∨
        ((if wr = some q then q else if len ≤ q ∧ q < lenG sd base (i + 1) then len + LEN + (q - len) else if q < len ∧ msk.getD q false = true then q else len + q) = len + LEN + (q - len) ∧ len ≤ q) ∨
        (if wr = some q then q else if len ≤ q ∧ q < lenG sd base (i + 1) then len + LEN + (q - len) else if q < len ∧ msk.getD q false = true then q else len + q) = len + q:=by
       intro q
       by_cases a1 : wr = some q
       ·rw [if_pos a1]; exact .inl ⟨rfl,hwl q a1⟩
       ·rw [if_neg a1]
        by_cases a2 : len ≤ q ∧ q < lenG sd base (i + 1)
        ·rw [if_pos a2]; exact .inr (.inl ⟨rfl,a2.1⟩)
        ·rw [if_neg a2]
         by_cases a3 : q < len ∧ msk.getD q false = true
         ·rw [if_pos a3]; exact .inl ⟨rfl,a3.1⟩
         ·rw [if_neg a3]; exact .inr (.inr rfl)
      intro he
      rcases ht q with ⟨b1,b2⟩ | ⟨b1,b2⟩ | b1 <;> rcases ht q' with ⟨c1,c2⟩ | ⟨c1,c2⟩ | c1 <;> rw [b1,c1] at he <;> omega
    have:=ih (listed.setIfInBounds i true) (updX ξ i x) W' (by rw [hfs]; exact hnew) (by simpa using hsz) (by omega) hcl'
    rw [hfs] at this
    exact this
   ·unfold wpOpIn
    simp only [ho]
    rw [hwa,if_neg (by rw [hw]; simp)]
    refine ⟨fun _ _ => trivial,?_⟩
    have hp:=hput ξ (fun _ _ _ => rfl)
    rw [hv ξ] at hp
    rw [hp]
    have:=ih (listed.setIfInBounds i true) ξ W (by
     rw [hfs]
     have e7 : cu sd dy base L0 ξ (fun j => listed.getD j false || j == i) k = cu sd dy base L0 ξ (fun j => listed.getD j false) k:=funext fun q => cu_mask (fun j hj hwj => by
      have hne : (j == i) = false:=by
       simp
       intro e
       subst e
       rw [wrG_iff,hn1] at hwj
       simp only [lenG,hn2] at hwj
       rcases hwj with h | h
       ·cases h
       ·omega
      simp [hne])
     rw [e7]
     exact hE) (by simpa using hsz) (by omega) hcl'
    rw [hfs] at this
    exact this
 have e1 : left (Array.replicate ops.size false) k = k:=by
  unfold left
  rw [List.filter_eq_self.2 fun j hj => ?_]
  ·simp
  ·have:=List.mem_range.1 hj
   simp [show j < ops.size by omega]
 have hrep : ∀ j,(Array.replicate ops.size false).getD j false = false:=fun j => by
  rw [Array.getD_eq_getD_getElem?,Array.getElem?_replicate]
  split <;> rfl
 have hfin:=main k (Array.replicate ops.size false) (fun _ _ => (none,0,0,[],noR)) _ (by
  have e3 : cu sd dy base L0 (fun _ _ => (none,0,0,[],noR)) (fun j => (Array.replicate ops.size false).getD j false) k = fun i => L0[i]?:=funext fun q => cu_up (j:=0) k (Nat.zero_le _) (fun i _ _ _ => hrep i)
  rw [e3]
  exact ExtF.of h0) (by simp [hk]) e1 (fun j oj hoj hl => by rw [hrep j] at hl; cases hl)
 have e2 : ∀ m,stA ops (vaG dy (fun _ _ => (none,0,0,[],noR))) a0 (fun j => (Array.replicate ops.size false).getD j false) m = a0:=by
  intro m
  induction m with
  | zero => rfl
  | succ m ih => simp only [stA]; rw [ih,if_neg (by rw [hrep m]; simp)]
 rw [e2 k,hk] at hfin
 exact hfin
end
open Go.RowKit (Below)
section
variable {r : Option Nat} {n : Nat} {P : Program} {ops : Array Oper} {Q : Exit → Act → World → Prop} {w0 : World} {L : List Res} {m : Nat} {tm : Nat → Value} {d : List Deferred} {ξ : Nat → Xo}
variable {t : Tmp} {ty : TypeId} {pos : String} {af : Array Edge} {g : Option (Nat × Bool)} {os : List Oper} {s : Sd} {dd : Dyn} {ss : List Sd} {ds : List Dyn} {j : Nat}
def GX (r : Option Nat) (n : Nat) (P : Program) (ops : Array Oper) (Q : Exit → Act → World → Prop) (w0 : World) (ξ : Nat → Xo) (j : Nat) (os : List Oper) (ss : List Sd) (ds : List Dyn) (L : List Res) (m : Nat) (tm : Nat → Value) (d : List Deferred) : Prop :=
 GW r n P ops w0 ξ (fun L a => ∀ W,Ext w0 W L → Q .normal a W) j os ss ds L (act m tm d)
theorem cx_drawsG (A : List (List Nat)) (sd : List Sd) (dy : List Dyn) (base : Nat) {id : Nat} {l : List Oper} (hm : P.follows .mixedOrders = true) (hO : orderB l.toArray = true) (hC : chkG l.toArray A sd base = true) (hI : IndA A 0 sd dy) (hb : L.length = base)
  (h : ∀ ξ,GX r n P l.toArray Q w0 ξ 0 l sd dy L m tm d) : CX r n P (.region id l.toArray true) Q w0 L m tm d :=
 fun _ hW => wp_drawsG A sd dy base hm hO hC hI hb hW.drawn h
theorem gx_nil (h : EX Q .normal w0 L m tm d) : GX r n P ops Q w0 ξ j [] [] [] L m tm d:=h
theorem gx_o {op : Op} (hw : seesB ops m tm ⟨some t,op,ty,pos,af,g⟩ = true)
  (hop : ∀ L2,OX r n P ops (obQ w0 j s dd ξ (some t) (maskL L s.2.2 ++ L2) (act m tm d)) w0 (maskL L s.2.2 ++ L2) [⟨some t,op,ty,pos,af,g⟩] m tm d)
  (h : GX r n P ops Q w0 ξ (j + 1) os ss ds (aftL s dd ξ L) m (upd tm t (dd.val ξ)) d) : GX r n P ops Q w0 ξ j (⟨some t,op,ty,pos,af,g⟩ :: os) (s :: ss) (dd :: ds) L m tm d:=by
 unfold GX GW
 refine ⟨.inl ⟨by rw [wanted_act]; exact hw,fun L2 W hW => ?_⟩,?_⟩
 ·have h1:=hop L2 W hW
  unfold OL at h1
  rw [wanted_act,if_pos hw] at h1
  exact Oper.wpIn_mono (fun a w h => h) h1
 ·rw [put_act]
  exact h
theorem gx_n {op : Op} (hw : seesB ops m tm ⟨none,op,ty,pos,af,g⟩ = true)
  (hop : ∀ L2,OX r n P ops (obQ w0 j s dd ξ none (maskL L s.2.2 ++ L2) (act m tm d)) w0 (maskL L s.2.2 ++ L2) [⟨none,op,ty,pos,af,g⟩] m tm d)
  (h : GX r n P ops Q w0 ξ (j + 1) os ss ds (aftL s dd ξ L) m tm d) : GX r n P ops Q w0 ξ j (⟨none,op,ty,pos,af,g⟩ :: os) (s :: ss) (dd :: ds) L m tm d:=by
 unfold GX GW
 refine ⟨.inl ⟨by rw [wanted_act]; exact hw,fun L2 W hW => ?_⟩,h⟩
 have h1:=hop L2 W hW
 unfold OL at h1
 rw [wanted_act,if_pos hw] at h1
 exact Oper.wpIn_mono (fun a w h => h) h1
theorem ex_capG {Lf L' : List Res} {v : Value} (x : Xo) (hv : dd.val (updX ξ j x) = v) (hL : aftL s dd (updX ξ j x) Lf = L') : EX (obQ w0 j s dd ξ (some t) Lf (act m tm d)) .normal w0 L' m (upd tm t v) d:=fun W hW => by
 subst hv hL
 exact ⟨rfl,x,(put_act m tm d (some t) _).symm,hW⟩
theorem ex_capGn {Lf L' : List Res} (x : Xo) (hL : aftL s dd (updX ξ j x) Lf = L') : EX (obQ w0 j s dd ξ none Lf (act m tm d)) .normal w0 L' m tm d:=fun W hW => by
 subst hL
 exact ⟨rfl,x,rfl,hW⟩
end
open Go.RowKit (Below)
section
variable {r : Option Nat} {n : Nat} {P : Program} {ops : Array Oper} {Q : Exit → Act → World → Prop}
def onlyN (Q : Exit → Act → World → Prop) : Exit → Act → World → Prop:=fun e a w => e = .normal ∧ Q .normal a w
def freeB (ops : Array Oper) (k i : Nat) : Bool:=decide (i < k) && match ops[i]? with
 | some ⟨some _,.move _,_,_,af,none⟩ => af.all fun e => !Region.binds .any e
 | _ => false
def tailF (ops : Array Oper) (fr : List Nat) (k : Nat) : Bool :=
 decide (k ≤ ops.size) && (decide (k = ops.size) || (
 (List.range k).all (fun i => fr.contains i || (List.range (k + 1)).any fun j => decide (i < j) && tailB.Region.waitsB ops j i) &&
 (List.range ops.size).all fun t => decide (t ≤ k) || tailB.Region.waitsB ops t (t - 1))) && fr.all (freeB ops k)
theorem wpIn_past {o : Oper} {a : Act} {d : Tmp} {v : Value} {W : World} {K : Act → World → Prop} (hs : ∀ cs b,o.op ≠ .select cs b) (hd : ∀ c,o.op ≠ .defer c) (hdst : o.dst ≠ some d) (hev : ∀ x ∈ o.op.operands,a.eval x = (a.put (some d) v).eval x)
  {x : Operand} (hx : ∀ u,(a.put o.dst u).eval x = a.eval x) (h : o.wpIn (Fw r) n P (a.put (some d) v) W K (onlyN Q)) : o.wpIn (Fw r) n P a W (fun a' W' => a'.eval x = a.eval x ∧ K (a'.put (some d) v) W') (onlyN Q):=by
 refine ⟨fun _ _ => by cases r <;> trivial,?_⟩
 have h2:=h.2
 have e : o.semAt r a.eval = o.semAt r (a.put (some d) v).eval:=by
  have e1 : execOp a.eval o = execOp (a.put (some d) v).eval o:=execOp_congr o hs hev
  cases r with
  | none => rw [Oper.semAt_none,Oper.semAt_none,e1]
  | some l => rw [Oper.semAt_some l _ o hd,Oper.semAt_some l _ o hd,e1]
 have e0 : (Fw r).round = r:=by cases r <;> rfl
 rw [e0] at h2 ⊢
 rw [e]
 have hp : ∀ u,(a.put o.dst u).put (some d) v = (a.put (some d) v).put o.dst u:=fun u => Act.put_comm _ _ _ (fun d' h1 h2 => by
  rw [h1] at hdst
  exact hdst h2.symm)
 generalize (o.semAt r (a.put (some d) v).eval).run P W = res at h2 ⊢
 match res,h2 with
 | .ok (.value u) W',h2 => refine ⟨hx u,?_⟩; rw [hp]; exact h2
 | .ok .skip W',h2 => refine ⟨hx undef,?_⟩; rw [hp]; exact h2
 | .ok (.defer d') W',h2 =>
  refine ⟨(by have:=hx undef; rw [← this]; cases o.dst <;> rfl),?_⟩
  have : ({ a with defers:=d' :: a.defers }.put o.dst undef).put (some d) v = ({ (a.put (some d) v) with defers:=d' :: (a.put (some d) v).defers }).put o.dst undef:=by
   rw [Act.put_comm _ _ _ (fun d' h1 h2 => by rw [h1] at hdst; exact hdst h2.symm)]
   rfl
  rw [this]
  exact h2
 | .ok (.enter f args) W',h2 =>
  refine ⟨h2.1,h2.2.mono ?_⟩
  rintro (_ | _ | _) w hw
  ·refine ⟨hx _,?_⟩; rw [hp]; exact hw
  ·exact absurd hw.1 (by intro h; cases h)
  ·exact hw
 | .ok (.row row args) W',h2 =>
  refine ⟨h2.1,?_⟩
  have h3:=h2.2
  have e9 : (fun (u : Value) (w : World) => (a.put o.dst u).eval x = a.eval x ∧ K ((a.put o.dst u).put (some d) v) w) = fun u w => K ((a.put (some d) v).put o.dst u) w:=by funext u w; rw [hp,hx u]; simp
  show RowsIn _ _ _ _ _ _ (fun (u : Value) (w : World) => (a.put o.dst u).eval x = a.eval x ∧ K ((a.put o.dst u).put (some d) v) w)
  rw [e9]
  exact h3
 | .ok (.round l f tmps assign body) W',h2 =>
  refine ⟨h2.1,h2.2.mono ?_⟩
  rintro (_ | _ | _) w hw
  ·refine ⟨hx _,?_⟩; rw [hp]; exact hw
  ·exact absurd hw.1 (by intro h; cases h)
  ·exact hw
 | .halt (.panic u) W',h2 => exact absurd h2.1 (by intro h; cases h)
theorem any_front (hO : orderB ops = true) {i d : Nat} {x : Operand} {ty : TypeId} {pos : String} {af : Array Edge} (ho : ops[i]? = some ⟨some d,.move x,ty,pos,af,none⟩) (haf : ∀ e ∈ af,Region.binds .any e = false) : ∀ (c : Nat) (listed : Array Bool) (a : Act) (W : World),listed.size = ops.size → listed.getD i false = false →
  (∀ j oj,ops[j]? = some oj → listed.getD j false = true → ∀ e ∈ oj.after,Region.binds .any e = true → listed.getD e.on false = true) →
  wpAnyIn (Fw r) n P .any ops (onlyN Q) c (listed.setIfInBounds i true) (a.put (some d) (a.eval x)) W → wpAnyIn (Fw r) n P .any ops (onlyN Q) (c + 1) listed a W:=by
 intro c
 have hlt : i < ops.size:=(Array.getElem?_eq_some_iff.1 ho).1
 induction c with
 | zero =>
  intro listed a W hsz hun hcl h
  refine ⟨fun h0 => ?_,fun j hj => ?_⟩
  ·have : i ∈ Region.ready .any ops listed:=mem_ready.2 ⟨by rw [getD_bool (by omega) true false]; exact hun,_,ho,fun e he hb => by rw [haf e he] at hb; cases hb⟩
   rw [h0] at this; cases this
  ·by_cases e : j = i
   ·subst e
    unfold wpOpIn
    simp only [ho]
    rw [if_pos (show Region.wanted (⟨some d,.move x,ty,pos,af,none⟩ : Oper) (yielded ops a.tmps) = true from rfl)]
    exact wpIn_of_opY (C:=fun W' => W' = W) (C':=fun W' => W' = W) (y_move rfl) rfl (fun W' hW' => by subst hW'; exact h)
   ·obtain ⟨hu,oj,hoj,hall⟩:=mem_ready.1 hj
    have hjs : j < ops.size:=(Array.getElem?_eq_some_iff.1 hoj).1
    have hj' : j ∈ Region.ready .any ops (listed.setIfInBounds i true):=mem_ready.2 ⟨by
     rw [getD_bool (by simp; omega) true false,getD_set (by omega),getD_bool (by omega) false true,hu]; simpa using e,oj,hoj,fun e' he hb => by rw [getD_set (by omega),hall e' he hb]; rfl⟩
    rw [h.1] at hj'; cases hj'
 | succ c ih =>
  intro listed a W hsz hun hcl h
  refine ⟨fun h0 => ?_,fun j hj => ?_⟩
  ·have : i ∈ Region.ready .any ops listed:=mem_ready.2 ⟨by rw [getD_bool (by omega) true false]; exact hun,_,ho,fun e he hb => by rw [haf e he] at hb; cases hb⟩
   rw [h0] at this; cases this
  ·by_cases e : j = i
   ·subst e
    unfold wpOpIn
    simp only [ho]
    rw [if_pos (show Region.wanted (⟨some d,.move x,ty,pos,af,none⟩ : Oper) (yielded ops a.tmps) = true from rfl)]
    exact wpIn_of_opY (C:=fun W' => W' = W) (C':=fun W' => W' = W) (y_move rfl) rfl (fun W' hW' => by subst hW'; exact h)
   ·obtain ⟨hu,oj,hoj,hall⟩:=mem_ready.1 hj
    have hjs : j < ops.size:=(Array.getElem?_eq_some_iff.1 hoj).1
    have hj' : j ∈ Region.ready .any ops (listed.setIfInBounds i true):=mem_ready.2 ⟨by
     rw [getD_bool (by simp; omega) true false,getD_set (by omega),getD_bool (by omega) false true,hu]; simpa using e,oj,hoj,fun e' he hb => by rw [getD_set (by omega),hall e' he hb]; rfl⟩
    have h2:=h.2 j hj'
    have hap : (∀ q,oj.dst = some q → q ∉ (⟨some d,.move x,ty,pos,af,none⟩ : Oper).looksAt ops) ∧ oj.dst ≠ some d ∧ d ∉ oj.looksAt ops:=by
     rcases Nat.lt_or_ge i j with hij | hij
     ·rcases (orderB_spec hO hoj).2.2.2 i _ hij ho with hap | ⟨e',he,hb,hon⟩
      ·have:=Oper.apart_spec hap
       exact ⟨this.2.2,this.2.1 d rfl,this.1 d rfl⟩
      ·have:=hall e' he hb
       rw [hon,hun] at this; cases this
     ·rcases (orderB_spec hO ho).2.2.2 j oj (by omega) hoj with hap | ⟨e',he,hb,hon⟩
      ·have:=Oper.apart_spec hap
       exact ⟨this.1,fun hc => this.2.1 d hc rfl,this.2.2 d rfl⟩
      ·rw [haf e' he] at hb; cases hb
    obtain ⟨hap1,hap2,hap3⟩:=hap
    obtain ⟨hsel,hdef,_,_⟩:=orderB_spec hO hoj
    have hsame:=looks_same (ops:=ops) (o:=oj) (a:=a) (b:=a.put (some d) (a.eval x)) (fun y hy => (put_get a (some d) _ y (by intro hc; cases hc; exact hap3 hy)).symm)
    have hxe : ∀ u,(a.put oj.dst u).eval x = a.eval x:=fun u => Act.eval_put (fun q hq hx => hap1 q hq (by
     rw [hx]
     unfold Oper.looksAt
     exact List.mem_append_left _ (List.mem_filterMap.2 ⟨.tmp q,by simp [Op.operands],rfl⟩)))
    have hset : (listed.setIfInBounds i true).setIfInBounds j true = (listed.setIfInBounds j true).setIfInBounds i true:=by
     apply Array.ext_getElem?
     intro q
     simp only [Array.getElem?_setIfInBounds]
     by_cases h1 : j = q <;> by_cases h2 : i = q <;> simp [h1,h2,hsz] <;> omega
    have hcl2 : ∀ q oq,ops[q]? = some oq → (listed.setIfInBounds j true).getD q false = true → ∀ e ∈ oq.after,Region.binds .any e = true → (listed.setIfInBounds j true).getD e.on false = true:=fun q oq hoq hlq e' he hb => by
     rw [getD_set (by omega)] at hlq ⊢
     by_cases eq : q = j
     ·subst eq
      rw [hoj] at hoq; cases hoq
      rw [hall e' he hb]; rfl
     ·have : (q == j) = false:=by simpa using eq
      rw [this,Bool.or_false] at hlq
      rw [hcl q oq hoq hlq e' he hb]; rfl
    have hun2 : (listed.setIfInBounds j true).getD i false = false:=by
     rw [getD_set (by omega),hun]; simp; omega
    unfold wpOpIn at h2 ⊢
    simp only [hoj] at h2 ⊢
    rw [hsame.2]
    split
    ·rename_i hw
     rw [if_pos hw] at h2
     refine Oper.wpIn_mono (fun a' W' h5 => ?_) (wpIn_past (r:=r) (x:=x) hsel hdef hap2 hsame.1 hxe h2)
     refine ih _ _ _ (by simpa using hsz) hun2 hcl2 ?_
     rw [h5.1,← hset]
     exact h5.2
    ·rename_i hw
     rw [if_neg hw] at h2
     refine ⟨fun _ _ => by cases r <;> trivial,?_⟩
     refine ih _ _ _ (by simpa using hsz) hun2 hcl2 ?_
     rw [hxe,← hset]
     have h4:=h2.2
     rw [Act.put_comm _ _ _ (fun d' h1 h2 => by rw [h1] at hap2; exact hap2 h2.symm)]
     exact h4
theorem sink {fr : List Nat} {k : Nat} (hkN : k ≤ ops.size)
  (hT : k = ops.size ∨ (List.range k).all (fun i => fr.contains i || (List.range (k + 1)).any fun j => decide (i < j) && tailB.Region.waitsB ops j i) = true ∧ ((List.range ops.size).all fun t => decide (t ≤ k) || tailB.Region.waitsB ops t (t - 1)) = true) :
  ∀ (listed : Array Bool),listed.size = ops.size → (∀ j oj,ops[j]? = some oj → listed.getD j false = true → ∀ e ∈ oj.after,Region.binds .any e = true → listed.getD e.on false = true) →
   (∀ t,k ≤ t → t < ops.size → listed.getD t false = false) → (∀ i,i ∈ fr → listed.getD i false = true) → ∀ (d i : Nat),k - i = d → i < k → listed.getD i false = false → ∀ t,k ≤ t → t ∉ Region.ready .any ops listed:=by
 have hchain : ∀ t,k < t → t < ops.size → tailB.Region.waitsB ops t (t - 1) = true:=fun t h1 h2 => by
  rcases hT with hT | hT
  ·omega
  ·have:=List.all_eq_true.1 hT.2 t (List.mem_range.2 h2)
   simp only [Bool.or_eq_true,decide_eq_true_eq] at this
   rcases this with h | h
   ·omega
   ·exact h
 intro listed hsz hcl htl hfr d
 induction d using Nat.strongRecOn with
 | _ d ih =>
  intro i hd hi hun t ht hr
  obtain ⟨htu,ot,hot,hall⟩:=mem_ready.1 hr
  have htlt : t < ops.size:=(Array.getElem?_eq_some_iff.1 hot).1
  have hT' : (List.range k).all (fun i => fr.contains i || (List.range (k + 1)).any fun j => decide (i < j) && tailB.Region.waitsB ops j i) = true:=by
   rcases hT with hT | hT
   ·omega
   ·exact hT.1
  by_cases htk : t = k
  ·subst htk
   have h1:=List.all_eq_true.1 hT' i (List.mem_range.2 hi)
   rw [Bool.or_eq_true] at h1
   have h1:=h1.resolve_left (fun hc => by
    have:=hfr i (by simpa using hc)
    rw [hun] at this; cases this)
   obtain ⟨j,hj,hj2⟩:=List.any_eq_true.1 h1
   simp only [Bool.and_eq_true,decide_eq_true_eq] at hj2
   obtain ⟨oj,hoj,e,he,hb,hon⟩:=waitsB_spec hj2.2
   have hjle : j ≤ t:=by have:=List.mem_range.1 hj; omega
   by_cases hjt : j = t
   ·subst hjt
    rw [hot] at hoj; cases hoj
    have h2:=hall e he hb
    rw [hon,hun] at h2; cases h2
   ·cases hlj : listed.getD j false with
    | true =>
     have h2:=hcl j oj hoj hlj e he hb
     rw [hon,hun] at h2; cases h2
    | false => exact ih (t - j) (by omega) j rfl (by omega) hlj t (Nat.le_refl _) hr
  ·obtain ⟨oj,hoj,e,he,hb,hon⟩:=waitsB_spec (hchain t (by omega) htlt)
   rw [hot] at hoj; cases hoj
   have h2:=hall e he hb
   rw [hon,htl (t - 1) (by omega) (by omega)] at h2; cases h2
theorem any_quiet {l : List Oper} (hops : ops = l.toArray) (fr : List Nat) {k : Nat} (hO : orderB ops = true) (hkN : k ≤ ops.size)
  (hT : k = ops.size ∨ (List.range k).all (fun i => fr.contains i || (List.range (k + 1)).any fun j => decide (i < j) && tailB.Region.waitsB ops j i) = true ∧ ((List.range ops.size).all fun t => decide (t ≤ k) || tailB.Region.waitsB ops t (t - 1)) = true)
  {a0 : Act} {vals : Nat → Value} {acts : Nat → Act} {C : World → Prop} (hst : ∀ m,acts m = stA ops vals a0 (fun _ => true) m)
  (hvals : ∀ (j : Nat) (o : Oper),j < k → j ∉ fr → ops[j]? = some o → (Region.wanted o (yielded ops (acts j).tmps) = true ∧ OpY r n P o (acts j).eval C C (vals j)) ∨ (Region.wanted o (yielded ops (acts j).tmps) = false ∧ vals j = undef))
  (hK : ∀ W,C W → OL r n P ops (onlyN Q) (l.drop k) (acts k) W) :
  ∀ (c : Nat) (listed : Array Bool) (W : World),C W → listed.size = ops.size → left listed k = c →
   (∀ j oj,ops[j]? = some oj → listed.getD j false = true → ∀ e ∈ oj.after,Region.binds .any e = true → listed.getD e.on false = true) →
   (∀ t,k ≤ t → t < ops.size → listed.getD t false = false) → (∀ i,i ∈ fr → listed.getD i false = true) →
   wpAnyIn (Fw r) n P .any ops (onlyN Q) (c + (ops.size - k)) listed (stA ops vals a0 (fun j => listed.getD j false) k) W:=by
 have hchain : ∀ t,k < t → t < ops.size → tailB.Region.waitsB ops t (t - 1) = true:=fun t h1 h2 => by
  rcases hT with hT | hT
  ·omega
  ·have:=List.all_eq_true.1 hT.2 t (List.mem_range.2 h2)
   simp only [Bool.or_eq_true,decide_eq_true_eq] at this
   rcases this with h | h
   ·omega
   ·exact h
 -- while an operation of the first k is still to come,no later one comes up
 have hsink : ∀ (listed : Array Bool),listed.size = ops.size → (∀ j oj,ops[j]? = some oj → listed.getD j false = true → ∀ e ∈ oj.after,Region.binds .any e = true → listed.getD e.on false = true) →
   (∀ t,k ≤ t → t < ops.size → listed.getD t false = false) → (∀ i,i ∈ fr → listed.getD i false = true) → ∀ (d i : Nat),k - i = d → i < k → listed.getD i false = false → ∀ t,k ≤ t → t ∉ Region.ready .any ops listed:=by
  intro listed hsz hcl htl hfr d
  induction d using Nat.strongRecOn with
  | _ d ih =>
   intro i hd hi hun t ht hr
   obtain ⟨htu,ot,hot,hall⟩:=mem_ready.1 hr
   have htlt : t < ops.size:=(Array.getElem?_eq_some_iff.1 hot).1
   have hT' : (List.range k).all (fun i => fr.contains i || (List.range (k + 1)).any fun j => decide (i < j) && tailB.Region.waitsB ops j i) = true:=by
    rcases hT with hT | hT
    ·omega
    ·exact hT.1
   by_cases htk : t = k
   ·subst htk
    have h1:=List.all_eq_true.1 hT' i (List.mem_range.2 hi)
    rw [Bool.or_eq_true] at h1
    have h1:=h1.resolve_left (fun hc => by
     have:=hfr i (by simpa using hc)
     rw [hun] at this; cases this)
    obtain ⟨j,hj,hj2⟩:=List.any_eq_true.1 h1
    simp only [Bool.and_eq_true,decide_eq_true_eq] at hj2
    obtain ⟨oj,hoj,e,he,hb,hon⟩:=waitsB_spec hj2.2
    have hjle : j ≤ t:=by have:=List.mem_range.1 hj; omega
    by_cases hjt : j = t
    ·subst hjt
     rw [hot] at hoj; cases hoj
     have h2:=hall e he hb
     rw [hon,hun] at h2; cases h2
    ·cases hlj : listed.getD j false with
     | true =>
      have h2:=hcl j oj hoj hlj e he hb
      rw [hon,hun] at h2; cases h2
     | false => exact ih (t - j) (by omega) j rfl (by omega) hlj t (Nat.le_refl _) hr
   ·obtain ⟨oj,hoj,e,he,hb,hon⟩:=waitsB_spec (hchain t (by omega) htlt)
    rw [hot] at hoj; cases hoj
    have h2:=hall e he hb
    rw [hon,htl (t - 1) (by omega) (by omega)] at h2; cases h2
 intro c
 induction c with
 | zero =>
  intro listed W hC hsz hc hcl htl hfr
  have hall:=left_zero hc
  have hs : stA ops vals a0 (fun j => listed.getD j false) k = acts k:=by
   rw [hst k]
   have : ∀ m,m ≤ k → stA ops vals a0 (fun j => listed.getD j false) m = stA ops vals a0 (fun _ => true) m:=by
    intro m
    induction m with
    | zero => intro _; rfl
    | succ m ih => intro hm; simp only [stA,ih (show m ≤ k by omega),hall m (by omega)]
   exact this k (Nat.le_refl _)
  rw [hs,Nat.zero_add]
  exact tail_any hops hO hchain _ k listed _ W rfl (Nat.le_refl _) hkN hsz (fun j hj => by
   by_cases h : j < k
   ·rw [hall j h]; simp [h]
   ·rw [htl j (by omega) hj]; simp [h]) (hK W hC)
 | succ c ih =>
  intro listed W hC hsz hc hcl htl hfr
  -- one of the first k is still to come
  have hex : ∃ i,i < k ∧ listed.getD i false = false:=by
   apply Classical.byContradiction
   intro hno
   have : left listed k = 0:=by
    unfold left
    rw [List.filter_eq_nil_iff.2 fun j hj => ?_]
    ·rfl
    ·have hj':=List.mem_range.1 hj
     cases hl : listed.getD j false with
     | true => simp
     | false => exact absurd ⟨j,hj',hl⟩ hno
   omega
  obtain ⟨i0,hi0,hun0⟩:=hex
  have hrdy : ∀ j,j < ops.size → listed.getD j false = false → ∃ i,i ∈ Region.ready .any ops listed:=by
   intro j
   induction j using Nat.strongRecOn with
   | _ j ihj =>
    intro hj hun
    obtain ⟨o,ho⟩ : ∃ o,ops[j]? = some o:=⟨_,Array.getElem?_eq_some_iff.2 ⟨hj,rfl⟩⟩
    by_cases hall : ∀ e ∈ o.after,Region.binds .any e = true → listed.getD e.on false = true
    ·exact ⟨j,mem_ready.2 ⟨by rw [getD_bool (by omega) true false]; exact hun,o,ho,hall⟩⟩
    ·have : ∃ e ∈ o.after,Region.binds .any e = true ∧ listed.getD e.on false = false:=by
      apply Classical.byContradiction
      intro hno
      exact hall fun e he hb => by
       cases hl : listed.getD e.on false with
       | true => rfl
       | false => exact absurd ⟨e,he,hb,hl⟩ hno
     obtain ⟨e,he,hb,hf⟩:=this
     have hlt:=(orderB_spec hO ho).2.2.1 e he hb
     exact ihj e.on hlt (by omega) hf
  obtain ⟨i1,hi1⟩:=hrdy i0 (by omega) hun0
  rw [show c + 1 + (ops.size - k) = (c + (ops.size - k)) + 1 by omega]
  refine ⟨fun h => (by rw [h] at hi1; cases hi1),fun i hi => ?_⟩
  obtain ⟨hun,o,ho,hall⟩:=mem_ready.1 hi
  have hlt : i < ops.size:=(Array.getElem?_eq_some_iff.1 ho).1
  have hik : i < k:=by
   rcases Nat.lt_or_ge i k with h | h
   ·exact h
   ·exact absurd hi (hsink listed hsz hcl htl hfr _ i0 rfl hi0 hun0 i h)
  rw [getD_bool (by omega) true false] at hun
  obtain ⟨hsel,hdef,_,hord⟩:=orderB_spec hO ho
  -- what it looks at is as in the text's order
  have hlook : ∀ j,j < k → (listed.getD j false) ≠ decide (j < i) → ∀ d,dstA ops j = some d → ¬ d ∈ o.looksAt ops:=by
   intro j hj hne d hd hmem
   obtain ⟨oj,hoj⟩ : ∃ oj,ops[j]? = some oj:=⟨_,Array.getElem?_eq_some_iff.2 ⟨by omega,rfl⟩⟩
   have hdj : oj.dst = some d:=by simpa [dstA,hoj] using hd
   rcases Nat.lt_trichotomy j i with h | h | h
   ·-- not listed,yet the operation is ready: it does not wait for it
    have hl : listed.getD j false = false:=by
     cases hl : listed.getD j false with
     | false => rfl
     | true => exact absurd (by rw [hl]; simp [h]) hne
    rcases hord j oj h hoj with hap | ⟨e,he,hb,hon⟩
    ·exact (Oper.apart_spec hap).1 d hdj hmem
    ·have:=hall e he hb
     rw [hon,hl] at this; cases this
   ·subst h
    exact absurd (by rw [hun]; simp) hne
   ·have hl : listed.getD j false = true:=by
     cases hl : listed.getD j false with
     | true => rfl
     | false => exact absurd (by rw [hl]; simp; omega) hne
    rcases (orderB_spec hO hoj).2.2.2 i o h ho with hap | ⟨e,he,hb,hon⟩
    ·exact (Oper.apart_spec hap).2.2 d hdj hmem
    ·have:=hcl j oj hoj hl e he hb
     rw [hon,hun] at this; cases this
  have hag:=stA_agree (ops:=ops) vals a0 (fun x => x ∈ o.looksAt ops) (fun j => listed.getD j false) (fun j => decide (j < i)) k hlook
  have hlex : stA ops vals a0 (fun j => decide (j < i)) k = acts i:=by
   rw [hst i]
   have h1 : ∀ m,m ≤ i → stA ops vals a0 (fun j => decide (j < i)) m = stA ops vals a0 (fun _ => true) m:=by
    intro m
    induction m with
    | zero => intro _; rfl
    | succ m ih => intro hm; simp only [stA]; rw [ih (by omega)]; simp; omega
   have h2 : ∀ m,i ≤ m → stA ops vals a0 (fun j => decide (j < i)) m = stA ops vals a0 (fun j => decide (j < i)) i:=by
    intro m
    induction m with
    | zero =>
     intro h
     have : i = 0:=by omega
     subst this; rfl
    | succ m ih =>
     intro hm
     by_cases e : i = m + 1
     ·rw [e]
     ·simp only [stA]
      rw [if_neg (by simp; omega)]
      exact ih (by omega)
   rw [h2 k (by omega),h1 i (Nat.le_refl _)]
  rw [hlex] at hag
  obtain ⟨hev,hwa⟩:=looks_same (ops:=ops) (o:=o) (a:=stA ops vals a0 (fun j => listed.getD j false) k) (b:=acts i) hag.1
  have hins : stA ops vals a0 (fun j => (listed.setIfInBounds i true).getD j false) k = (stA ops vals a0 (fun j => listed.getD j false) k).put o.dst (vals i):=by
   have e1 : (fun j => (listed.setIfInBounds i true).getD j false) = fun j => listed.getD j false || j == i:=funext fun j => getD_set (by omega)
   rw [e1,stA_insert (ops:=ops) vals a0 (fun j => listed.getD j false) i hun k hik (fun j h1 h2 hS d hd he => ?_)]
   ·congr 1
    simp [dstA,ho]
   ·obtain ⟨oj,hoj⟩ : ∃ oj,ops[j]? = some oj:=⟨_,Array.getElem?_eq_some_iff.2 ⟨by omega,rfl⟩⟩
    have hdj : oj.dst = some d:=by simpa [dstA,hoj] using hd
    have hdi : o.dst = some d:=by simpa [dstA,ho] using he
    rcases (orderB_spec hO hoj).2.2.2 i o h1 ho with hap | ⟨e,he,hb,hon⟩
    ·exact (Oper.apart_spec hap).2.1 d hdi hdj
    ·have:=hcl j oj hoj hS e he hb
     rw [hon,hun] at this; cases this
  have hgo : ∀ W',C W' → wpAnyIn (Fw r) n P .any ops (onlyN Q) (c + (ops.size - k)) (listed.setIfInBounds i true) ((stA ops vals a0 (fun j => listed.getD j false) k).put o.dst (vals i)) W':=fun W' hC' => by
   rw [← hins]
   have hl:=left_set (by omega) hun k hik
   refine ih _ W' hC' (by simpa using hsz) (by omega) (fun j oj hoj hlj e he hb => ?_) (fun t h1 h2 => ?_) (fun i' hi' => by rw [getD_set (by omega),hfr i' hi']; rfl)
   ·rw [getD_set (by omega)] at hlj ⊢
    by_cases e' : j = i
    ·subst e'
     rw [ho] at hoj; cases hoj
     rw [hall e he hb]; rfl
    ·have : (j == i) = false:=by simpa using e'
     rw [this,Bool.or_false] at hlj
     rw [hcl j oj hoj hlj e he hb]; rfl
   ·rw [getD_set (by omega),htl t h1 h2]
    simp; omega
  unfold wpOpIn
  simp only [ho]
  rcases hvals i o hik (fun hfi => by rw [hfr i hfi] at hun; cases hun) ho with ⟨hw,hy⟩ | ⟨hw,hv⟩
  ·rw [hwa,if_pos hw]
   refine wpIn_of_opY (opY_congr hsel hdef (fun x hx => (hev x hx).symm) hy) hC ?_
   exact hgo
  ·rw [hwa,if_neg (by rw [hw]; simp)]
   refine ⟨fun _ _ => trivial,?_⟩
   have:=hgo W hC
   rwa [hv] at this
theorem wp_drawsF {l : List Oper} (fr : List Nat) (k : Nat) (hm : P.follows .mixedOrders = true) (hO : orderB l.toArray = true) (hT : tailF l.toArray fr k = true) {id : Nat} {a0 : Act} {W0 : World} {C : World → Prop}
  (h0 : C { W0 with drawn:=W0.drawn + 1 })
  (hq : QW r n P l.toArray C (fun a' => ∀ W,C W → OL r n P l.toArray (onlyN Q) (l.drop k) a' W) (l.take k) a0) : (Code.region id l.toArray true).wpIn (Fw r) n P Q a0 W0:=by
 refine wpIn_mono (Q:=onlyN Q) ?_ (fun e a w h => by obtain ⟨rfl,h⟩:=h; exact h)
 refine wpIn_region_any hm ?_
 obtain ⟨ops,hops⟩ : ∃ ops,ops = l.toArray:=⟨_,rfl⟩
 rw [← hops] at hO hT hq ⊢
 unfold tailF at hT
 simp only [Bool.and_eq_true,Bool.or_eq_true,decide_eq_true_eq] at hT
 obtain ⟨⟨hkN,hT⟩,hF⟩:=hT
 have hlen : (l.take k).length = k:=by rw [hops] at hkN; simp at hkN; simp; omega
 obtain ⟨vals,acts,ha0,hacts,hvals,hK⟩:=qw_vals (l.take k) 0 a0 (fun j hj => by
  rw [hlen] at hj
  rw [hops]; simp [hj]) hq
 rw [hlen] at hvals hK
 have hst : ∀ m,acts m = stA ops vals a0 (fun _ => true) m:=by
  intro m
  induction m with
  | zero => exact ha0
  | succ m ih => rw [hacts m,Nat.zero_add,ih]; simp [stA]
 have main:=any_quiet (r:=r) (n:=n) (P:=P) (Q:=Q) hops fr hO hkN hT (vals:=vals) (acts:=acts) (C:=C) hst (fun j o hj _ ho => hvals j o hj (by rw [Nat.zero_add]; exact ho)) hK
 -- the free ones come first
 have hfree : ∀ i ∈ fr,i < k ∧ ∃ d x ty pos af,ops[i]? = some ⟨some d,.move x,ty,pos,af,none⟩ ∧ ∀ e ∈ af,Region.binds .any e = false:=fun i hi => by
  have h1:=List.all_eq_true.1 hF i hi
  unfold freeB at h1
  simp only [Bool.and_eq_true,decide_eq_true_eq] at h1
  obtain ⟨h1,h2⟩:=h1
  split at h2
  ·rename_i d x ty pos af ho
   exact ⟨h1,d,x,ty,pos,af,ho,fun e he => by simpa using Array.all_eq_true'.1 h2 e he⟩
  ·cases h2
 have front : ∀ (fs : List Nat),(∀ i ∈ fs,i ∈ fr) → ∀ (listed : Array Bool) (c : Nat),listed.size = ops.size →
   (∀ j oj,ops[j]? = some oj → listed.getD j false = true → ∀ e ∈ oj.after,Region.binds .any e = true → listed.getD e.on false = true) →
   (∀ t,k ≤ t → t < ops.size → listed.getD t false = false) → (∀ i ∈ fr,i ∈ fs ∨ listed.getD i false = true) → left listed k + (ops.size - k) = c →
   wpAnyIn (Fw r) n P .any ops (onlyN Q) c listed (stA ops vals a0 (fun j => listed.getD j false) k) { W0 with drawn:=W0.drawn + 1 }:=by
  intro fs
  induction fs with
  | nil =>
   intro _ listed c hsz hcl htl hfr hc
   rw [← hc]
   exact main _ listed _ h0 hsz rfl hcl htl (fun i hi => (hfr i hi).elim (fun h => absurd h List.not_mem_nil) (fun h => h))
  | cons i fs ih =>
   intro hsub listed c hsz hcl htl hfr hc
   obtain ⟨hik,d,x,ty,pos,af,ho,haf⟩:=hfree i (hsub i (List.mem_cons_self ..))
   have hlt : i < ops.size:=by omega
   cases hun : listed.getD i false with
   | true =>
    refine ih (fun j hj => hsub j (List.mem_cons_of_mem _ hj)) listed c hsz hcl htl (fun j hj => ?_) hc
    rcases hfr j hj with h | h
    ·rcases List.mem_cons.1 h with rfl | h
     ·exact .inr hun
     ·exact .inl h
    ·exact .inr h
   | false =>
    have hl:=left_set (by omega) hun k hik
    have hcl' : ∀ j oj,ops[j]? = some oj → (listed.setIfInBounds i true).getD j false = true → ∀ e ∈ oj.after,Region.binds .any e = true → (listed.setIfInBounds i true).getD e.on false = true:=fun j oj hoj hlj e he hb => by
     rw [getD_set (by omega)] at hlj ⊢
     by_cases e' : j = i
     ·subst e'
      rw [ho] at hoj; cases hoj
      rw [haf e he] at hb; cases hb
     ·have : (j == i) = false:=by simpa using e'
      rw [this,Bool.or_false] at hlj
      rw [hcl j oj hoj hlj e he hb]; rfl
    obtain ⟨c',rfl⟩ : ∃ c',c = c' + 1:=⟨c - 1,by omega⟩
    have h7:=ih (fun j hj => hsub j (List.mem_cons_of_mem _ hj)) (listed.setIfInBounds i true) c' (by simpa using hsz) hcl'
     (fun t h1 h2 => by rw [getD_set (by omega),htl t h1 h2]; simp; omega)
     (fun j hj => by
      rw [getD_set (by omega)]
      rcases hfr j hj with h | h
      ·rcases List.mem_cons.1 h with rfl | h
       ·right; simp
       ·exact .inl h
      ·right; rw [h]; rfl) (by omega)
    refine any_front hO ho haf c' listed _ _ hsz hun hcl ?_
    have e1 : (fun j => (listed.setIfInBounds i true).getD j false) = fun j => listed.getD j false || j == i:=funext fun j => getD_set (by omega)
    rw [e1,stA_insert (ops:=ops) vals a0 (fun j => listed.getD j false) i hun k hik (fun j h1 h2 hS d' hd he => ?_)] at h7
    ·have e2 : dstA ops i = some d:=by simp [dstA,ho]
     have e3 : vals i = (stA ops vals a0 (fun j => listed.getD j false) k).eval x:=by
      rcases hvals i _ hik (by rw [Nat.zero_add]; exact ho) with ⟨_,hy⟩ | ⟨hw,_⟩
      ·have h8:=hy _ h0
       have e4 : ((⟨some d,.move x,ty,pos,af,none⟩ : Oper).semAt r (acts i).eval).run P { W0 with drawn:=W0.drawn + 1 } = .ok (.value ((acts i).eval x)) { W0 with drawn:=W0.drawn + 1 }:=by
        cases r with
        | none => rw [Oper.semAt_none]; rfl
        | some l' => rw [Oper.semAt_some l' _ _ (by intro c h; cases h)]; rfl
       rw [e4] at h8
       have h9 : (acts i).eval x = vals i:=h8.1
       rw [← h9]
       -- what it looks at
       cases x with
       | tmp q =>
        refine eval_of_get ?_
        have hag:=stA_agree (ops:=ops) vals a0 (fun y => y = q) (fun j => listed.getD j false) (fun j => decide (j < i)) k (fun j hj hne d' hd' hq' => by
         obtain ⟨oj,hoj⟩ : ∃ oj,ops[j]? = some oj:=⟨_,Array.getElem?_eq_some_iff.2 ⟨by omega,rfl⟩⟩
         have hdj : oj.dst = some d':=by simpa [dstA,hoj] using hd'
         have hlk : d' ∈ (⟨some d,.move (.tmp q),ty,pos,af,none⟩ : Oper).looksAt ops:=by
          rw [hq']
          unfold Oper.looksAt
          exact List.mem_append_left _ (List.mem_filterMap.2 ⟨.tmp q,by simp [Op.operands],rfl⟩)
         rcases Nat.lt_trichotomy j i with h | h | h
         ·rcases (orderB_spec hO ho).2.2.2 j oj h hoj with hap | ⟨e,he,hb,_⟩
          ·exact (Oper.apart_spec hap).1 d' hdj hlk
          ·rw [haf e he] at hb; cases hb
         ·subst h
          exact absurd (by simp [hun]) hne
         ·have hlj : listed.getD j false = true:=by
           cases hl' : listed.getD j false with
           | true => rfl
           | false => exact absurd (by simp [hl']; omega) hne
          rcases (orderB_spec hO hoj).2.2.2 i _ h ho with hap | ⟨e,he,hb,hon⟩
          ·exact (Oper.apart_spec hap).2.2 d' hdj hlk
          ·have:=hcl j oj hoj hlj e he hb
           rw [hon,hun] at this; cases this)
        have hlex : stA ops vals a0 (fun j => decide (j < i)) k = acts i:=by
         rw [hst i]
         have h1 : ∀ m,m ≤ i → stA ops vals a0 (fun j => decide (j < i)) m = stA ops vals a0 (fun _ => true) m:=by
          intro m
          induction m with
          | zero => intro _; rfl
          | succ m ih => intro hm; simp only [stA]; rw [ih (by omega)]; simp; omega
         have h2 : ∀ m,i ≤ m → stA ops vals a0 (fun j => decide (j < i)) m = stA ops vals a0 (fun j => decide (j < i)) i:=by
          intro m
          induction m with
          | zero =>
           intro h
           have : i = 0:=by omega
           subst this; rfl
          | succ m ih =>
           intro hm
           by_cases e : i = m + 1
           ·rw [e]
           ·simp only [stA]
            rw [if_neg (by simp; omega)]
            exact ih (by omega)
         rw [h2 k (by omega),h1 i (Nat.le_refl _)]
        rw [hlex] at hag
        exact (hag.1 q rfl).symm
       | _ => rfl
      ·have : Region.wanted (⟨some d,.move x,ty,pos,af,none⟩ : Oper) (yielded ops (acts i).tmps) = true:=rfl
       rw [this] at hw; cases hw
     rw [e2,e3] at h7
     exact h7
    ·obtain ⟨oj,hoj⟩ : ∃ oj,ops[j]? = some oj:=⟨_,Array.getElem?_eq_some_iff.2 ⟨by omega,rfl⟩⟩
     have hdj : oj.dst = some d':=by simpa [dstA,hoj] using hd
     have hdi : (some d) = some d':=by simpa [dstA,ho] using he
     rcases (orderB_spec hO hoj).2.2.2 i _ h1 ho with hap | ⟨e,he,hb,hon⟩
     ·exact (Oper.apart_spec hap).2.1 d' hdi hdj
     ·have:=hcl j oj hoj hS e he hb
      rw [hon,hun] at this; cases this
 have hfin:=front fr (fun i hi => hi) (Array.replicate ops.size false) _ (by simp) (fun j oj hoj hl => by
  have : j < ops.size:=(Array.getElem?_eq_some_iff.1 hoj).1
  simp [this] at hl) (fun t _ h => by simp [h]) (fun i hi => .inl hi) rfl
 have e1 : left (Array.replicate ops.size false) k + (ops.size - k) = ops.size:=by
  have : left (Array.replicate ops.size false) k = k:=by
   unfold left
   rw [List.filter_eq_self.2 fun j hj => ?_]
   ·simp
   ·have:=List.mem_range.1 hj
    simp [show j < ops.size by omega]
  omega
 have e2 : stA ops vals a0 (fun j => (Array.replicate ops.size false).getD j false) k = a0:=by
  have : ∀ m,m ≤ k → stA ops vals a0 (fun j => (Array.replicate ops.size false).getD j false) m = a0:=by
   intro m
   induction m with
   | zero => intro _; rfl
   | succ m ih => intro hm; simp only [stA]; rw [ih (by omega)]; simp [show m < ops.size by omega]
  exact this k (Nat.le_refl _)
 rw [e1,e2] at hfin
 exact hfin
end
section
variable {r : Option Nat} {n : Nat} {P : Program} {Q : Exit → Act → World → Prop} {w0 : World} {L : List Res} {m : Nat} {tm : Nat → Value} {d : List Deferred}
theorem cx_drawsF (fr : List Nat) (k : Nat) {id : Nat} {l : List Oper} (hm : P.follows .mixedOrders = true) (hO : orderB l.toArray = true) (hT : tailF l.toArray fr k = true)
  (h : QX r n P l.toArray (onlyN Q) w0 L (l.drop k) (l.take k) m tm d) : CX r n P (.region id l.toArray true) Q w0 L m tm d :=
 fun _ hW => wp_drawsF fr k hm hO hT (C:=fun W => Ext w0 W L) hW.drawn h
theorem ex_only (h : EX Q .normal w0 L m tm d) : EX (onlyN Q) .normal w0 L m tm d:=fun W hW => ⟨rfl,h W hW⟩
end
open Go.RowKit (Below)
section
variable {r : Option Nat} {n : Nat} {P : Program} {ops : Array Oper} {Q : Exit → Act → World → Prop}
theorem quiet_step {k : Nat} (hO : orderB ops = true) (hkN : k ≤ ops.size) {a0 : Act} {vals : Nat → Value} {acts : Nat → Act} {C : World → Prop} (hst : ∀ m,acts m = stA ops vals a0 (fun _ => true) m)
  {listed : Array Bool} {W : World} (hC : C W) (hsz : listed.size = ops.size)
  (hcl : ∀ j oj,ops[j]? = some oj → listed.getD j false = true → ∀ e ∈ oj.after,Region.binds .any e = true → listed.getD e.on false = true)
  {i : Nat} {o : Oper} (hik : i < k) (hun : listed.getD i true = false) (ho : ops[i]? = some o) (hall : ∀ e ∈ o.after,Region.binds .any e = true → listed.getD e.on false = true)
  (hvals : (Region.wanted o (yielded ops (acts i).tmps) = true ∧ OpY r n P o (acts i).eval C C (vals i)) ∨ (Region.wanted o (yielded ops (acts i).tmps) = false ∧ vals i = undef)) {K : Act → World → Prop}
  (hK : ∀ W',C W' → K (stA ops vals a0 (fun j => (listed.setIfInBounds i true).getD j false) k) W') :
  wpOpIn (Fw r) n P ops (onlyN Q) i K (stA ops vals a0 (fun j => listed.getD j false) k) W:=by
 rw [getD_bool (by omega) true false] at hun
 obtain ⟨hsel,hdef,_,hord⟩:=orderB_spec hO ho
 -- what it looks at is as in the text's order
 have hlook : ∀ j,j < k → (listed.getD j false) ≠ decide (j < i) → ∀ d,dstA ops j = some d → ¬ d ∈ o.looksAt ops:=by
  intro j hj hne d hd hmem
  obtain ⟨oj,hoj⟩ : ∃ oj,ops[j]? = some oj:=⟨_,Array.getElem?_eq_some_iff.2 ⟨by omega,rfl⟩⟩
  have hdj : oj.dst = some d:=by simpa [dstA,hoj] using hd
  rcases Nat.lt_trichotomy j i with h | h | h
  ·-- not listed,yet the operation is ready: it does not wait for it
   have hl : listed.getD j false = false:=by
    cases hl : listed.getD j false with
    | false => rfl
    | true => exact absurd (by rw [hl]; simp [h]) hne
   rcases hord j oj h hoj with hap | ⟨e,he,hb,hon⟩
   ·exact (Oper.apart_spec hap).1 d hdj hmem
   ·have:=hall e he hb
    rw [hon,hl] at this; cases this
  ·subst h
   exact absurd (by rw [hun]; simp) hne
  ·have hl : listed.getD j false = true:=by
    cases hl : listed.getD j false with
    | true => rfl
    | false => exact absurd (by rw [hl]; simp; omega) hne
   rcases (orderB_spec hO hoj).2.2.2 i o h ho with hap | ⟨e,he,hb,hon⟩
   ·exact (Oper.apart_spec hap).2.2 d hdj hmem
   ·have:=hcl j oj hoj hl e he hb
    rw [hon,hun] at this; cases this
 have hag:=stA_agree (ops:=ops) vals a0 (fun x => x ∈ o.looksAt ops) (fun j => listed.getD j false) (fun j => decide (j < i)) k hlook
 have hlex : stA ops vals a0 (fun j => decide (j < i)) k = acts i:=by
  rw [hst i]
  have h1 : ∀ m,m ≤ i → stA ops vals a0 (fun j => decide (j < i)) m = stA ops vals a0 (fun _ => true) m:=by
   intro m
   induction m with
   | zero => intro _; rfl
   | succ m ih => intro hm; simp only [stA]; rw [ih (by omega)]; simp; omega
  have h2 : ∀ m,i ≤ m → stA ops vals a0 (fun j => decide (j < i)) m = stA ops vals a0 (fun j => decide (j < i)) i:=by
   intro m
   induction m with
   | zero =>
    intro h
    have : i = 0:=by omega
    subst this; rfl
   | succ m ih =>
    intro hm
    by_cases e : i = m + 1
    ·rw [e]
    ·simp only [stA]
     rw [if_neg (by simp; omega)]
     exact ih (by omega)
  rw [h2 k (by omega),h1 i (Nat.le_refl _)]
 rw [hlex] at hag
 obtain ⟨hev,hwa⟩:=looks_same (ops:=ops) (o:=o) (a:=stA ops vals a0 (fun j => listed.getD j false) k) (b:=acts i) hag.1
 have hins : stA ops vals a0 (fun j => (listed.setIfInBounds i true).getD j false) k = (stA ops vals a0 (fun j => listed.getD j false) k).put o.dst (vals i):=by
  have e1 : (fun j => (listed.setIfInBounds i true).getD j false) = fun j => listed.getD j false || j == i:=funext fun j => getD_set (by omega)
  rw [e1,stA_insert (ops:=ops) vals a0 (fun j => listed.getD j false) i hun k hik (fun j h1 h2 hS d hd he => ?_)]
  ·congr 1
   simp [dstA,ho]
  ·obtain ⟨oj,hoj⟩ : ∃ oj,ops[j]? = some oj:=⟨_,Array.getElem?_eq_some_iff.2 ⟨by omega,rfl⟩⟩
   have hdj : oj.dst = some d:=by simpa [dstA,hoj] using hd
   have hdi : o.dst = some d:=by simpa [dstA,ho] using he
   rcases (orderB_spec hO hoj).2.2.2 i o h1 ho with hap | ⟨e,he,hb,hon⟩
   ·exact (Oper.apart_spec hap).2.1 d hdi hdj
   ·have:=hcl j oj hoj hS e he hb
    rw [hon,hun] at this; cases this
 have hgo : ∀ W',C W' → K ((stA ops vals a0 (fun j => listed.getD j false) k).put o.dst (vals i)) W':=fun W' hC' => by
  rw [← hins]
  exact hK W' hC'
 unfold wpOpIn
 simp only [ho]
 rcases hvals with ⟨hw,hy⟩ | ⟨hw,hv⟩
 ·rw [hwa,if_pos hw]
  refine wpIn_of_opY (opY_congr hsel hdef (fun x hx => (hev x hx).symm) hy) hC ?_
  exact hgo
 ·rw [hwa,if_neg (by rw [hw]; simp)]
  refine ⟨fun _ _ => trivial,?_⟩
  have:=hgo W hC
  rwa [hv] at this
def QWg (ops : Array Oper) (Y : Oper → (Operand → Value) → Value → Prop) (K : Act → Prop) : List Oper → Act → Prop
 | [],a => K a
 | o :: rest,a => if Region.wanted o (yielded ops a.tmps) then ∃ v,Y o a.eval v ∧ QWg ops Y K rest (a.put o.dst v) else QWg ops Y K rest (a.put o.dst undef)
theorem qwg_vals {Y : Oper → (Operand → Value) → Value → Prop} {K : Act → Prop} : ∀ (l : List Oper) (i0 : Nat) (a : Act),(∀ j,j < l.length → l[j]? = ops[i0 + j]?) → QWg ops Y K l a →
  ∃ (vals : Nat → Value) (acts : Nat → Act),acts 0 = a ∧ (∀ j,acts (j + 1) = (acts j).put (dstA ops (i0 + j)) (vals j)) ∧
   (∀ j o,j < l.length → ops[i0 + j]? = some o → (Region.wanted o (yielded ops (acts j).tmps) = true ∧ Y o (acts j).eval (vals j)) ∨ (Region.wanted o (yielded ops (acts j).tmps) = false ∧ vals j = undef)) ∧
   K (acts l.length)
 | [],i0,a,_,h => by
  have hK : K a:=h
  exact ⟨fun _ => undef,fun j => Nat.rec a (fun j b => b.put (dstA ops (i0 + j)) undef) j,rfl,fun _ => rfl,(fun j o hj => by simp at hj),hK⟩
 | o :: rest,i0,a,hl,h => by
  have ho : ops[i0]? = some o:=by simpa using (hl 0 (by simp)).symm
  have hl' : ∀ j,j < rest.length → rest[j]? = ops[i0 + 1 + j]?:=fun j hj => by
   have:=hl (j + 1) (by simp; omega)
   simpa [Nat.add_assoc,Nat.add_comm 1 j] using this
  have hdst : dstA ops i0 = o.dst:=by simp [dstA,ho]
  have key : ∃ v,((Region.wanted o (yielded ops a.tmps) = true ∧ Y o a.eval v) ∨ (Region.wanted o (yielded ops a.tmps) = false ∧ v = undef)) ∧ QWg ops Y K rest (a.put o.dst v):=by
   unfold QWg at h
   by_cases hw : Region.wanted o (yielded ops a.tmps) = true
   ·rw [if_pos hw] at h
    obtain ⟨v,h1,h2⟩:=h
    exact ⟨v,.inl ⟨hw,h1⟩,h2⟩
   ·rw [if_neg hw] at h
    exact ⟨undef,.inr ⟨by simpa using hw,rfl⟩,h⟩
  obtain ⟨v,hv,hq⟩:=key
  obtain ⟨vals,acts,h0,h1,h2,h3⟩:=qwg_vals rest (i0 + 1) _ hl' hq
  refine ⟨fun | 0 => v | j + 1 => vals j,fun | 0 => a | j + 1 => acts j,rfl,?_,?_,h3⟩
  ·intro j
   cases j with
   | zero => show acts 0 = a.put (dstA ops (i0 + 0)) v; rw [h0,Nat.add_zero,hdst]
   | succ j => show acts (j + 1) = (acts j).put (dstA ops (i0 + (j + 1))) (vals j); rw [h1 j]; simp [Nat.add_assoc,Nat.add_comm 1 j]
  ·intro j o' hj ho'
   cases j with
   | zero =>
    have : o' = o:=by rw [Nat.add_zero,ho] at ho'; cases ho'; rfl
    subst this
    exact hv
   | succ j => exact h2 j o' (by simpa using hj) (by simpa [Nat.add_assoc,Nat.add_comm 1 j] using ho')
def allocB (ops : Array Oper) (k : Nat) : Bool:=match ops[k]? with
 | some ⟨some _,.alloc _,_,_,af,none⟩ => af.all fun e => !Region.binds .any e
 | _ => false
theorem wp_drawsA {l : List Oper} (k : Nat) (hm : P.follows .mixedOrders = true) (hO : orderB l.toArray = true) (hT : tailB l.toArray (k + 1) = true) (hA : allocB l.toArray k = true) {id : Nat} {a0 : Act} {W0 w0 : World} {L : List Res}
  (h0 : Ext w0 { W0 with drawn:=W0.drawn + 1 } L)
  (hq : QWg l.toArray (fun o ρ v => ∀ L2,OpY r n P o ρ (fun W => Ext w0 W (L ++ L2)) (fun W => Ext w0 W (L ++ L2)) v) (fun a' => ∀ d e ty pos af,l[k]? = some ⟨some d,.alloc e,ty,pos,af,none⟩ →
   ∃ z,zeroOf P e = some z ∧ ∀ b W,Ext w0 W (L ++ [cellsR b e z.cells.toList]) → OL r n P l.toArray (onlyN Q) (l.drop (k + 1)) (a'.put (some d) (.pointer (some ⟨b,0,none⟩))) W) (l.take k) a0) : (Code.region id l.toArray true).wpIn (Fw r) n P Q a0 W0:=by
 refine wpIn_mono (Q:=onlyN Q) ?_ (fun e a w h => by obtain ⟨rfl,h⟩:=h; exact h)
 refine wpIn_region_any hm ?_
 obtain ⟨ops,hops⟩ : ∃ ops,ops = l.toArray:=⟨_,rfl⟩
 rw [← hops] at hO hT hA hq ⊢
 unfold tailB at hT
 simp only [Bool.and_eq_true,Bool.or_eq_true,decide_eq_true_eq] at hT
 obtain ⟨hkN,hT⟩:=hT
 have hkk : k < ops.size:=by omega
 obtain ⟨dd,e,ty,pos,af,hok,haf⟩ : ∃ d e ty pos af,ops[k]? = some ⟨some d,.alloc e,ty,pos,af,none⟩ ∧ ∀ x ∈ af,Region.binds .any x = false:=by
  unfold allocB at hA
  split at hA
  ·rename_i d e ty pos af ho
   exact ⟨d,e,ty,pos,af,ho,fun x hx => by simpa using Array.all_eq_true'.1 hA x hx⟩
  ·cases hA
 have hlen : (l.take k).length = k:=by rw [hops] at hkk; simp at hkk; simp; omega
 obtain ⟨vals,acts,ha0,hacts,hvals,hK⟩:=qwg_vals (l.take k) 0 a0 (fun j hj => by
  rw [hlen] at hj
  rw [hops]; simp [hj]) hq
 rw [hlen] at hvals hK
 simp only [Nat.zero_add] at hacts hvals
 obtain ⟨z,hz,hK⟩:=hK dd e ty pos af (by rw [hops] at hok; simpa using hok)
 obtain ⟨inf,hinf,hzz⟩ : ∃ inf,P.info? e = some inf ∧ inf.zero = some z:=by
  unfold zeroOf at hz
  cases hi : P.info? e with
  | none => rw [hi] at hz; cases hz
  | some inf => rw [hi] at hz; exact ⟨inf,rfl,hz⟩
 have hst : ∀ m,acts m = stA ops vals a0 (fun _ => true) m:=by
  intro m
  induction m with
  | zero => exact ha0
  | succ m ih => rw [hacts m,ih]; simp [stA]
 have hfr0 : (k + 1) = ops.size ∨ (List.range (k + 1)).all (fun i => [k].contains i || (List.range (k + 1 + 1)).any fun j => decide (i < j) && tailB.Region.waitsB ops j i) = true ∧ ((List.range ops.size).all fun t => decide (t ≤ k + 1) || tailB.Region.waitsB ops t (t - 1)) = true:=by
  rcases hT with h | h
  ·exact .inl h
  ·refine .inr ⟨?_,h.2⟩
   rw [List.all_eq_true] at *
   intro i hi
   rw [h.1 i hi,Bool.or_true]
 have hfr1 : (k + 1) = ops.size ∨ (List.range (k + 1)).all (fun i => ([] : List Nat).contains i || (List.range (k + 1 + 1)).any fun j => decide (i < j) && tailB.Region.waitsB ops j i) = true ∧ ((List.range ops.size).all fun t => decide (t ≤ k + 1) || tailB.Region.waitsB ops t (t - 1)) = true:=by
  rcases hT with h | h
  ·exact .inl h
  ·refine .inr ⟨?_,h.2⟩
   rw [List.all_eq_true] at *
   intro i hi
   rw [h.1 i hi,Bool.or_true]
 have hsink:=sink (fr:=[]) hkN hfr1
 have main : ∀ (c : Nat) (listed : Array Bool) (W : World),Ext w0 W L → listed.size = ops.size → left listed k = c →
   (∀ j oj,ops[j]? = some oj → listed.getD j false = true → ∀ e ∈ oj.after,Region.binds .any e = true → listed.getD e.on false = true) →
   (∀ t,k ≤ t → t < ops.size → listed.getD t false = false) →
   wpAnyIn (Fw r) n P .any ops (onlyN Q) (c + (ops.size - k)) listed (stA ops vals a0 (fun j => listed.getD j false) k) W:=by
  intro c
  induction c using Nat.strongRecOn with
  | _ c ih =>
  intro listed W hC hsz hc hcl htl
  have hunk : listed.getD k false = false:=htl k (Nat.le_refl _) hkk
  have hrk : k ∈ Region.ready .any ops listed:=mem_ready.2 ⟨by rw [getD_bool (by omega) true false]; exact hunk,_,hok,fun x hx hb => by rw [haf x hx] at hb; cases hb⟩
  rw [show c + (ops.size - k) = (c + (ops.size - (k + 1))) + 1 by omega]
  refine ⟨fun h => (by rw [h] at hrk; cases hrk),fun i hi => ?_⟩
  rcases Nat.lt_trichotomy i k with hik | hik | hik
  ·obtain ⟨hun,o,ho,hall⟩:=mem_ready.1 hi
   have hun':=hun
   rw [getD_bool (by omega) true false] at hun'
   have hl:=left_set (by omega) hun' k hik
   refine quiet_step (r:=r) (C:=fun W => Ext w0 W L) hO (by omega) hst hC hsz hcl hik hun ho hall ?_ (fun W' hC' => ?_)
   ·rcases hvals i o hik ho with ⟨h1,h2⟩ | h1
    ·refine .inl ⟨h1,?_⟩
     have:=h2 []
     rw [List.append_nil] at this
     exact this
    ·exact .inr h1
   ·have:=ih (left (listed.setIfInBounds i true) k) (by omega) (listed.setIfInBounds i true) W' hC' (by simpa using hsz) rfl (fun j oj hoj hlj e he hb => by
     rw [getD_set (by omega)] at hlj ⊢
     by_cases e' : j = i
     ·subst e'
      rw [ho] at hoj; cases hoj
      rw [hall e he hb]; rfl
     ·have : (j == i) = false:=by simpa using e'
      rw [this,Bool.or_false] at hlj
      rw [hcl j oj hoj hlj e he hb]; rfl) (fun t h1 h2 => by
     rw [getD_set (by omega),htl t h1 h2]
     simp; omega)
    rw [show left (listed.setIfInBounds i true) k + (ops.size - k) = c + (ops.size - (k + 1)) by omega] at this
    exact this
  ·subst hik
   unfold wpOpIn
   simp only [hok]
   rw [if_pos (show Region.wanted (⟨some dd,.alloc e,ty,pos,af,none⟩ : Oper) _ = true from rfl)]
   refine ⟨fun _ _ => by cases r <;> trivial,?_⟩
   have hrun : ((⟨some dd,.alloc e,ty,pos,af,none⟩ : Oper).semAt (Fw r).round (stA ops vals a0 (fun j => listed.getD j false) i).eval).run P W = .ok (.value (.pointer (some ⟨W.heap.size,0,none⟩))) (W.alloc (.cells z.cells e)):=by
    have e0 : (Fw r).round = r:=by cases r <;> rfl
    rw [e0,semAt_exec (by intro c h; cases h)]
    simp only [execOp,Instr.alloc,zeroValue,typeInfo,newVar,newRow]
    simp [hinf,hzz]
   rw [hrun]
   have hW2 : Ext w0 (W.alloc (.cells z.cells e)) (L ++ [cellsR W.heap.size e z.cells.toList]):=by
    have:=hC.alloc (.cells z.cells e)
    simpa [cellsR] using this
   generalize hb0 : W.heap.size = b at hW2 hrun
   show wpAnyIn (Fw r) n P .any ops (onlyN Q) _ _ _ _
   have hvb : ∀ m,m ≤ i → stA ops (fun j => if j = i then .pointer (some ⟨b,0,none⟩) else vals j) a0 (fun _ => true) m = acts m:=by
    intro m
    induction m with
    | zero => intro _; exact ha0.symm
    | succ m ihm => intro hm; rw [hacts m,← ihm (by omega)]; simp [stA]; rw [if_neg (by omega)]
   have hvl : ∀ m,m ≤ i → stA ops (fun j => if j = i then .pointer (some ⟨b,0,none⟩) else vals j) a0 (fun j => (listed.setIfInBounds i true).getD j false) m = stA ops vals a0 (fun j => listed.getD j false) m:=by
    intro m
    induction m with
    | zero => intro _; rfl
    | succ m ihm =>
     intro hm
     simp only [stA]
     rw [ihm (by omega),getD_set (by omega),if_neg (show ¬ m = i by omega)]
     have : (m == i) = false:=by simp; omega
     rw [this,Bool.or_false]
   have hli : (listed.setIfInBounds i true).getD i false = true:=by rw [getD_set (by omega)]; simp
   have hdi : dstA ops i = some dd:=by simp [dstA,hok]
   have:=any_quiet (r:=r) (n:=n) (P:=P) (Q:=Q) hops [i] (k:=i + 1) hO hkN hfr0 (a0:=a0) (vals:=fun j => if j = i then .pointer (some ⟨b,0,none⟩) else vals j)
    (acts:=stA ops (fun j => if j = i then .pointer (some ⟨b,0,none⟩) else vals j) a0 (fun _ => true)) (C:=fun W => Ext w0 W (L ++ [cellsR b e z.cells.toList])) (fun _ => rfl)
    (fun j o hj hne ho => by
     have hji : j < i:=by
      have : j ≠ i:=fun h => hne (by simp [h])
      omega
     rw [hvb j (by omega)]
     simp only [if_neg (show ¬ j = i by omega)]
     rcases hvals j o hji ho with ⟨h1,h2⟩ | h1
     ·exact .inl ⟨h1,h2 _⟩
     ·exact .inr h1)
    (fun W' hW' => by
     have e9 : stA ops (fun j => if j = i then .pointer (some ⟨b,0,none⟩) else vals j) a0 (fun _ => true) (i + 1) = (acts i).put (some dd) (.pointer (some ⟨b,0,none⟩)):=by
      simp only [stA]
      rw [hvb i (Nat.le_refl _),hdi]
      simp
     rw [e9]
     exact hK b W' hW')
    c (listed.setIfInBounds i true) _ hW2 (by simpa using hsz) (by
     rw [← hc]
     unfold left
     rw [List.range_succ,List.filter_append,List.length_append,List.filter_cons_of_neg (by rw [hli]; simp)]
     simp only [List.filter_nil,List.length_nil,Nat.add_zero]
     congr 1
     exact List.filter_congr fun j hj => by
      have:=List.mem_range.1 hj
      rw [getD_set (by omega)]
      have : (j == i) = false:=by simp; omega
      rw [this,Bool.or_false])
    (fun j oj hoj hlj e' he hb => by
     rw [getD_set (by omega)] at hlj ⊢
     by_cases e2 : j = i
     ·subst e2
      rw [hok] at hoj; cases hoj
      rw [haf e' he] at hb; cases hb
     ·have : (j == i) = false:=by simpa using e2
      rw [this,Bool.or_false] at hlj
      rw [hcl j oj hoj hlj e' he hb]; rfl)
    (fun t h1 h2 => by
     rw [getD_set (by omega),htl t (by omega) h2]
     simp; omega)
    (fun j hj => by rw [List.mem_singleton.1 hj]; exact hli)
   have e9 : stA ops (fun j => if j = i then .pointer (some ⟨b,0,none⟩) else vals j) a0 (fun j => (listed.setIfInBounds i true).getD j false) (i + 1) = (stA ops vals a0 (fun j => listed.getD j false) i).put (some dd) (.pointer (some ⟨b,0,none⟩)):=by
    simp only [stA]
    rw [hvl i (Nat.le_refl _),hdi,hli]
    simp
   rw [e9] at this
   exact this
  ·exact absurd hi (hsink listed hsz hcl (fun t h1 h2 => htl t (by omega) h2) (fun i hi => absurd hi List.not_mem_nil) _ k rfl (by omega) hunk i hik)
 have hfin:=main (left (Array.replicate ops.size false) k) (Array.replicate ops.size false) _ h0 (by simp) rfl (fun j oj hoj hl => by
  have : j < ops.size:=(Array.getElem?_eq_some_iff.1 hoj).1
  simp [this] at hl) (fun t _ h => by simp [h])
 have e1 : left (Array.replicate ops.size false) k + (ops.size - k) = ops.size:=by
  have : left (Array.replicate ops.size false) k = k:=by
   unfold left
   rw [List.filter_eq_self.2 fun j hj => ?_]
   ·simp
   ·have:=List.mem_range.1 hj
    simp [show j < ops.size by omega]
  omega
 have e2 : stA ops vals a0 (fun j => (Array.replicate ops.size false).getD j false) k = a0:=by
  have : ∀ m,m ≤ k → stA ops vals a0 (fun j => (Array.replicate ops.size false).getD j false) m = a0:=by
   intro m
   induction m with
   | zero => intro _; rfl
   | succ m ih => intro hm; simp only [stA]; rw [ih (by omega)]; simp [show m < ops.size by omega]
  exact this k (Nat.le_refl _)
 rw [e1,e2] at hfin
 exact hfin
end
section
variable {r : Option Nat} {n : Nat} {P : Program} {ops : Array Oper} {Q : Exit → Act → World → Prop} {w0 : World} {L : List Res} {m : Nat} {tm : Nat → Value} {d : List Deferred}
variable {t : Tmp} {ty : TypeId} {pos : String} {af : Array Edge} {g : Option (Nat × Bool)} {l rest : List Oper}
def AX (r : Option Nat) (n : Nat) (P : Program) (ops : Array Oper) (Q : Exit → Act → World → Prop) (w0 : World) (L : List Res) (k : Nat) (all : List Oper) (l : List Oper) (m : Nat) (tm : Nat → Value) (d : List Deferred) : Prop :=
 QWg ops (fun o ρ v => ∀ L2,OpY r n P o ρ (fun W => Ext w0 W (L ++ L2)) (fun W => Ext w0 W (L ++ L2)) v) (fun a' => ∀ d e ty pos af,all[k]? = some ⟨some d,.alloc e,ty,pos,af,none⟩ →
   ∃ z,zeroOf P e = some z ∧ ∀ b W,Ext w0 W (L ++ [cellsR b e z.cells.toList]) → OL r n P ops (onlyN Q) (all.drop (k + 1)) (a'.put (some d) (.pointer (some ⟨b,0,none⟩))) W) l (act m tm d)
theorem cx_drawsA (k : Nat) {id : Nat} {l : List Oper} (hm : P.follows .mixedOrders = true) (hO : orderB l.toArray = true) (hT : tailB l.toArray (k + 1) = true) (hA : allocB l.toArray k = true)
  (h : AX r n P l.toArray Q w0 L k l (l.take k) m tm d) : CX r n P (.region id l.toArray true) Q w0 L m tm d :=
 fun _ hW => wp_drawsA k hm hO hT hA hW.drawn h
theorem ax_y {k : Nat} {all : List Oper} {op : Op} {v : Value} (hw : seesB ops m tm ⟨some t,op,ty,pos,af,g⟩ = true) (hy : ∀ L2,OpY r n P ⟨some t,op,ty,pos,af,g⟩ (opv m tm) (fun W => Ext w0 W (L ++ L2)) (fun W => Ext w0 W (L ++ L2)) v)
  (h : AX r n P ops Q w0 L k all rest m (upd tm t v) d) : AX r n P ops Q w0 L k all (⟨some t,op,ty,pos,af,g⟩ :: rest) m tm d:=by
 unfold AX QWg
 rw [wanted_act,if_pos hw,eval_act]
 refine ⟨v,hy,?_⟩
 rw [put_act]
 exact h
theorem ax_nil {k : Nat} {all : List Oper} {e : TypeId} {z : Value} (hk : all[k]? = some ⟨some t,.alloc e,ty,pos,af,none⟩) (hz : zeroOf P e = some z)
  (h : ∀ b,OX r n P ops (onlyN Q) w0 (L ++ [cellsR b e z.cells.toList]) (all.drop (k + 1)) m (upd tm t (.pointer (some ⟨b,0,none⟩))) d) : AX r n P ops Q w0 L k all [] m tm d:=by
 unfold AX QWg
 intro d' e' ty' pos' af' hk'
 rw [hk] at hk'
 simp only [Option.some.injEq,Oper.mk.injEq,Op.alloc.injEq,and_true] at hk'
 obtain ⟨rfl,rfl,_,_,_⟩:=hk'
 refine ⟨z,hz,fun b W hW => ?_⟩
 rw [put_act]
 exact h b W hW
end
open Go.RowKit (Below)
section
variable {r : Option Nat} {n : Nat} {P : Program} {ops : Array Oper} {Q : Exit → Act → World → Prop}
def capQ (w0 : World) (L : List Res) (a : Act) (dst : Option Tmp) (G : Value → List Res → Prop) : Exit → Act → World → Prop:=fun e a' W =>
 e = .normal ∧ ∃ v L1,a' = a.put dst v ∧ G v L1 ∧ Ext w0 W (L ++ L1)
def QWq (r : Option Nat) (n : Nat) (P : Program) (ops : Array Oper) (w0 : World) (L : List Res) (G : Value → List Res → Prop) (K : Act → Prop) : Nat → List Oper → Act → Prop
 | _,[],a => K a
 | 0,o :: rest,a => Region.wanted o (yielded ops a.tmps) = true ∧ (∀ W,Ext w0 W L → o.wpIn (Fw r) n P a W (fun a' W' => capQ w0 L a o.dst G .normal a' W') (capQ w0 L a o.dst G)) ∧ QWg ops (fun o ρ v => ∀ L2,OpY r n P o ρ (fun W => Ext w0 W (L ++ L2)) (fun W => Ext w0 W (L ++ L2)) v) K rest (a.put o.dst undef)
 | q + 1,o :: rest,a => if Region.wanted o (yielded ops a.tmps) then ∃ v,(∀ L2,OpY r n P o a.eval (fun W => Ext w0 W (L ++ L2)) (fun W => Ext w0 W (L ++ L2)) v) ∧ QWq r n P ops w0 L G K q rest (a.put o.dst v) else QWq r n P ops w0 L G K q rest (a.put o.dst undef)
theorem qwq_vals {w0 : World} {L : List Res} {G : Value → List Res → Prop} {K : Act → Prop} : ∀ (q : Nat) (l : List Oper) (i0 : Nat) (a : Act),q < l.length → (∀ j,j < l.length → l[j]? = ops[i0 + j]?) → QWq r n P ops w0 L G K q l a →
  ∃ (vals : Nat → Value) (acts : Nat → Act),acts 0 = a ∧ (∀ j,acts (j + 1) = (acts j).put (dstA ops (i0 + j)) (vals j)) ∧ vals q = undef ∧
   (∀ o,ops[i0 + q]? = some o → Region.wanted o (yielded ops (acts q).tmps) = true ∧ ∀ W,Ext w0 W L → o.wpIn (Fw r) n P (acts q) W (fun a' W' => capQ w0 L (acts q) o.dst G .normal a' W') (capQ w0 L (acts q) o.dst G)) ∧
   (∀ j o,j < l.length → j ≠ q → ops[i0 + j]? = some o → (Region.wanted o (yielded ops (acts j).tmps) = true ∧ ∀ L2,OpY r n P o (acts j).eval (fun W => Ext w0 W (L ++ L2)) (fun W => Ext w0 W (L ++ L2)) (vals j)) ∨ (Region.wanted o (yielded ops (acts j).tmps) = false ∧ vals j = undef)) ∧
   K (acts l.length):=by
 intro q
 induction q with
 | zero =>
  intro l i0 a hq hl h
  cases l with
  | nil => simp at hq
  | cons o rest =>
   obtain ⟨hw,hop,hrest⟩:=h
   have ho : ops[i0]? = some o:=by simpa using (hl 0 (by simp)).symm
   have hdst : dstA ops i0 = o.dst:=by simp [dstA,ho]
   obtain ⟨vals,acts,h0,h1,h2,h3⟩:=qwg_vals rest (i0 + 1) _ (fun j hj => by
    have:=hl (j + 1) (by simp; omega)
    simpa [Nat.add_assoc,Nat.add_comm 1 j] using this) hrest
   refine ⟨fun | 0 => undef | j + 1 => vals j,fun | 0 => a | j + 1 => acts j,rfl,?_,rfl,?_,?_,h3⟩
   ·intro j
    cases j with
    | zero => show acts 0 = a.put (dstA ops (i0 + 0)) undef; rw [h0,Nat.add_zero,hdst]
    | succ j => show acts (j + 1) = (acts j).put (dstA ops (i0 + (j + 1))) (vals j); rw [h1 j]; simp [Nat.add_assoc,Nat.add_comm 1 j]
   ·intro o' ho'
    rw [Nat.add_zero,ho] at ho'; cases ho'
    exact ⟨hw,hop⟩
   ·intro j o' hj hne ho'
    cases j with
    | zero => exact absurd rfl hne
    | succ j => exact h2 j o' (by simpa using hj) (by simpa [Nat.add_assoc,Nat.add_comm 1 j] using ho')
 | succ q ih =>
  intro l i0 a hq hl h
  cases l with
  | nil => simp at hq
  | cons o rest =>
   have ho : ops[i0]? = some o:=by simpa using (hl 0 (by simp)).symm
   have hdst : dstA ops i0 = o.dst:=by simp [dstA,ho]
   have hl' : ∀ j,j < rest.length → rest[j]? = ops[i0 + 1 + j]?:=fun j hj => by
    have:=hl (j + 1) (by simp; omega)
    simpa [Nat.add_assoc,Nat.add_comm 1 j] using this
   have key : ∃ v,((Region.wanted o (yielded ops a.tmps) = true ∧ ∀ L2,OpY r n P o a.eval (fun W => Ext w0 W (L ++ L2)) (fun W => Ext w0 W (L ++ L2)) v) ∨ (Region.wanted o (yielded ops a.tmps) = false ∧ v = undef)) ∧ QWq r n P ops w0 L G K q rest (a.put o.dst v):=by
    unfold QWq at h
    by_cases hw : Region.wanted o (yielded ops a.tmps) = true
    ·rw [if_pos hw] at h
     obtain ⟨v,h1,h2⟩:=h
     exact ⟨v,.inl ⟨hw,h1⟩,h2⟩
    ·rw [if_neg hw] at h
     exact ⟨undef,.inr ⟨by simpa using hw,rfl⟩,h⟩
   obtain ⟨v,hv,hqq⟩:=key
   obtain ⟨vals,acts,h0,h1,hu,hop,h2,h3⟩:=ih rest (i0 + 1) _ (by simpa using hq) hl' hqq
   refine ⟨fun | 0 => v | j + 1 => vals j,fun | 0 => a | j + 1 => acts j,rfl,?_,hu,?_,?_,h3⟩
   ·intro j
    cases j with
    | zero => show acts 0 = a.put (dstA ops (i0 + 0)) v; rw [h0,Nat.add_zero,hdst]
    | succ j => show acts (j + 1) = (acts j).put (dstA ops (i0 + (j + 1))) (vals j); rw [h1 j]; simp [Nat.add_assoc,Nat.add_comm 1 j]
   ·intro o' ho'
    exact hop o' (by simpa [Nat.add_assoc,Nat.add_comm 1 q] using ho')
   ·intro j o' hj hne ho'
    cases j with
    | zero =>
     have : o' = o:=by rw [Nat.add_zero,ho] at ho'; cases ho'; rfl
     subst this
     exact hv
    | succ j => exact h2 j o' (by simpa using hj) (fun e => hne (by omega)) (by simpa [Nat.add_assoc,Nat.add_comm 1 j] using ho')
theorem put_put (a : Act) (d : Option Tmp) (u v : Value) : (a.put d u).put d v = a.put d v:=by
 cases d with
 | none => rfl
 | some i =>
  show (⟨(a.tmps.setIfInBounds i u).setIfInBounds i v,a.defers⟩ : Act) = ⟨a.tmps.setIfInBounds i v,a.defers⟩
  congr 1
  apply Array.ext_getElem?
  intro j
  simp only [Array.getElem?_setIfInBounds]
  by_cases e : i = j <;> simp [e]
theorem put_size (a : Act) (d : Option Tmp) (v : Value) : (a.put d v).tmps.size = a.tmps.size:=by
 cases d with
 | none => rfl
 | some i => simp [Act.put]
theorem stA_size (vals : Nat → Value) (a0 : Act) (S : Nat → Bool) : ∀ m,(stA ops vals a0 S m).tmps.size = a0.tmps.size
 | 0 => rfl
 | m + 1 => by
  unfold stA
  split
  ·rw [put_size,stA_size vals a0 S m]
  ·exact stA_size vals a0 S m
theorem stA_defs (vals : Nat → Value) (a0 : Act) (S : Nat → Bool) : ∀ m,(stA ops vals a0 S m).defers = a0.defers
 | 0 => rfl
 | m + 1 => by
  unfold stA
  split
  ·rw [put_defs,stA_defs vals a0 S m]
  ·exact stA_defs vals a0 S m
theorem put_same {a b : Act} {d : Option Tmp} {u v : Value} (hs : a.tmps.size = b.tmps.size) (h : a.put d u = a.put d v) : b.put d u = b.put d v:=by
 cases d with
 | none => rfl
 | some i =>
  have h1 : a.tmps.setIfInBounds i u = a.tmps.setIfInBounds i v:=congrArg Act.tmps h
  show (⟨b.tmps.setIfInBounds i u,b.defers⟩ : Act) = ⟨b.tmps.setIfInBounds i v,b.defers⟩
  congr 1
  apply Array.ext_getElem?
  intro j
  have h2:=congrArg (fun t => t[j]?) h1
  simp only [Array.getElem?_setIfInBounds] at h2 ⊢
  by_cases e : i = j
  ·subst e
   by_cases hl : i < b.tmps.size
   ·simp [hl,hs] at h2 ⊢
    exact h2
   ·simp [hl]
  ·simp [e]
theorem wpIn_move {o : Oper} {a b : Act} {W w0 : World} {L : List Res} {G : Value → List Res → Prop} {K : Act → World → Prop} (hs : ∀ cs x,o.op ≠ .select cs x) (hd : ∀ c,o.op ≠ .defer c) (hev : ∀ x ∈ o.op.operands,a.eval x = b.eval x) (hsz : a.tmps.size = b.tmps.size) (_hdf : a.defers = b.defers)
  (h : o.wpIn (Fw r) n P a W (fun a' W' => capQ w0 L a o.dst G .normal a' W') (capQ w0 L a o.dst G)) (hK : ∀ v L1 W',G v L1 → Ext w0 W' (L ++ L1) → K (b.put o.dst v) W') : o.wpIn (Fw r) n P b W K (onlyN Q):=by
 refine ⟨fun _ _ => by cases r <;> trivial,?_⟩
 have h2:=h.2
 have e : o.semAt r b.eval = o.semAt r a.eval:=by
  have e1 : execOp b.eval o = execOp a.eval o:=execOp_congr o hs (fun x hx => (hev x hx).symm)
  cases r with
  | none => rw [Oper.semAt_none,Oper.semAt_none,e1]
  | some l => rw [Oper.semAt_some l _ o hd,Oper.semAt_some l _ o hd,e1]
 have e0 : (Fw r).round = r:=by cases r <;> rfl
 rw [e0] at h2 ⊢
 rw [e]
 have key : ∀ u W',capQ w0 L a o.dst G .normal (a.put o.dst u) W' → K (b.put o.dst u) W':=fun u W' hc => by
  obtain ⟨_,v,L1,hv,hG,hE⟩:=hc
  rw [put_same hsz hv]
  exact hK v L1 W' hG hE
 generalize (o.semAt r a.eval).run P W = res at h2 ⊢
 match res,h2 with
 | .ok (.value u) W',h2 => exact key u W' h2
 | .ok .skip W',h2 => exact key undef W' h2
 | .ok (.defer d') W',h2 =>
  obtain ⟨_,v,L1,hv,_,_⟩:=h2
  have h9:=congrArg Act.defers hv
  rw [put_defs,put_defs] at h9
  exact absurd h9 (by simp)
 | .ok (.enter f args) W',h2 =>
  refine ⟨h2.1,h2.2.mono ?_⟩
  rintro (_ | _ | _) w hw
  ·exact key _ _ hw
  ·exact absurd hw.1 (by intro h; cases h)
  ·obtain ⟨a9,w9,h9⟩:=hw
   exact absurd h9.1 (by intro h; cases h)
 | .ok (.row row args) W',h2 =>
  refine ⟨h2.1,?_⟩
  exact RowsIn.mono h2.2 (fun u w hw => key u w hw)
 | .ok (.round l f tmps assign body) W',h2 =>
  refine ⟨h2.1,h2.2.mono ?_⟩
  rintro (_ | _ | _) w hw
  ·exact key _ _ hw
  ·exact absurd hw.1 (by intro h; cases h)
  ·obtain ⟨a9,w9,h9⟩:=hw
   exact absurd h9.1 (by intro h; cases h)
 | .halt (.panic u) W',h2 => exact absurd h2.1 (by intro h; cases h)
def floatB (ops : Array Oper) (q k : Nat) : Bool:=decide (q < k) && (List.range k).all fun j => decide (j ≤ q) || (match ops[q]?,ops[j]? with
 | some oq,some oj => oq.apart ops oj
 | _,_ => false)
theorem wp_drawsQ {l : List Oper} (q k : Nat) (G : Value → List Res → Prop) (hm : P.follows .mixedOrders = true) (hO : orderB l.toArray = true) (hT : tailB l.toArray k = true) (hF : floatB l.toArray q k = true) {id : Nat} {a0 : Act} {W0 w0 : World} {L : List Res}
  (h0 : Ext w0 { W0 with drawn:=W0.drawn + 1 } L)
  (hq : QWq r n P l.toArray w0 L G (fun a' => ∀ v L1 W,G v L1 → Ext w0 W (L ++ L1) → OL r n P l.toArray (onlyN Q) (l.drop k) (a'.put ((l[q]?).bind (·.dst)) v) W) q (l.take k) a0) : (Code.region id l.toArray true).wpIn (Fw r) n P Q a0 W0:=by
 refine wpIn_mono (Q:=onlyN Q) ?_ (fun e a w h => by obtain ⟨rfl,h⟩:=h; exact h)
 refine wpIn_region_any hm ?_
 obtain ⟨ops,hops⟩ : ∃ ops,ops = l.toArray:=⟨_,rfl⟩
 rw [← hops] at hO hT hF hq ⊢
 unfold tailB at hT
 simp only [Bool.and_eq_true,Bool.or_eq_true,decide_eq_true_eq] at hT
 obtain ⟨hkN,hT⟩:=hT
 unfold floatB at hF
 simp only [Bool.and_eq_true,decide_eq_true_eq] at hF
 obtain ⟨hqk,hF⟩:=hF
 have hqN : q < ops.size:=by omega
 obtain ⟨oq,hoq⟩ : ∃ o,ops[q]? = some o:=⟨_,Array.getElem?_eq_some_iff.2 ⟨hqN,rfl⟩⟩
 have hfar : ∀ j oj,q < j → j < k → ops[j]? = some oj → oq.apart ops oj = true:=fun j oj h1 h2 hoj => by
  have:=List.all_eq_true.1 hF j (List.mem_range.2 h2)
  simp only [Bool.or_eq_true,decide_eq_true_eq,hoq,hoj] at this
  rcases this with h | h
  ·omega
  ·exact h
 have hlen : (l.take k).length = k:=by rw [hops] at hkN; simp at hkN; simp; omega
 obtain ⟨vals,acts,ha0,hacts,hvq,hopq,hvals,hK⟩:=qwq_vals q (l.take k) 0 a0 (by rw [hlen]; exact hqk) (fun j hj => by
  rw [hlen] at hj
  rw [hops]; simp [hj]) hq
 rw [hlen] at hvals hK
 simp only [Nat.zero_add] at hacts hvals hopq
 have hlq : (l[q]?).bind (·.dst) = oq.dst:=by
  rw [hops] at hoq
  have : l[q]? = some oq:=by simpa using hoq
  rw [this]; rfl
 rw [hlq] at hK
 have hst : ∀ m,acts m = stA ops vals a0 (fun _ => true) m:=by
  intro m
  induction m with
  | zero => exact ha0
  | succ m ih => rw [hacts m,ih]; simp [stA]
 have hdq : dstA ops q = oq.dst:=by simp [dstA,hoq]
 have hfr0 : k = ops.size ∨ (List.range k).all (fun i => [q].contains i || (List.range (k + 1)).any fun j => decide (i < j) && tailB.Region.waitsB ops j i) = true ∧ ((List.range ops.size).all fun t => decide (t ≤ k) || tailB.Region.waitsB ops t (t - 1)) = true:=by
  rcases hT with h | h
  ·exact .inl h
  ·refine .inr ⟨?_,h.2⟩
   rw [List.all_eq_true] at *
   intro i hi
   rw [h.1 i hi,Bool.or_true]
 have hfr1 : k = ops.size ∨ (List.range k).all (fun i => ([] : List Nat).contains i || (List.range (k + 1)).any fun j => decide (i < j) && tailB.Region.waitsB ops j i) = true ∧ ((List.range ops.size).all fun t => decide (t ≤ k) || tailB.Region.waitsB ops t (t - 1)) = true:=by
  rcases hT with h | h
  ·exact .inl h
  ·refine .inr ⟨?_,h.2⟩
   rw [List.all_eq_true] at *
   intro i hi
   rw [h.1 i hi,Bool.or_true]
 have hsink:=sink (fr:=[]) hkN hfr1
 have main : ∀ (c : Nat) (listed : Array Bool) (W : World),Ext w0 W L → listed.size = ops.size → left listed k = c + 1 → listed.getD q false = false →
   (∀ j oj,ops[j]? = some oj → listed.getD j false = true → ∀ e ∈ oj.after,Region.binds .any e = true → listed.getD e.on false = true) →
   (∀ t,k ≤ t → t < ops.size → listed.getD t false = false) →
   wpAnyIn (Fw r) n P .any ops (onlyN Q) (c + 1 + (ops.size - k)) listed (stA ops vals a0 (fun j => listed.getD j false) k) W:=by
  intro c
  induction c using Nat.strongRecOn with
  | _ c ih =>
  intro listed W hC hsz hc hunq hcl htl
  rw [show c + 1 + (ops.size - k) = (c + (ops.size - k)) + 1 by omega]
  have hrdy : ∀ j,j < ops.size → listed.getD j false = false → ∃ i,i ∈ Region.ready .any ops listed:=by
   intro j
   induction j using Nat.strongRecOn with
   | _ j ihj =>
    intro hj hun
    obtain ⟨o,ho⟩ : ∃ o,ops[j]? = some o:=⟨_,Array.getElem?_eq_some_iff.2 ⟨hj,rfl⟩⟩
    by_cases hall : ∀ e ∈ o.after,Region.binds .any e = true → listed.getD e.on false = true
    ·exact ⟨j,mem_ready.2 ⟨by rw [getD_bool (by omega) true false]; exact hun,o,ho,hall⟩⟩
    ·have : ∃ e ∈ o.after,Region.binds .any e = true ∧ listed.getD e.on false = false:=by
      apply Classical.byContradiction
      intro hno
      exact hall fun e he hb => by
       cases hl : listed.getD e.on false with
       | true => rfl
       | false => exact absurd ⟨e,he,hb,hl⟩ hno
     obtain ⟨e,he,hb,hf⟩:=this
     have hlt:=(orderB_spec hO ho).2.2.1 e he hb
     exact ihj e.on hlt (by omega) hf
  obtain ⟨i1,hi1⟩:=hrdy q hqN hunq
  refine ⟨fun h => (by rw [h] at hi1; cases hi1),fun i hi => ?_⟩
  obtain ⟨hun,o,ho,hall⟩:=mem_ready.1 hi
  have hiN : i < ops.size:=(Array.getElem?_eq_some_iff.1 ho).1
  have hun':=hun
  rw [getD_bool (by omega) true false] at hun'
  have hik : i < k:=by
   rcases Nat.lt_or_ge i k with h | h
   ·exact h
   ·exact absurd hi (hsink listed hsz hcl htl (fun i hi => absurd hi List.not_mem_nil) _ q rfl hqk hunq i h)
  have hl:=left_set (by omega) hun' k hik
  have hcl' : ∀ j oj,ops[j]? = some oj → (listed.setIfInBounds i true).getD j false = true → ∀ e ∈ oj.after,Region.binds .any e = true → (listed.setIfInBounds i true).getD e.on false = true:=fun j oj hoj hlj e he hb => by
   rw [getD_set (by omega)] at hlj ⊢
   by_cases e' : j = i
   ·subst e'
    rw [ho] at hoj; cases hoj
    rw [hall e he hb]; rfl
   ·have : (j == i) = false:=by simpa using e'
    rw [this,Bool.or_false] at hlj
    rw [hcl j oj hoj hlj e he hb]; rfl
  have htl' : ∀ t,k ≤ t → t < ops.size → (listed.setIfInBounds i true).getD t false = false:=fun t h1 h2 => by
   rw [getD_set (by omega),htl t h1 h2]
   simp; omega
  by_cases hiq : i = q
  ·subst hiq
   rw [hoq] at ho; cases ho
   obtain ⟨hwq,hwp⟩:=hopq oq hoq
   -- the frame as in the text's order
   have hlook : ∀ j,j < k → (listed.getD j false) ≠ decide (j < i) → ∀ d,dstA ops j = some d → ¬ d ∈ oq.looksAt ops:=by
    intro j hj hne d hd hmem
    obtain ⟨oj,hoj⟩ : ∃ oj,ops[j]? = some oj:=⟨_,Array.getElem?_eq_some_iff.2 ⟨by omega,rfl⟩⟩
    have hdj : oj.dst = some d:=by simpa [dstA,hoj] using hd
    rcases Nat.lt_trichotomy j i with h | h | h
    ·have hl : listed.getD j false = false:=by
      cases hl : listed.getD j false with
      | false => rfl
      | true => exact absurd (by rw [hl]; simp [h]) hne
     rcases (orderB_spec hO hoq).2.2.2 j oj h hoj with hap | ⟨e,he,hb,hon⟩
     ·exact (Oper.apart_spec hap).1 d hdj hmem
     ·have:=hall e he hb
      rw [hon,hl] at this; cases this
    ·subst h
     exact absurd (by rw [hun']; simp) hne
    ·exact (Oper.apart_spec (hfar j oj h hj hoj)).2.2 d hdj hmem
   have hag:=stA_agree (ops:=ops) vals a0 (fun x => x ∈ oq.looksAt ops) (fun j => listed.getD j false) (fun j => decide (j < i)) k hlook
   have hlex : stA ops vals a0 (fun j => decide (j < i)) k = acts i:=by
    rw [hst i]
    have h1 : ∀ m,m ≤ i → stA ops vals a0 (fun j => decide (j < i)) m = stA ops vals a0 (fun _ => true) m:=by
     intro m
     induction m with
     | zero => intro _; rfl
     | succ m ih => intro hm; simp only [stA]; rw [ih (by omega)]; simp; omega
    have h2 : ∀ m,i ≤ m → stA ops vals a0 (fun j => decide (j < i)) m = stA ops vals a0 (fun j => decide (j < i)) i:=by
     intro m
     induction m with
     | zero =>
      intro h
      have : i = 0:=by omega
      subst this; rfl
     | succ m ih =>
      intro hm
      by_cases e : i = m + 1
      ·rw [e]
      ·simp only [stA]
       rw [if_neg (by simp; omega)]
       exact ih (by omega)
    rw [h2 k (by omega),h1 i (Nat.le_refl _)]
   rw [hlex] at hag
   obtain ⟨hev,hwa⟩:=looks_same (ops:=ops) (o:=oq) (a:=stA ops vals a0 (fun j => listed.getD j false) k) (b:=acts i) hag.1
   obtain ⟨hsel,hdef,_,_⟩:=orderB_spec hO hoq
   unfold wpOpIn
   simp only [hoq]
   rw [hwa,if_pos hwq]
   refine wpIn_move (a:=acts i) hsel hdef (fun x hx => (hev x hx).symm) (by rw [hst i,stA_size,stA_size]) (by rw [hst i,stA_defs,stA_defs]) (hwp W hC) ?_
   intro v L1 W' hG hE
   -- behind it
   have hvb : ∀ m,stA ops (fun j => if j = i then v else vals j) a0 (fun _ => true) m = if m ≤ i then acts m else stA ops (fun j => if j = i then v else vals j) a0 (fun _ => true) m:=by
    intro m
    split
    ·rename_i hm
     induction m with
     | zero => exact ha0.symm
     | succ m ihm => rw [hacts m,← ihm (by omega)]; simp [stA]; rw [if_neg (by omega)]
    ·rfl
   have hfin2 : ∀ m,i < m → m ≤ k → stA ops (fun j => if j = i then v else vals j) a0 (fun _ => true) m = (acts m).put oq.dst v:=by
    intro m
    induction m with
    | zero => intro h; omega
    | succ m ihm =>
     intro h1 h2
     by_cases e : m = i
     ·subst e
      have:=hvb m
      rw [if_pos (Nat.le_refl _)] at this
      simp only [stA,if_true]
      rw [this,hdq,hacts m,hdq,hvq]
      exact (put_put _ _ _ _).symm
     ·have:=ihm (by omega) (by omega)
      simp only [stA,if_true]
      rw [this,if_neg e,hacts m]
      refine Act.put_comm _ _ _ (fun d hd hd' => ?_)
      obtain ⟨om,hom⟩ : ∃ om,ops[m]? = some om:=⟨_,Array.getElem?_eq_some_iff.2 ⟨by omega,rfl⟩⟩
      have hdm : om.dst = some d:=by simpa [dstA,hom] using hd'
      exact (Oper.apart_spec (hfar m om (by omega) (by omega) hom)).2.1 d hd hdm
   have hvl : ∀ m,m ≤ k → stA ops (fun j => if j = i then v else vals j) a0 (fun j => (listed.setIfInBounds i true).getD j false) m = if m ≤ i then stA ops vals a0 (fun j => listed.getD j false) m else (stA ops vals a0 (fun j => listed.getD j false) m).put oq.dst v:=by
    intro m
    induction m with
    | zero => intro _; simp; rfl
    | succ m ihm =>
     intro hm
     simp only [stA]
     rw [ihm (by omega),getD_set (by omega)]
     rcases Nat.lt_trichotomy m i with h | h | h
     ·rw [if_pos (show m ≤ i by omega),if_pos (show m + 1 ≤ i by omega),if_neg (show ¬ m = i by omega)]
      have : (m == i) = false:=by simp; omega
      rw [this,Bool.or_false]
     ·subst h
      rw [if_pos (Nat.le_refl m),if_neg (show ¬ (m + 1 ≤ m) by omega)]
      simp [hun',hdq]
     ·rw [if_neg (show ¬ m ≤ i by omega),if_neg (show ¬ m + 1 ≤ i by omega),if_neg (show ¬ m = i by omega)]
      have : (m == i) = false:=by simp; omega
      rw [this,Bool.or_false]
      split
      ·refine Act.put_comm _ _ _ (fun d hd hd' => ?_)
       obtain ⟨om,hom⟩ : ∃ om,ops[m]? = some om:=⟨_,Array.getElem?_eq_some_iff.2 ⟨by omega,rfl⟩⟩
       have hdm : om.dst = some d:=by simpa [dstA,hom] using hd'
       exact (Oper.apart_spec (hfar m om (by omega) (by omega) hom)).2.1 d hd hdm
      ·rfl
   have hli : (listed.setIfInBounds i true).getD i false = true:=by rw [getD_set (by omega)]; simp
   have:=any_quiet (r:=r) (n:=n) (P:=P) (Q:=Q) hops [i] (k:=k) hO hkN hfr0 (a0:=a0) (vals:=fun j => if j = i then v else vals j)
    (acts:=stA ops (fun j => if j = i then v else vals j) a0 (fun _ => true)) (C:=fun W => Ext w0 W (L ++ L1)) (fun _ => rfl)
    (fun j o hj hne ho => by
     have hji : j ≠ i:=fun h => hne (by simp [h])
     simp only [if_neg hji]
     rcases Nat.lt_or_ge i j with h | h
     ·rw [hfin2 j h (by omega)]
      have hsame:=looks_same (ops:=ops) (o:=o) (a:=acts j) (b:=(acts j).put oq.dst v) (fun y hy => (put_get (acts j) oq.dst _ y (fun hc => (Oper.apart_spec (hfar j o h hj ho)).1 y hc hy)).symm)
      obtain ⟨hsel,hdef,_,_⟩:=orderB_spec hO ho
      rw [← hsame.2]
      rcases hvals j o hj hji ho with ⟨h1,h2⟩ | h1
      ·exact .inl ⟨h1,opY_congr hsel hdef (fun x hx => hsame.1 x hx) (h2 L1)⟩
      ·exact .inr h1
     ·have:=hvb j
      rw [if_pos h] at this
      rw [this]
      rcases hvals j o hj hji ho with ⟨h1,h2⟩ | h1
      ·exact .inl ⟨h1,h2 L1⟩
      ·exact .inr h1)
    (fun W' hW' => by
     rw [hfin2 k hqk (Nat.le_refl _)]
     exact hK v L1 W' hG hW')
    c (listed.setIfInBounds i true) W' hE (by simpa using hsz) (by omega) hcl' htl' (fun j hj => by rw [List.mem_singleton.1 hj]; exact hli)
   rw [hvl k (Nat.le_refl _),if_neg (by omega)] at this
   exact this
  ·have hlq : (listed.setIfInBounds i true).getD q false = false:=by
    rw [getD_set (by omega),hunq]
    simp; omega
   obtain ⟨c',rfl⟩ : ∃ c',c = c' + 1:=by
    have : left (listed.setIfInBounds i true) k ≠ 0:=fun h0 => by
     have:=left_zero h0 q hqk
     rw [hlq] at this; cases this
    exact ⟨c - 1,by omega⟩
   refine quiet_step (r:=r) (C:=fun W => Ext w0 W L) hO hkN hst hC hsz hcl hik hun ho hall ?_ (fun W' hC' => ?_)
   ·rcases hvals i o hik hiq ho with ⟨h1,h2⟩ | h1
    ·refine .inl ⟨h1,?_⟩
     have:=h2 []
     rw [List.append_nil] at this
     exact this
    ·exact .inr h1
   ·exact ih c' (by omega) (listed.setIfInBounds i true) W' hC' (by simpa using hsz) (by omega) hlq hcl' htl'
 have e1 : left (Array.replicate ops.size false) k = k:=by
  unfold left
  rw [List.filter_eq_self.2 fun j hj => ?_]
  ·simp
  ·have:=List.mem_range.1 hj
   simp [show j < ops.size by omega]
 have hfin:=main (k - 1) (Array.replicate ops.size false) _ h0 (by simp) (by rw [e1]; omega) (by simp [hqN]) (fun j oj hoj hl => by
  have : j < ops.size:=(Array.getElem?_eq_some_iff.1 hoj).1
  simp [this] at hl) (fun t _ h => by simp [h])
 have e2 : stA ops vals a0 (fun j => (Array.replicate ops.size false).getD j false) k = a0:=by
  have : ∀ m,m ≤ k → stA ops vals a0 (fun j => (Array.replicate ops.size false).getD j false) m = a0:=by
   intro m
   induction m with
   | zero => intro _; rfl
   | succ m ih => intro hm; simp only [stA]; rw [ih (by omega)]; simp [show m < ops.size by omega]
  exact this k (Nat.le_refl _)
 rw [show k - 1 + 1 + (ops.size - k) = ops.size by omega,e2] at hfin
 exact hfin
end
section
variable {r : Option Nat} {n : Nat} {P : Program} {ops : Array Oper} {Q : Exit → Act → World → Prop} {w0 : World} {L : List Res} {m : Nat} {tm : Nat → Value} {d : List Deferred}
variable {t : Tmp} {ty : TypeId} {pos : String} {af : Array Edge} {g : Option (Nat × Bool)} {l rest : List Oper} {G : Value → List Res → Prop} {q k : Nat} {all : List Oper}
def BX (r : Option Nat) (n : Nat) (P : Program) (ops : Array Oper) (Q : Exit → Act → World → Prop) (w0 : World) (L : List Res) (G : Value → List Res → Prop) (q k : Nat) (all : List Oper) (i : Nat) (l : List Oper) (m : Nat) (tm : Nat → Value) (d : List Deferred) : Prop :=
 QWq r n P ops w0 L G (fun a' => ∀ v L1 W,G v L1 → Ext w0 W (L ++ L1) → OL r n P ops (onlyN Q) (all.drop k) (a'.put ((all[q]?).bind (·.dst)) v) W) i l (act m tm d)
def KX (r : Option Nat) (n : Nat) (P : Program) (ops : Array Oper) (Q : Exit → Act → World → Prop) (w0 : World) (L : List Res) (G : Value → List Res → Prop) (q k : Nat) (all : List Oper) (l : List Oper) (m : Nat) (tm : Nat → Value) (d : List Deferred) : Prop :=
 QWg ops (fun o ρ v => ∀ L2,OpY r n P o ρ (fun W => Ext w0 W (L ++ L2)) (fun W => Ext w0 W (L ++ L2)) v) (fun a' => ∀ v L1 W,G v L1 → Ext w0 W (L ++ L1) → OL r n P ops (onlyN Q) (all.drop k) (a'.put ((all[q]?).bind (·.dst)) v) W) l (act m tm d)
theorem cx_drawsQ (q k : Nat) (G : Value → List Res → Prop) {id : Nat} {l : List Oper} (hm : P.follows .mixedOrders = true) (hO : orderB l.toArray = true) (hT : tailB l.toArray k = true) (hF : floatB l.toArray q k = true)
  (h : BX r n P l.toArray Q w0 L G q k l q (l.take k) m tm d) : CX r n P (.region id l.toArray true) Q w0 L m tm d :=
 fun _ hW => wp_drawsQ q k G hm hO hT hF hW.drawn h
theorem bx_y {i : Nat} {op : Op} {v : Value} (hw : seesB ops m tm ⟨some t,op,ty,pos,af,g⟩ = true) (hy : ∀ L2,OpY r n P ⟨some t,op,ty,pos,af,g⟩ (opv m tm) (fun W => Ext w0 W (L ++ L2)) (fun W => Ext w0 W (L ++ L2)) v)
  (h : BX r n P ops Q w0 L G q k all i rest m (upd tm t v) d) : BX r n P ops Q w0 L G q k all (i + 1) (⟨some t,op,ty,pos,af,g⟩ :: rest) m tm d:=by
 unfold BX QWq
 rw [wanted_act,if_pos hw,eval_act]
 refine ⟨v,hy,?_⟩
 rw [put_act]
 exact h
theorem ex_cap {L1 : List Res} {v : Value} (h : G v L1) : EX (capQ w0 L (act m tm d) (some t) G) .normal w0 (L ++ L1) m (upd tm t v) d:=fun _W hW => ⟨rfl,v,L1,(put_act m tm d (some t) v).symm,h,hW⟩
theorem bx_q {op : Op} (hw : seesB ops m tm ⟨some t,op,ty,pos,af,g⟩ = true) (hop : OX r n P ops (capQ w0 L (act m tm d) (some t) G) w0 L [⟨some t,op,ty,pos,af,g⟩] m tm d)
  (h : KX r n P ops Q w0 L G q k all rest m (upd tm t undef) d) : BX r n P ops Q w0 L G q k all 0 (⟨some t,op,ty,pos,af,g⟩ :: rest) m tm d:=by
 unfold BX QWq
 refine ⟨by rw [wanted_act]; exact hw,fun W hW => ?_,?_⟩
 ·have h1:=hop W hW
  unfold OL at h1
  rw [wanted_act,if_pos hw] at h1
  exact Oper.wpIn_mono (fun a w h => h) h1
 ·rw [put_act]
  exact h
theorem kx_y {op : Op} {v : Value} (hw : seesB ops m tm ⟨some t,op,ty,pos,af,g⟩ = true) (hy : ∀ L2,OpY r n P ⟨some t,op,ty,pos,af,g⟩ (opv m tm) (fun W => Ext w0 W (L ++ L2)) (fun W => Ext w0 W (L ++ L2)) v)
  (h : KX r n P ops Q w0 L G q k all rest m (upd tm t v) d) : KX r n P ops Q w0 L G q k all (⟨some t,op,ty,pos,af,g⟩ :: rest) m tm d:=by
 unfold KX QWg
 rw [wanted_act,if_pos hw,eval_act]
 refine ⟨v,hy,?_⟩
 rw [put_act]
 exact h
theorem kx_nil (hd : (all[q]?).bind (·.dst) = some t) (h : ∀ v L1,G v L1 → OX r n P ops (onlyN Q) w0 (L ++ L1) (all.drop k) m (upd tm t v) d) : KX r n P ops Q w0 L G q k all [] m tm d:=by
 unfold KX QWg
 intro v L1 W hG hW
 rw [hd,put_act]
 exact h v L1 hG W hW
end
open Go.RowKit (Below)
section
variable {r : Option Nat} {n : Nat} {P : Program} {Q : Exit → Act → World → Prop} {w0 : World} {L : List Res} {m : Nat} {tm : Nat → Value} {d : List Deferred}
def rndM {S : Type} (I : S → List Res → (Nat → Value) → Prop) (μ : S → Nat) (Q : Exit → Act → World → Prop) (w0 : World) (m : Nat) (d : List Deferred) (s : S) : Exit → Act → World → Prop:=rndS (fun s a W => ∃ L tm,a = act m tm d ∧ Ext w0 W L ∧ I s L tm) μ Q s
theorem cx_loopM {S : Type} {c : Code} (I : S → List Res → (Nat → Value) → Prop) (μ : S → Nat) (s0 : S) (h0 : I s0 L tm)
  (round : ∀ s L tm,I s L tm → CX r n P c (rndM I μ Q w0 m d s) w0 L m tm d) : CX r n P (.loop c) Q w0 L m tm d:=fun W hW =>
 wp_loopS (fun s a W => ∃ L tm,a = act m tm d ∧ Ext w0 W L ∧ I s L tm) μ (s0:=s0) ⟨L,tm,rfl,hW,h0⟩ (fun s a W h => by
  obtain ⟨L',tm',rfl,hE,hI⟩:=h
  exact round s L' tm' hI W hE)
theorem ex_nextM {S : Type} {I : S → List Res → (Nat → Value) → Prop} {μ : S → Nat} {s : S} (s' : S) (h : I s' L tm) (hμ : μ s' < μ s) : EX (rndM I μ Q w0 m d s) .normal w0 L m tm d:=fun W hW => ⟨fun _ => ⟨s',⟨L,tm,rfl,hW,h⟩,hμ⟩,fun h => absurd rfl h⟩
theorem ex_outM {S : Type} {I : S → List Res → (Nat → Value) → Prop} {μ : S → Nat} {s : S} {e : Exit} (he : e ≠ .normal) (h : EX Q e w0 L m tm d) : EX (rndM I μ Q w0 m d s) e w0 L m tm d:=fun W hW => ⟨fun h' => absurd h' he,fun _ => h W hW⟩
end
theorem entry_at {P : Program} {W W' : World} {b it : Nat} {s : Nat} {seen : Array Nat} {c0 clock : Nat} {es : Array MapEntry} {v : Value} (h1 : W.heap[it]? = some (.mapIter (some b) s seen c0)) (h2 : W.heap[b]? = some (.map es clock)) (h1' : W'.heap[it]? = some (.mapIter (some b) s seen c0)) (h2' : W'.heap[b]? = some (.map es clock))
  (h : (Instr.entry (.pointer (some ⟨it,0,none⟩))).run P W = .ok v W) : (Instr.entry (.pointer (some ⟨it,0,none⟩))).run P W' = .ok v W':=by
 cases hb : seen.back? with
 | none =>
  simp [Instr.entry,getObj,Sem.run_bind,Sem.run,h1,hb,Result.andThen,stuck] at h
 | some q =>
  by_cases hc : clock = c0
  ·cases hf : es.find? (·.born == q) with
   | none => simp [Instr.entry,getObj,Sem.run_bind,Sem.run,h1,h2,hb,hc,hf,Result.andThen,unsupported] at h
   | some e =>
    have e1 : ∀ (X : World),X.heap[it]? = some (.mapIter (some b) s seen c0) → X.heap[b]? = some (.map es clock) → (Instr.entry (.pointer (some ⟨it,0,none⟩))).run P X = .ok (.tuple #[e.key,e.val]) X:=fun X hx hy => by
     simp [Instr.entry,getObj,Sem.run_bind,Sem.run,hx,hy,hb,hc,hf,Result.andThen]
     try rfl
    rw [e1 W h1 h2] at h
    cases h
    exact e1 W' h1' h2'
  ·simp [Instr.entry,getObj,Sem.run_bind,Sem.run,h1,h2,hb,hc,Result.andThen,unsupported] at h
section
variable {κ β : Type} [DecidableEq κ]
def rngV (P : Program) (kt : TypeId) (ek : κ → Value) (ok : κ → Bool) (ev : β → Value) (z : β) (b it : Nat) (m : List (κ × β)) (left : κ → Bool) (cnt : Nat) (cur : Option (Value × Value)) : Res where
 dom c:=c = b ∨ c = it
 holds W:=(∃ D lf,W.ranges P kt rawR b it m.length D lf cnt ∧ Maps.IsMap D ∧ (∀ x l,ok x = true → keyOf P kt (ek x) = some l → D.atKey l (.held (ev z)) = .held (ev (mgetV z m x)) ∧ Maps.has D l = mhasV m x) ∧ (∀ l,Maps.has D l = true → ∃ x,ok x = true ∧ keyOf P kt (ek x) = some l) ∧ (∀ x l,ok x = true → keyOf P kt (ek x) = some l → lf l = left x) ∧ ∀ l,lf l = true → Maps.has D l = true) ∧
  ∀ q,cur = some q → (Instr.entry (.pointer (some ⟨it,0,none⟩))).run P W = .ok (.tuple #[q.1,q.2]) W
 loc W W' h _ hh:=by
  obtain ⟨⟨D,lf,⟨es,clock,since,seen,c0,hb,F,hs,hD,hr,rest⟩,h2⟩,h3⟩:=hh
  have hb':=(h b (.inl rfl)).trans hb
  have hr':=(h it (.inr rfl)).trans hr
  exact ⟨⟨D,lf,⟨es,clock,since,seen,c0,hb',F,hs,hD,hr',rest⟩,h2⟩,fun q hq => entry_at hr hb hr' hb' (h3 q hq)⟩
 inb W hh c hc:=by
  obtain ⟨⟨D,lf,h1,_⟩,_⟩:=hh
  rcases hc with rfl | rfl
  ·exact h1.owns.lt
  ·exact h1.lt
end
section
variable {r : Option Nat} {n : Nat} {P : Program} {ops : Array Oper} {Q : Exit → Act → World → Prop} {w0 : World} {L : List Res} {m : Nat} {tm : Nat → Value} {d : List Deferred}
variable {t : Tmp} {ty : TypeId} {pos : String} {af : Array Edge} {g : Option (Nat × Bool)} {rest : List Oper}
variable {κ β : Type} [DecidableEq κ] {kt : TypeId} {ek : κ → Value} {ok : κ → Bool} {ev : β → Value} {z : β}
theorem ox_rangeV (i : Nat) {mt et b : Nat} {M : List (κ × β)} {x : Operand} (hL : L[i]? = some (mapV P kt ek ok ev z b M)) (K : KeyE P kt ek ok) (hm : P.underlying mt = some (.map kt et)) (hx : opv m tm x = .map (some b))
  (hw : seesB ops m tm ⟨some t,.range mt x,ty,pos,af,g⟩ = true)
  (h : ∀ it k,k ≤ M.length → OX r n P ops Q w0 (L.set i (rngV P kt ek ok ev z b it M (fun y => mhasV M y) k none)) rest m (upd tm t (.pointer (some ⟨it,0,none⟩))) d) :
  OX r n P ops Q w0 L (⟨some t,.range mt x,ty,pos,af,g⟩ :: rest) m tm d :=
 ox_step hw (by intro c h; cases h) fun W hW => by
  obtain ⟨D,h1,h2,h3,h4⟩:=hW.mem hL
  obtain ⟨W',hrun,hr,hg,hs⟩:=h1.range K.keyed hm
  refine ⟨_,W',_,by simp [execOp,hx,hrun],?_,h W.heap.size (Maps.size D) h1.size_le⟩
  refine hW.set hL _ ⟨⟨D,Maps.has D,hr,h2,h3,h4,fun y l hy hl => (h3 y l hy hl).2,fun _ h => h⟩,fun q hq => by cases hq⟩ hg.os hg.tape hg.output hg.size (fun c hc _ => hg.block c hc (by simp)) (fun c hc => ?_)
  rcases hc with rfl | rfl
  ·exact .inl rfl
  ·exact .inr (Nat.le_refl _)
theorem Ext.rangeEnd {W : World} (i : Nat) {b it k : Nat} {M : List (κ × β)} {left : κ → Bool} {cur : Option (Value × Value)} (h : Ext w0 W L) (hL : L[i]? = some (rngV P kt ek ok ev z b it M left k cur)) : Ext w0 W (L.set i (mapV P kt ek ok ev z b M)):=by
 obtain ⟨⟨D,lf,h1,h2,h3,h4,_⟩,_⟩:=h.mem hL
 exact h.set hL _ ⟨D,h1.owns,h2,h3,h4⟩ rfl rfl rfl (Nat.le_refl _) (fun c hc _ => rfl) (fun c hc => .inl (.inl hc))
theorem ox_nextV (i : Nat) {b it k : Nat} {M : List (κ × β)} {left : κ → Bool} {cur : Option (Value × Value)} {x : Operand} (hL : L[i]? = some (rngV P kt ek ok ev z b it M left k cur)) (K : KeyE P kt ek ok) (hx : opv m tm x = .pointer (some ⟨it,0,none⟩))
  (hw : seesB ops m tm ⟨some t,.next x false,ty,pos,af,g⟩ = true)
  (h0 : (∀ y,ok y = true → left y = false) → OX r n P ops Q w0 L rest m (upd tm t (.tuple #[.bool false])) d)
  (h1 : ∀ y k',ok y = true → left y = true → mhasV M y = true → k' < k → OX r n P ops Q w0 (L.set i (rngV P kt ek ok ev z b it M (fun q => left q && !decide (q = y)) k' (some (ek y,ev (mgetV z M y))))) rest m (upd tm t (.tuple #[.bool true,ek y,ev (mgetV z M y)])) d) :
  OX r n P ops Q w0 L (⟨some t,.next x false,ty,pos,af,g⟩ :: rest) m tm d :=
 ox_step hw (by intro c h; cases h) fun W hW => by
  obtain ⟨⟨D,lf,hr,h2,h3,h4,h5,h6⟩,_⟩:=hW.mem hL
  rcases hr.next K.keyed ty with ⟨_,hl,hrun⟩ | ⟨key,v,kl,y0,W',k',hkey,hlk,hv,hat,hrun,hr',hk',hg,hs,hen⟩
  ·refine ⟨_,W,L,by simp [execOp,hx,hrun],hW,h0 (fun y hy => ?_)⟩
   obtain ⟨l,hl'⟩:=K.tot y hy
   rw [← h5 y l hy hl']
   exact hl l
  ·obtain ⟨y,hy,hyl⟩:=h4 kl (h6 kl hlk)
   have hke : key = ek y:=K.keyed.inj hkey hyl
   have hva : v = ev (mgetV z M y):=by
    have e1:=(h3 y kl hy hyl).1
    rw [hat] at e1
    have e2 : y0 = (.held v,[]):=(Option.some.inj hv).symm
    rw [e2] at e1
    simp only [DataW.held.injEq] at e1
    exact e1
   subst hke hva
   refine ⟨_,W',_,by simp [execOp,hx,hrun],?_,h1 y k' hy (by rw [← h5 y kl hy hyl]; exact hlk) (by rw [← (h3 y kl hy hyl).2]; exact h6 kl hlk) hk'⟩
   refine hW.set hL _ ⟨⟨D,_,hr',h2,h3,h4,fun q l hq hl => ?_,fun l hl => ?_⟩,fun q hq => by cases hq; exact hen⟩ hg.os hg.tape hg.output hg.size (fun c hc hn => hg.block c hc (fun e => hn (.inr (by cases e; rfl)))) (fun c hc => .inl hc)
   ·show (lf l && !l.sameKey kl) = (left q && !decide (q = y))
    rw [h5 q l hq hl]
    by_cases e : q = y
    ·subst e
     have e3 : l = kl:=by rw [hl] at hyl; exact Option.some.inj hyl
     rw [e3,WideAt.sameKey_self (K.keyed.key hyl)]
     simp
    ·have e3 : l.sameKey kl = false:=by
      cases hsk : l.sameKey kl with
      | false => rfl
      | true =>
       have e4:=WideAt.sameKey_eq hsk
       exact absurd (K.inj q y (K.keyed.inj hl (e4 ▸ hyl))) e
     rw [e3]
     simp [e]
   ·have hl2 : (lf l && !l.sameKey kl) = true:=hl
    rw [Bool.and_eq_true] at hl2
    exact h6 l hl2.1
end
section
variable {r : Option Nat} {n : Nat} {P : Program} {ρ : Operand → Value} {w0 : World} {L : List Res}
variable {t : Option Tmp} {ty : TypeId} {pos : String} {af : Array Edge} {g : Option (Nat × Bool)}
variable {κ β : Type} [DecidableEq κ] {kt : TypeId} {ek : κ → Value} {ok : κ → Bool} {ev : β → Value} {z : β}
theorem y_entryV (i : Nat) {b it k : Nat} {M : List (κ × β)} {left : κ → Bool} {a c : Value} {x : Operand} (hL : L[i]? = some (rngV P kt ek ok ev z b it M left k (some (a,c)))) (hx : ρ x = .pointer (some ⟨it,0,none⟩)) :
  OpY r n P ⟨t,.entry x,ty,pos,af,g⟩ ρ (fun W => Ext w0 W L) (fun W => Ext w0 W L) (.tuple #[a,c]) :=
 opY_val (by intro c h; cases h) (fun W hW => by
  obtain ⟨_,h⟩:=hW.mem hL
  simp [execOp,hx,h _ rfl])
end
end Go.Proofs.YtbblpokfbmekfaaGreat
