import Derived.Test.YtbblpokfbmekfaaGreatGt
import Derived.RangeFuncNested
import Derived.Laws.OwnMore
import Derived.Lib.SliceRun
import Derived.Maps.OwnSet
import Derived.DeepKeys4
import Derived.Maps.Range
set_option linter.unusedVariables false
namespace Go.Proofs.YtbblpokfbmekfaaGreat
open Go.RowKit (Below)
section
variable {w0 : World} {L : List Res}
def restR (L : List Res) (S : List Nat) : Res where
 dom b:=∃ (j : Nat) (p : Res),j ∉ S ∧ L[j]? = some p ∧ p.dom b
 holds W:=(∀ (j : Nat) (p : Res),j ∉ S → L[j]? = some p → p.holds W) ∧ ∀ (j k : Nat) (p q : Res),j ∉ S → k ∉ S → L[j]? = some p → L[k]? = some q → j ≠ k → ∀ b,p.dom b → ¬ q.dom b
 loc W W' h hs hh:=⟨fun j p hj hp => p.loc W W' (fun b hb => h b ⟨j,p,hj,hp,hb⟩) hs (hh.1 j p hj hp),hh.2⟩
 inb W hh b hb:=by
  obtain ⟨j,p,hj,hp,hd⟩:=hb
  exact p.inb W (hh.1 j p hj hp) b hd
def noR : Res where
 dom _:=False
 holds _:=True
 loc _ _ _ _ _:=trivial
 inb _ _ _ hb:=hb.elim
theorem Ext.focus {W : World} (h : Ext w0 W L) (i : Nat) {p : Res} (hp : L[i]? = some p) : Ext w0 W [restR L [i],p] where
 below:=h.below
 all k q hq:=by
  match k,hq with
  | 0,hq => cases hq; exact ⟨fun j p _ hp => h.all j p hp,fun j k p q _ _ hp hq hne => h.sep j k p q hp hq hne⟩
  | 1,hq => cases hq; exact h.all i p hp
 new k q hq b hb:=by
  match k,hq with
  | 0,hq => cases hq; obtain ⟨j,p',_,hp',hd⟩:=hb; exact h.new j p' hp' b hd
  | 1,hq => cases hq; exact h.new i p hp b hb
 sep k l q q' hq hq' hne b hb hb':=by
  match k,hq,l,hq' with
  | 0,hq,0,hq' => exact hne rfl
  | 1,hq,1,hq' => exact hne rfl
  | 0,hq,1,hq' =>
   cases hq; cases hq'
   obtain ⟨j,p',hj,hp',hd⟩:=hb
   exact h.sep j i _ _ hp' hp (fun e => hj (by simp [e])) b hd hb'
  | 1,hq,0,hq' =>
   cases hq; cases hq'
   obtain ⟨j,p',hj,hp',hd⟩:=hb'
   exact h.sep i j _ _ hp hp' (fun e => hj (by simp [e])) b hb hd
theorem Ext.unfocus {W W2 : World} (h : Ext w0 W L) (i : Nat) {p p' : Res} (hp : L[i]? = some p) {X : List Res} (h2 : Ext w0 W2 (restR L [i] :: p' :: X)) : Ext w0 W2 (L.set i p' ++ X):=by
 have hi : i < L.length:=(List.getElem?_eq_some_iff.1 hp).1
 have hget : ∀ (k : Nat) (q : Res),(L.set i p' ++ X)[k]? = some q → (k = i ∧ q = p') ∨ (k ≠ i ∧ L[k]? = some q) ∨ (L.length ≤ k ∧ (restR L [i] :: p' :: X)[k - L.length + 2]? = some q):=by
  intro k q hq
  by_cases hk : k < L.length
  ·rw [List.getElem?_append_left (by simpa using hk),List.getElem?_set] at hq
   by_cases e : i = k
   ·subst e
    simp [hi] at hq
    exact .inl ⟨rfl,hq.symm⟩
   ·rw [if_neg e] at hq
    exact .inr (.inl ⟨fun e' => e e'.symm,hq⟩)
  ·rw [List.getElem?_append_right (by simpa using Nat.le_of_not_lt hk),List.length_set] at hq
   exact .inr (.inr ⟨Nat.le_of_not_lt hk,by simpa using hq⟩)
 have hr : ∀ (k : Nat) (q : Res) (b : Nat),k ≠ i → L[k]? = some q → q.dom b → (restR L [i]).dom b:=fun k q b hk hq hb => ⟨k,q,by simpa using hk,hq,hb⟩
 refine ⟨h2.below,fun k q hq => ?_,fun k q hq b hb => ?_,fun k l q q' hq hq' hne b hb hb' => ?_⟩
 ·rcases hget k q hq with ⟨_,rfl⟩ | ⟨h3,h4⟩ | ⟨h3,h4⟩
  ·exact h2.all 1 _ rfl
  ·exact (h2.all 0 _ rfl).1 k q (by simpa using h3) h4
  ·exact h2.all _ q h4
 ·rcases hget k q hq with ⟨_,rfl⟩ | ⟨h3,h4⟩ | ⟨h3,h4⟩
  ·exact h2.new 1 _ rfl b hb
  ·exact h.new k q h4 b hb
  ·exact h2.new _ q h4 b hb
 ·rcases hget k q hq with ⟨a1,a2⟩ | ⟨h3,h4⟩ | ⟨h3,h4⟩ <;> rcases hget l q' hq' with ⟨b1,b2⟩ | ⟨h5,h6⟩ | ⟨h5,h6⟩
  ·exact hne (a1.trans b1.symm)
  ·subst a2
   exact h2.sep 1 0 _ _ rfl rfl (by decide) b hb (hr l q' b h5 h6 hb')
  ·subst a2
   exact h2.sep 1 _ _ _ rfl h6 (by omega) b hb hb'
  ·subst b2
   exact h2.sep 1 0 _ _ rfl rfl (by decide) b hb' (hr k q b h3 h4 hb)
  ·exact h.sep k l q q' h4 h6 hne b hb hb'
  ·exact h2.sep _ 0 _ _ h6 rfl (by omega) b hb' (hr k q b h3 h4 hb)
  ·subst b2
   exact h2.sep _ 1 _ _ h4 rfl (by omega) b hb hb'
  ·exact h2.sep _ 0 _ _ h4 rfl (by omega) b hb (hr l q' b h5 h6 hb')
  ·exact h2.sep _ _ _ _ h4 h6 (by omega) b hb hb'
theorem Ext.rest {W W3 : World} {i : Nat} {X : List Res} (h : Ext w0 W (restR L [i] :: X)) (hb : Below w0.heap.size w0 W3) (hR : (restR L [i]).holds W3) : Ext w0 W3 (L.set i noR):=by
 have hget : ∀ (k : Nat) (q : Res),(L.set i noR)[k]? = some q → q = noR ∨ (k ∉ [i] ∧ L[k]? = some q):=by
  intro k q hq
  rw [List.getElem?_set] at hq
  by_cases e : i = k
  ·subst e
   rw [if_pos rfl] at hq
   split at hq
   ·cases hq; exact .inl rfl
   ·cases hq
  ·rw [if_neg e] at hq
   exact .inr ⟨by simp; exact fun e' => e e'.symm,hq⟩
 refine ⟨hb,fun k q hq => ?_,fun k q hq b hd => ?_,fun k l q q' hq hq' hne b hd hd' => ?_⟩
 ·rcases hget k q hq with rfl | ⟨h1,h2⟩
  ·trivial
  ·exact hR.1 k q h1 h2
 ·rcases hget k q hq with rfl | ⟨h1,h2⟩
  ·exact hd.elim
  ·exact h.new 0 _ rfl b ⟨k,q,h1,h2,hd⟩
 ·rcases hget k q hq with rfl | ⟨h1,h2⟩
  ·exact hd.elim
  ·rcases hget l q' hq' with rfl | ⟨h3,h4⟩
   ·exact hd'.elim
   ·exact hR.2 k l q q' h1 h3 h2 h4 hne b hd hd'
end
section
variable {r : Option Nat} {n : Nat} {P : Program} {ops : Array Oper} {Q : Exit → Act → World → Prop} {w0 : World} {L L' : List Res} {m : Nat} {tm : Nat → Value} {d : List Deferred}
variable {t : Tmp} {ty : TypeId} {pos : String} {af : Array Edge} {g : Option (Nat × Bool)} {rest : List Oper}
theorem ox_callT {α : Type} {f : FuncId} {xs : List Operand} {us : Array TypeId} (i : Nat) {p : Res} (vs : List Value) (φ : α → Prop) (val : α → Value) (p' : α → Res) (res : α → List Res) (hL : L[i]? = some p)
  (hw : seesB ops m tm ⟨some t,.call ⟨.value (.func f),xs.toArray,us⟩,ty,pos,af,g⟩ = true) (hf : goes P f = true) (ha : xs.map (opv m tm) = vs)
  (hc : ∀ W,Ext w0 W [restR L [i],p] → Calls P f vs.toArray W fun e W' => ∃ x : α,φ x ∧ e = .returned (val x) ∧ Ext w0 W' (restR L [i] :: p' x :: res x))
  (h : ∀ x,φ x → OX r n P ops Q w0 (L.set i (p' x) ++ res x) rest m (upd tm t (val x)) d) : OX r n P ops Q w0 L (⟨some t,.call ⟨.value (.func f),xs.toArray,us⟩,ty,pos,af,g⟩ :: rest) m tm d:=fun W hW => by
 unfold OL
 rw [wanted_act,if_pos hw]
 refine ⟨fun _ _ => trivial,?_⟩
 show Oper.uponIn (Fw r) n P _ _ _ Q ((Oper.semAt r (act m tm d).eval _).run P W)
 have e : (execOp (opv m tm) ⟨some t,.call ⟨.value (.func f),xs.toArray,us⟩,ty,pos,af,g⟩).run P W = .ok (.enter f (xs.map (opv m tm)).toArray) W:=by
  have hρ : opv m tm (.func f) = .func (.func f) #[] #[]:=rfl
  simp [execOp,resolve,hρ,Deferred.ofValue,invoke,run_goes hf]
 rw [semAt_exec (by intro c h; cases h),eval_act,e,ha]
 refine ⟨(fun hd => by cases hd),?_⟩
 refine (callsW (hc W (hW.focus i hL))).mono ?_
 rintro e W' ⟨x,hφ,rfl,hx⟩
 show OL r n P ops Q rest ((act m tm d).put (some t) (val x)) W'
 rw [put_act]
 exact h x hφ W' (hW.unfocus i hL hx)
theorem calls_enterB {f : FuncId} {fn : Func} {c : Code} {vs : List Value} {W : World} {R : Ending → World → Prop} (hf : P.funcs[f]? = some fn) (hb : fn.body = some c) (hn : fn.ntmps = m) (hl : vs.length ≤ m) (hW : Ext w0 W L)
  (h : CX none 8 P c (bodyPost P fn R) w0 L m (fun i => (vs[i]?).getD undef) []) : Calls P f vs.toArray W R:=by
 refine callsW' (r:=none) (n:=8) (callsIn_of_wp hf hb trivial ?_ rfl)
 rw [act_enter _ _ (by rw [hn]; simpa using hl),hn]
 have:=h W hW
 simpa using this
end
section
variable {r : Option Nat} {n : Nat} {P : Program} {ρ : Operand → Value} {w0 : World} {L L' : List Res}
variable {t : Option Tmp} {ty : TypeId} {pos : String} {af : Array Edge} {g : Option (Nat × Bool)} {C C' : World → Prop}
theorem run_eqnil {W : World} {A : Option Addr} {l c : Nat} {e u : TypeId} (hu : P.underlying u = some (.slice e)) : (Op.equalIn 10000 u (.slice A l c) (.slice none 0 0)).run P W = .ok A.isNone W:=by
 have h1 : (underlying u).run P W = .ok (.slice e) W:=by simp [underlying,hu]
 unfold Op.equalIn
 simp only [Sem.run_bind,h1,Result.andThen_ok]
 cases A <;> rfl
theorem y_eqnil {x y : Operand} {A : Option Addr} {l c : Nat} {e u u' : TypeId} (hu : P.underlying u = some (.slice e)) (hx : ρ x = .slice A l c) (hy : ρ y = .slice none 0 0) : OpY r n P ⟨t,.binOp .eql u x y u',ty,pos,af,g⟩ ρ C C (.bool A.isNone) :=
 opY_val (by intro c h; cases h) (fun W _ => by
  have:=run_eqnil (W:=W) (A:=A) (l:=l) (c:=c) hu
  simp [execOp,hx,hy,go_sem,binOp,Op.equal,Op.maxDepth,this])
theorem y_convertU {x : Operand} {u v : TypeId} {a : Int} (hu : P.underlying u = some (.int .i64)) (hv : P.underlying v = some (.int .u64)) (h : 0 ≤ a ∧ a ≤ 9223372036854775807) (hx : ρ x = .int .i64 a) : OpY r n P ⟨t,.convert u v x,ty,pos,af,g⟩ ρ C C (.int .u64 a) :=
 opY_val (by intro c h; cases h) (fun W _ => by
  have h2 : IntKind.u64.wrap a = a:=by
   simp [IntKind.wrap,IntKind.bits,IntKind.signed]
   omega
  have h1 : (convert u v (.int .i64 a)).run P W = .ok (.int .u64 a) W:=by
   simp [convert,underlying,hu,hv,Conv.intToInt,h2]
  simp [execOp,hx,h1])
end
open Go.RowKit (Below)
section
variable {r : Option Nat} {n : Nat} {P : Program} {Q : Exit → Act → World → Prop} {w0 : World} {L : List Res} {m : Nat} {tm : Nat → Value} {d : List Deferred}
end
open Go.RowKit (Below)
section
variable {w0 : World} {L : List Res}
theorem Ext.tell {W : World} (h : Ext w0 W L) (i : Nat) {p q : Res} (hp : L[i]? = some p) (hq : p.holds W → q.holds W) (hd : ∀ b,q.dom b → p.dom b) : Ext w0 W (L.set i q) :=
 h.set hp q (hq (h.all i p hp)) rfl rfl rfl (Nat.le_refl _) (fun _ _ _ => rfl) (fun b hb => .inl (hd b hb))
end
section
variable {r : Option Nat} {n : Nat} {P : Program} {ρ : Operand → Value} {w0 : World} {L : List Res}
variable {t : Option Tmp} {ty : TypeId} {pos : String} {af : Array Edge} {g : Option (Nat × Bool)}
variable {A : Option Addr} {k c : Nat} {cs : List Value}
theorem slOf_inv {u e : TypeId} {sz : Nat} (hs : slOf P u = some (e,sz)) : P.underlying u = some (.slice (P.elem u)) ∧ ∀ W,(Go.sizeOf (P.elem u)).run P W = .ok sz W:=by
 unfold slOf at hs
 cases hu : P.underlying u with
 | none => rw [hu] at hs; cases hs
 | some d =>
  rw [hu] at hs
  cases d with
  | slice e' =>
   simp only [] at hs
   cases hinf : P.info? e' with
   | none => rw [hinf] at hs; cases hs
   | some inf =>
    rw [hinf] at hs
    simp only [Option.map_some,Option.some.injEq,Prod.mk.injEq] at hs
    obtain ⟨rfl,rfl⟩:=hs
    have e1 : P.elem u = e':=by simp [Program.elem,hu]
    exact ⟨by rw [e1],fun W => by rw [e1]; simp [Go.sizeOf,typeInfo,hinf]⟩
  | _ => cases hs
theorem y_cutH {x b : Operand} {u e : TypeId} {sz : Nat} {q : IntKind} {hi : Int} (hs : slOf P u = some (e,sz)) (h0 : 0 ≤ hi) (h2 : hi ≤ k) (hR : RdL w0 L A k c cs) (hx : ρ x = .slice A k c) (hb : ρ b = .int q hi) :
  OpY r n P ⟨t,.slice u x none (some b) none,ty,pos,af,g⟩ ρ (fun W => Ext w0 W L) (fun W => Ext w0 W L) (.slice A hi.toNat c) :=
 opY_val (by intro c h; cases h) (fun W hW => by
  obtain ⟨hu',hsz⟩:=slOf_inv hs
  have hcap:=(hR W hW).cap
  have h3 : hi ≤ (c : Int):=by omega
  simp only [execOp,hx,hb,Option.map_some,Option.map_none,Sem.run_bind,run_sliceAt_slice W u _ _ _ _ hu',run_slice_h W u A k c hu' q hi h0 h3,hsz,Result.andThen_ok,sliced]
  have e1 : (if c = 0 then A else Option.map (fun x => x.add (0 * sz)) A) = A:=by
   split
   ·rfl
   ·cases A <;> simp [Addr.add]
  rw [e1]
  rfl)
theorem RdL.cutH {α : Type} {cells : α → List Value} {sz : Nat} (hc : ∀ x,(cells x).length = sz) {A : Option Addr} {n c : Nat} {xs : List α} {hi : Int} (h : RdL w0 L A n c (encL cells xs)) (_h0 : 0 ≤ hi) (h2 : hi ≤ (n : Int)) :
  RdL w0 L A hi.toNat c (encL cells (xs.take hi.toNat)):=fun W hW => by
 have hr:=h W hW
 refine ⟨fun j v hj => hr.cell j v ?_,by have:=hr.cap; omega⟩
 rw [← encL_take hc,List.getElem?_take] at hj
 split at hj
 ·exact hj
 ·cases hj
theorem cutH_len {α : Type} {xs : List α} {n : Nat} {hi : Int} (h2 : hi ≤ (n : Int)) (hn : n = xs.length) : hi.toNat = (xs.take hi.toNat).length:=by rw [List.length_take,← hn]; omega
end
section
variable {r : Option Nat} {n : Nat} {P : Program} {ops : Array Oper} {Q : Exit → Act → World → Prop} {w0 : World} {L : List Res} {m : Nat} {tm : Nat → Value} {d : List Deferred}
variable {t : Tmp} {ty : TypeId} {pos : String} {af : Array Edge} {g : Option (Nat × Bool)} {l rest : List Oper}
theorem ox_append0 (i : Nat) {α : Type} {cells : α → List Value} {xs ys : List α} {x y : Operand} {u e : TypeId} {A B : Option Addr} {c c' k q : Nat} {sz by' : Nat} {z : Value} (hu : P.underlying u = some (.slice e)) (hz : zeroOf P e = some z) (hb : bytesB P e z sz by' = true)
  (hL : L[i]? = some (rowR A c e sz k (encL cells xs))) (hx : opv m tm x = .slice A k c) (hy : opv m tm y = .slice B q c') (hR : RdL w0 L B q c' (encL cells ys)) (hn : (encL cells ys).length = q * sz) (h1 : ((encL cells ys).all (·.oneCell')) = true) (hg : (k + q) * by' ≤ 140737488355328)
  (hw : seesB ops m tm ⟨some t,.call ⟨.builtin .append,#[x,y],#[u,u]⟩,ty,pos,af,g⟩ = true)
  (h : ∀ A' c',OX r n P ops Q w0 (L.set i (rowR A' c' e sz (k + q) (encL cells (xs ++ ys)))) rest m (upd tm t (.slice A' (k + q) c')) d) :
  OX r n P ops Q w0 L (⟨some t,.call ⟨.builtin .append,#[x,y],#[u,u]⟩,ty,pos,af,g⟩ :: rest) m tm d:=by
 rcases Nat.eq_zero_or_pos q with hq | hq
 ·subst hq
  have hys : encL cells ys = []:=by
   have:=hn
   rw [Nat.zero_mul] at this
   exact List.eq_nil_of_length_eq_zero this
  refine ox_step hw (by intro c h; cases h) fun W hW => ?_
  obtain ⟨inf,hinf,hzz⟩ : ∃ inf,P.info? e = some inf ∧ inf.zero = some z:=by
   unfold zeroOf at hz
   cases hi : P.info? e with
   | none => rw [hi] at hz; cases hz
   | some inf => rw [hi] at hz; exact ⟨inf,rfl,hz⟩
  have hcap:=(rowR_rd (hW.mem hL)).cap
  have hrun : (Builtin.append_ #[u,u] ty #[.slice A k c,.slice B 0 c']).run P W = .ok (.slice A k c) W:=by
   cases A <;> cases B <;> simp [Builtin.append_,run_underlying hu,sizeOf,typeInfo,hinf,Builtin.lenOf,Builtin.firstCells,hcap,storeCells,loadCells,loadCellsFrom]
  refine ⟨_,W,_,?_,?_,h A c⟩
  ·simp only [execOp,resolve,invoke,builtin]
   simp [hx,hy,hrun]
  ·have e1 : encL cells (xs ++ ys) = encL cells xs:=by rw [← encL_app,hys,List.append_nil]
   rw [e1,Nat.add_zero]
   have e2 : L.set i (rowR A c e sz k (encL cells xs)) = L:=by
    obtain ⟨hi,he⟩:=List.getElem?_eq_some_iff.1 hL
    rw [← he,List.set_getElem_self]
   rw [e2]
   exact hW
 ·exact ox_appendE i hu hz hb hL hx hy hq hR hn h1 hg hw h
end
def rawR (v : Value) : Option (DataW Value × List MemPlace):=some (.held v,[])
structure KeyE (P : Program) (kt : TypeId) {κ : Type} (ek : κ → Value) (ok : κ → Bool) : Prop where
 keyed : Maps.Keyed P kt
 tot : ∀ x,ok x = true → ∃ l,keyOf P kt (ek x) = some l
 inj : ∀ x y,ek x = ek y → x = y
def mapV (P : Program) (kt : TypeId) {κ β : Type} [DecidableEq κ] (ek : κ → Value) (ok : κ → Bool) (ev : β → Value) (z : β) (b : Nat) (m : List (κ × β)) : Res where
 dom c:=c = b
 holds W:=∃ D : DataW Value,W.ownsMap P kt rawR b m.length D ∧ Maps.IsMap D ∧ (∀ x l,ok x = true → keyOf P kt (ek x) = some l → D.atKey l (.held (ev z)) = .held (ev (mgetV z m x)) ∧ Maps.has D l = mhasV m x) ∧ ∀ l,Maps.has D l = true → ∃ x,ok x = true ∧ keyOf P kt (ek x) = some l
 loc W W' h _ hh:=by
  obtain ⟨D,⟨es,clock,hb,h1⟩,h2⟩:=hh
  exact ⟨D,⟨es,clock,(h b rfl).trans hb,h1⟩,h2⟩
 inb W h c hc:=by
  obtain ⟨D,h1,_⟩:=h
  have hc' : c = b:=hc
  rw [hc']
  exact h1.lt
theorem Cy.mapV {B : Nat} {P : Program} {kt : TypeId} {κ β : Type} [DecidableEq κ] {ek : κ → Value} {ok : κ → Bool} {ev : β → Value} {z : β} {b : Nat} {m : List (κ × β)} (h : b < B) : Cy B (mapV P kt ek ok ev z b m):=fun W c _ hc => by
 have hc' : c = b:=hc
 exact .inl (by omega)
theorem mapV.later {P : Program} {kt : TypeId} {κ β : Type} [DecidableEq κ] {ek : κ → Value} {ok : κ → Bool} {ev : β → Value} {z : β} {b : Nat} {m : List (κ × β)} {W W' : World} (h : (mapV P kt ek ok ev z b m).holds W) (hb : Below W.heap.size W W') : (mapV P kt ek ok ev z b m).holds W' :=
 (mapV P kt ek ok ev z b m).loc W W' (fun c hc => by
  have hc' : c = b:=hc
  obtain ⟨D,h1,_⟩:=h
  rw [hc']
  exact hb.block b h1.lt) hb.size h
def MpL (w0 : World) (L : List Res) (p : Res) : Prop:=∀ W,Ext w0 W L → p.holds W
theorem MpL.own {w0 : World} {L : List Res} {p : Res} (i : Nat) (h : L[i]? = some p) : MpL w0 L p:=fun _ hW => hW.mem h
theorem MpL.arg {w0 : World} {L : List Res} {P : Program} {kt : TypeId} {κ β : Type} [DecidableEq κ] {ek : κ → Value} {ok : κ → Bool} {ev : β → Value} {z : β} {b : Nat} {m : List (κ × β)} (h : (mapV P kt ek ok ev z b m).holds w0) : MpL w0 L (mapV P kt ek ok ev z b m):=fun _ hW => mapV.later h hW.below
def kI (x : Int) : Value:=.int .i64 x
def kB (x : Bool) : Value:=.bool x
theorem keyE_int {P : Program} {kt : TypeId} (hk : P.underlying kt = some (.int .i64)) : KeyE P kt kI rngB :=
 ⟨Maps.int_keyed hk,fun x h => ⟨_,keyI hk h⟩,fun x y h => by cases h; rfl⟩
section
variable {r : Option Nat} {n : Nat} {P : Program} {ρ : Operand → Value} {w0 : World} {L : List Res}
variable {t : Option Tmp} {ty : TypeId} {pos : String} {af : Array Edge} {g : Option (Nat × Bool)}
variable {κ β : Type} [DecidableEq κ] {ek : κ → Value} {ok : κ → Bool} {ev : β → Value} {z : β}
theorem y_lookupV {kt et mt b : Nat} {m : List (κ × β)} {x y : Operand} {k : κ} (hM : MpL w0 L (mapV P kt ek ok ev z b m)) (K : KeyE P kt ek ok) (hm : P.underlying mt = some (.map kt et)) (hz : zeroOf P et = some (ev z))
  (hx : ρ x = .map (some b)) (hy : ρ y = ek k) (hr : ok k = true) :
  OpY r n P ⟨t,.lookup mt x y false,ty,pos,af,g⟩ ρ (fun W => Ext w0 W L) (fun W => Ext w0 W L) (ev (mgetV z m k)) :=
 opY_val (by intro c h; cases h) (fun W hW => by
  obtain ⟨D,h1,_,h3,_⟩:=hM W hW
  obtain ⟨l,hl⟩:=K.tot k hr
  obtain ⟨v,ps,hrun,hv⟩:=h1.lookup K.keyed hm (zero_run hz) (zd:=.held (ev z)) (zp:=[]) rfl hl
  rw [(h3 k l hr hl).1] at hv
  have : v = ev (mgetV z m k):=by
   have:=Option.some.inj hv
   simp only [Prod.mk.injEq,DataW.held.injEq] at this
   exact this.1
  subst this
  simp [execOp,hx,hy,hrun])
theorem y_updateV (i : Nat) {kt et mt b : Nat} {m : List (κ × β)} {x y u : Operand} {k : κ} {v : β} (hL : L[i]? = some (mapV P kt ek ok ev z b m)) (K : KeyE P kt ek ok) (hm : P.underlying mt = some (.map kt et))
  (hx : ρ x = .map (some b)) (hy : ρ y = ek k) (hv : ρ u = ev v) (hr : ok k = true ∧ m.length < 1000000) :
  OpY r n P ⟨t,.mapUpdate mt x y u,ty,pos,af,g⟩ ρ (fun W => Ext w0 W L) (fun W => Ext w0 W (L.set i (mapV P kt ek ok ev z b ((k,v) :: m)))) undef :=
 opY_skip (by intro c h; cases h) (fun W hW => by
  obtain ⟨D,h1,h2,h3,h4⟩:=hW.mem hL
  obtain ⟨l,hl⟩:=K.tot k hr.1
  obtain ⟨W',hrun,hown,hg⟩:=h1.update K.keyed hm (by simp only [maxLen]; omega) (val:=ev v) (d:=.held (ev v)) (ps:=[]) hl rfl
  refine ⟨W',by simp [execOp,hx,hy,hv,hrun],?_⟩
  refine hW.set hL (mapV P kt ek ok ev z b ((k,v) :: m)) ⟨_,hown,h2.put _ _,fun q l' hq hl' => ?_,fun l' hl' => ?_⟩ hg.os hg.tape hg.output hg.size (fun c hc hn => hg.block c hc (fun e => hn (by cases e; rfl))) (fun c hc => .inl hc)
  rotate_left
  ·by_cases e : l' = l
   ·exact ⟨k,hr.1,by rw [e]; exact hl⟩
   ·rw [Maps.has_put_other e] at hl'
    exact h4 l' hl'
  unfold mgetV mhasV
  by_cases e : k = q
  ·subst e
   have e2 : l' = l:=by rw [hl] at hl'; exact (Option.some.inj hl').symm
   subst e2
   rw [Maps.atKey_put_same h2 (K.keyed.key hl),Maps.has_put_same h2 (K.keyed.key hl)]
   simp
  ·have hne : l' ≠ l:=fun e2 => e (K.inj k q (K.keyed.inj hl (e2 ▸ hl')))
   rw [Maps.atKey_put_other hne,Maps.has_put_other hne,(h3 q l' hq hl').1,(h3 q l' hq hl').2]
   simp [e])
end
section
variable {r : Option Nat} {n : Nat} {P : Program} {ops : Array Oper} {Q : Exit → Act → World → Prop} {w0 : World} {L : List Res} {m : Nat} {tm : Nat → Value} {d : List Deferred}
variable {t : Tmp} {ty : TypeId} {pos : String} {af : Array Edge} {g : Option (Nat × Bool)} {l rest : List Oper}
theorem ox_makeMapV (kt : TypeId) {κ β : Type} [DecidableEq κ] (ek : κ → Value) (ok : κ → Bool) (ev : β → Value) (z : β) {mt : TypeId} (hw : seesB ops m tm ⟨some t,.makeMap mt none,ty,pos,af,g⟩ = true)
  (h : ∀ b,OX r n P ops Q w0 (L ++ [mapV P kt ek ok ev z b []]) rest m (upd tm t (.map (some b))) d) : OX r n P ops Q w0 L (⟨some t,.makeMap mt none,ty,pos,af,g⟩ :: rest) m tm d :=
 ox_step hw (by intro c h; cases h) fun W hW => by
  refine ⟨_,W.alloc (.map #[] 0),_,?_,?_,h W.heap.size⟩
  ·simp [execOp,Instr.makeMap,newObj]
   rfl
  ·have h7 : Ext w0 (W.alloc (.map #[] 0)) L:=hW.keep (hW.below.alloc hW.size _) (by simp) (fun i p hp b hd => Below.heap_alloc W _ b (p.inb W (hW.all i p hp) b hd))
   refine h7.snoc (p:=mapV P kt ek ok ev z W.heap.size []) ⟨_,World.ownsMap_made W P kt _,⟨_,rfl⟩,fun x _ _ _ => ⟨rfl,rfl⟩,fun l hl => by cases hl⟩ (fun b hb => ?_) (fun i q hq b hb hb' => ?_)
   ·have hb' : b = W.heap.size:=hb
    have:=hW.size
    omega
   ·have hb'' : b = W.heap.size:=hb'
    have:=q.inb W (hW.all i q hq) _ hb
    omega
end
theorem encL_setF {α : Type} [Inhabited α] {cells : α → List Value} {sz : Nat} (hc : ∀ x,(cells x).length = sz) {xs : List α} {v : α} {j q : Nat} {w : Value} (hj : j < xs.length) (hq : q < sz) (hv : cells v = (cells (xs.getD j default)).set q w) : (encL cells xs).set (j * sz + q) w = encL cells (xs.set j v):=by
 rw [← encL_setN hc v xs j hj,hv]
 have e0:=encL_setN hc (xs.getD j default) xs j hj
 have e1 : xs.set j (xs.getD j default) = xs:=by
  rw [List.getD_eq_getElem?_getD,List.getElem?_eq_getElem hj]
  simp
 rw [e1] at e0
 conv => lhs; rw [← e0]
 have hl : ((encL cells xs).take (j * sz)).length = j * sz:=by
  rw [List.length_take,encL_len hc rfl,Nat.min_eq_left (Nat.mul_le_mul_right _ (Nat.le_of_lt hj))]
 rw [List.append_assoc,List.set_append_right _ _ (by omega),hl,Nat.add_sub_cancel_left,List.set_append_left _ _ (by rw [hc]; exact hq),List.append_assoc]
section
variable {r : Option Nat} {n : Nat} {P : Program} {ρ : Operand → Value} {w0 : World} {L : List Res}
variable {t : Option Tmp} {ty : TypeId} {pos : String} {af : Array Edge} {g : Option (Nat × Bool)}
theorem y_storeRF (i : Nat) {α : Type} [Inhabited α] {cells : α → List Value} {sz : Nat} (hc : ∀ x,(cells x).length = sz) {xs : List α} (v : α) (q : Nat) (hq : q < sz) {x y : Operand} {u e : TypeId} {A : Option Addr} {k c : Nat} {j : Int} {w : Value} (hs : szB P u 1 = true) (hL : L[i]? = some (rowR A c e sz k (encL cells xs))) (h0 : 0 ≤ j) (h1 : j < (xs.length : Int)) (hx : ρ x = slA A (j.toNat * sz + q)) (hv : cells v = (cells (rdL xs j)).set q w) (hy : ρ y = w) (ho : w.oneCell' = true) :
  OpY r n P ⟨t,.store u x y,ty,pos,af,g⟩ ρ (fun W => Ext w0 W L) (fun W => Ext w0 W (L.set i (rowR A c e sz k (encL cells (xs.set j.toNat v))))) undef :=
 opY_skip (by intro c h; cases h) (fun W hW => by
  have hown : W.ownsRow 0 e sz (.slice A k c) k (encL cells xs):=hW.mem hL
  have hk : xs.length = k:=by
   have h5:=hown.1
   rw [encL_len hc rfl] at h5
   exact Nat.eq_of_mul_eq_mul_right (by omega) h5
  rcases hown.2 with ⟨_,h3⟩ | ⟨g',cap,cur,hv',_,hg,h3,h4,h5,h6⟩
  ·omega
  ·simp only [Value.slice.injEq] at hv'
   obtain ⟨rfl,_,rfl⟩:=hv'
   have hjk : j.toNat < k:=by omega
   have hjs : j.toNat * sz + sz ≤ k * sz:=by
    have:=Nat.mul_le_mul_right sz (show j.toNat + 1 ≤ k by omega)
    rw [Nat.add_mul,Nat.one_mul] at this
    exact this
   have hcs : k * sz ≤ cur.size:=by
    have:=Nat.mul_le_mul_right sz h3
    omega
   have hcur : j.toNat * sz + q < cur.size:=by omega
   have hx' : ρ x = .pointer (some ⟨g',j.toNat * sz + q,none⟩):=by
    rw [hx]
    simp [slA]
   have hcw : w.cells = #[w]:=by cases w <;> first | rfl | cases ho
   have hst:=run_storeCells_at (P:=P) g' (j.toNat * sz + q) e w.cells.toList 0 cur W hg (by rw [hcw]; simp; omega) (by rw [hcw]; simpa using ho)
   simp only [Nat.add_zero] at hst
   refine ⟨_,by
    simp only [execOp,hx',hy,Sem.run_bind]
    have : (Instr.storeAt u (.pointer (some ⟨g',j.toNat * sz + q,none⟩)) w).run P W = .ok () (W.setRow g' (cur.toList.take (j.toNat * sz + q) ++ w.cells.toList ++ cur.toList.drop (j.toNat * sz + q + w.cells.toList.length)).toArray):=by
     simp [Instr.storeAt,Instr.sureAddr,storeVar,run_sizeOf_sz (show szB P u w.cells.size = true by rw [hcw]; exact hs),hst]
    rw [this]
    rfl,?_⟩
   have e1 : cur.toList.take (j.toNat * sz + q) ++ w.cells.toList ++ cur.toList.drop (j.toNat * sz + q + w.cells.toList.length) = cur.toList.set (j.toNat * sz + q) w:=by
    rw [hcw]
    simp only [List.length_cons,List.length_nil]
    rw [List.set_eq_take_append_cons_drop,if_pos (by simpa using hcur)]
    simp
   rw [e1]
   refine hW.set hL (rowR (some ⟨g',0,none⟩) c e sz k (encL cells (xs.set j.toNat v))) ?_ rfl rfl rfl (by simp [World.setRow]) (fun b' _ hn => ?_) (fun b' hb' => .inl hb')
   ·refine ⟨?_,.inr ⟨g',c,(cur.toList.set (j.toNat * sz + q) w).toArray,rfl,Nat.zero_le _,setRow_heap W g' _ _ e _ hg,h3,h4,by simpa using h5,?_⟩⟩
    ·rw [encL_len hc rfl]; simp [hk]
    ·have h6' : cur.toList.take (k * sz) = encL cells xs:=h6
     show (cur.toList.set (j.toNat * sz + q) w).take (k * sz) = _
     rw [← encL_setF hc (w:=w) (q:=q) (by omega) hq hv,← h6',List.take_set]
   ·show (W.heap.modify g' _)[b']? = _
    rw [Array.getElem?_modify,if_neg (fun e' => hn ⟨_,rfl,e'⟩)])
end
theorem rd_none {W : World} {n c sz : Nat} {α : Type} {cells : α → List Value} {xs : List α} (h : Rd W none n c (encL cells xs)) (hc : ∀ x,(cells x).length = sz) (hp : 0 < sz) : xs = []:=by
 cases xs with
 | nil => rfl
 | cons x xs =>
  have hl : 0 < (encL cells (x :: xs)).length:=by rw [encL_len hc rfl]; exact Nat.mul_pos (Nat.succ_pos _) hp
  obtain ⟨b,o,e,_⟩:=h.cell 0 (encL cells (x :: xs))[0] (by simp [hl])
  cases e
section
variable {r : Option Nat} {n : Nat} {P : Program} {ops : Array Oper} {Q : Exit → Act → World → Prop} {w0 : World} {L : List Res} {m : Nat} {tm : Nat → Value} {d : List Deferred}
variable {t : Tmp} {ty : TypeId} {pos : String} {af : Array Edge} {g : Option (Nat × Bool)} {l rest : List Oper}
theorem ox_buildSlice0 {α : Type} (cells : α → List Value) {u e : TypeId} {z : Value} {sz by' : Nat} (hu : P.underlying u = some (.slice e)) (hz : zeroOf P e = some z) (_hb : bytesB P e z sz by' = true)
  (hw : seesB ops m tm ⟨some t,.buildSlice u 0 #[],ty,pos,af,g⟩ = true)
  (h : ∀ b,OX r n P ops Q w0 (L ++ [rowR (some ⟨b,0,none⟩) 0 e sz 0 (encL cells [])]) rest m (upd tm t (.slice (some ⟨b,0,none⟩) 0 0)) d) :
  OX r n P ops Q w0 L (⟨some t,.buildSlice u 0 #[],ty,pos,af,g⟩ :: rest) m tm d :=
 ox_step hw (by intro c h; cases h) fun W hW => by
  obtain ⟨inf,hinf,hzz⟩ : ∃ inf,P.info? e = some inf ∧ inf.zero = some z:=by
   unfold zeroOf at hz
   cases hi : P.info? e with
   | none => rw [hi] at hz; cases hz
   | some inf => rw [hi] at hz; exact ⟨inf,rfl,hz⟩
  have hu1 : (underlying u).run P W = .ok (.slice e) W:=by simp [underlying,hu]
  have hsz : (Go.sizeOf e).run P W = .ok inf.size W:=by simp [Go.sizeOf,typeInfo,hinf]
  have hb : (Instr.buildSlice u 0 #[]).run P W = .ok (.slice (some ⟨W.heap.size,0,none⟩) 0 0) (W.alloc (.cells #[] e)):=by
   simp [Instr.buildSlice,hu1,Result.andThen_ok,hsz,Instr.fill,newRow]
   rw [show (Array.range 0) = #[] by simp [Array.range]]
   simp
  refine ⟨_,W.alloc (.cells #[] e),_,?_,?_,h W.heap.size⟩
  ·simp only [execOp,Sem.run_bind,List.map_toArray,List.map_nil,hb]
   rfl
  ·have hk : (rowR (some ⟨W.heap.size,0,none⟩) 0 e sz 0 (encL cells [])).holds (W.alloc (.cells #[] e)):=by
    have:=World.ownsRow_lit (base:=0) (e:=e) (size:=sz) W #[] 0 (Nat.zero_le _) (Nat.zero_le _) (by simp)
    exact this
   have h7 : Ext w0 (W.alloc (.cells #[] e)) L:=hW.keep (hW.below.alloc hW.size _) (by simp) (fun i p hp b hd => Below.heap_alloc W _ b (p.inb W (hW.all i p hp) b hd))
   refine h7.snoc hk (fun b hb => ?_) (fun i q hq b hb hb' => ?_)
   ·obtain ⟨a,ha,rfl⟩:=hb
    cases ha
    exact hW.size
   ·obtain ⟨a,ha,rfl⟩:=hb'
    cases ha
    have:=q.inb W (hW.all i q hq) _ hb
    exact absurd this (Nat.lt_irrefl _)
theorem Ext.mv {W : World} (h : Ext w0 W L) (i j : Nat) (_hij : i ≠ j) {q : Res} (hq : L[j]? = some q) : Ext w0 W ((L.set j noR).set i q):=by
 have hget : ∀ (k : Nat) (s : Res),((L.set j noR).set i q)[k]? = some s → (k = i ∧ s = q) ∨ s = noR ∨ (k ≠ i ∧ k ≠ j ∧ L[k]? = some s):=by
  intro k s hk
  rw [List.getElem?_set] at hk
  by_cases e : i = k
  ·subst e
   rw [if_pos rfl] at hk
   split at hk
   ·cases hk; exact .inl ⟨rfl,rfl⟩
   ·cases hk
  ·rw [if_neg e,List.getElem?_set] at hk
   by_cases e2 : j = k
   ·subst e2
    rw [if_pos rfl] at hk
    split at hk
    ·cases hk; exact .inr (.inl rfl)
    ·cases hk
   ·rw [if_neg e2] at hk
    exact .inr (.inr ⟨fun h => e h.symm,fun h => e2 h.symm,hk⟩)
 refine ⟨h.below,fun k s hk => ?_,fun k s hk b hb => ?_,fun k l s s' hk hl hne b hb hb' => ?_⟩
 ·rcases hget k s hk with ⟨_,rfl⟩ | rfl | ⟨_,_,h3⟩
  ·exact h.all j _ hq
  ·trivial
  ·exact h.all k _ h3
 ·rcases hget k s hk with ⟨_,rfl⟩ | rfl | ⟨_,_,h3⟩
  ·exact h.new j _ hq b hb
  ·exact hb.elim
  ·exact h.new k _ h3 b hb
 ·rcases hget k s hk with ⟨a1,rfl⟩ | rfl | ⟨a1,a2,a3⟩
  ·rcases hget l s' hl with ⟨b1,rfl⟩ | rfl | ⟨b1,b2,b3⟩
   ·exact hne (a1.trans b1.symm)
   ·exact hb'.elim
   ·exact h.sep j l _ _ hq b3 (fun e => b2 e.symm) b hb hb'
  ·exact hb.elim
  ·rcases hget l s' hl with ⟨b1,rfl⟩ | rfl | ⟨b1,b2,b3⟩
   ·exact h.sep k j _ _ a3 hq a2 b hb hb'
   ·exact hb'.elim
   ·exact h.sep k l _ _ a3 b3 hne b hb hb'
theorem ex_mv {e : Exit} (i j : Nat) (hij : i ≠ j) {q : Res} (hq : L[j]? = some q) (h : EX Q e w0 ((L.set j noR).set i q) m tm d) : EX Q e w0 L m tm d:=fun W hW => h W (hW.mv i j hij hq)
end
section
variable {r : Option Nat} {n : Nat} {P : Program} {ρ : Operand → Value} {C : World → Prop}
variable {t : Option Tmp} {ty : TypeId} {pos : String} {af : Array Edge} {g : Option (Nat × Bool)}
theorem y_convQ {x : Operand} {u v : TypeId} {q q' : IntKind} {a a' : Int} (hu : P.underlying u = some (.int q)) (hv : P.underlying v = some (.int q')) (h : q'.wrap a = a') (hx : ρ x = .int q a) : OpY r n P ⟨t,.convert u v x,ty,pos,af,g⟩ ρ C C (.int q' a') :=
 opY_val (by intro c h; cases h) (fun W _ => by
  have h1 : (convert u v (.int q a)).run P W = .ok (.int q' a') W:=by
   simp [convert,underlying,hu,hv,Conv.intToInt,h]
  simp [execOp,hx,h1])
theorem y_indexStr {x ix : Operand} {u : TypeId} {s : ByteArray} {k : IntKind} {i : Int} {b : UInt8} (hu : P.underlying u = some .string) (h0 : 0 ≤ i) (hb : s[i.toNat]? = some b) (hx : ρ x = .string s) (hi : ρ ix = .int k i) : OpY r n P ⟨t,.index u x ix,ty,pos,af,g⟩ ρ C C (.int .u8 b.toNat) :=
 opY_val (by intro c h; cases h) (fun W _ => by
  simp [execOp,hx,hi,Instr.index,asIntOf,underlying,hu,h0,hb])
end
section
variable {r : Option Nat} {n : Nat} {P : Program} {ρ : Operand → Value} {C : World → Prop}
variable {t : Option Tmp} {ty : TypeId} {pos : String} {af : Array Edge} {g : Option (Nat × Bool)}
end
section
variable {P : Program} {w0 : World} {L : List Res} {m : Nat} {tm : Nat → Value}
end
section
variable {r : Option Nat} {n : Nat} {P : Program} {ρ : Operand → Value} {C : World → Prop} {w0 : World} {L : List Res}
variable {t : Option Tmp} {ty : TypeId} {pos : String} {af : Array Edge} {g : Option (Nat × Bool)}
theorem RdL.under {R : Res} {A : Option Addr} {k c : Nat} {cs : List Value} (h : ∀ W2,Below w0.heap.size w0 W2 → R.holds W2 → Rd W2 A k c cs) : RdL w0 (R :: L) A k c cs:=fun W hW => h W hW.below (hW.mem (i:=0) rfl)
end
open Go.RowKit (Below)
abbrev Hd:=Option Addr × Nat × Nat
theorem rdL_snd {α β : Type} [Inhabited α] [Inhabited β] {ys : List (α × β)} {xs : List β} (h : ys.map Prod.snd = xs) (i : Int) : (rdL ys i).2 = rdL xs i:=by
 subst h
 unfold rdL
 rw [List.getD_eq_getElem?_getD,List.getD_eq_getElem?_getD,List.getElem?_map]
 cases ys[i.toNat]? <;> rfl
theorem rdL_mem {α : Type} [Inhabited α] {xs : List α} {i : Int} (h0 : 0 ≤ i) (h1 : i < (xs.length : Int)) : rdL xs i ∈ xs:=by
 unfold rdL
 rw [List.getD_eq_getElem?_getD,List.getElem?_eq_getElem (show i.toNat < xs.length by omega)]
 exact List.getElem_mem _
section
variable {β γ : Type} {sel : β → List γ} {ic : γ → List Value}
structure NestP (sel : β → List γ) (ys : List (Hd × β)) (xs : List β) : Prop where
 eq : ys.map Prod.snd = xs
 ln : ∀ y ∈ ys,y.1.2.1 = (sel y.2).length
structure NestW (W : World) (sel : β → List γ) (ic : γ → List Value) (ys : List (Hd × β)) (xs : List β) : Prop where
 p : NestP sel ys xs
 inn : ∀ y ∈ ys,Rd W y.1.1 y.1.2.1 y.1.2.2 (encL ic (sel y.2))
structure NestL (w0 : World) (L : List Res) (sel : β → List γ) (ic : γ → List Value) (ys : List (Hd × β)) (xs : List β) : Prop where
 p : NestP sel ys xs
 inn : ∀ y ∈ ys,RdL w0 L y.1.1 y.1.2.1 y.1.2.2 (encL ic (sel y.2))
variable {w0 W : World} {L : List Res} {ys : List (Hd × β)} {xs : List β}
theorem NestL.arg (h : NestW w0 sel ic ys xs) : NestL w0 L sel ic ys xs:=⟨h.p,fun y hy => RdL.arg (h.inn y hy)⟩
theorem NestL.at (h : NestL w0 L sel ic ys xs) (W : World) (hW : Ext w0 W L) : NestW W sel ic ys xs:=⟨h.p,fun y hy => h.inn y hy W hW⟩
theorem NestW.later {W' : World} (h : NestW W sel ic ys xs) (hb : Below W.heap.size W W') : NestW W' sel ic ys xs:=⟨h.p,fun y hy => (h.inn y hy).later hb⟩
theorem NestP.hn {n : Nat} (h : NestP sel ys xs) (hn : n = xs.length) : n = ys.length:=by rw [hn,← h.eq,List.length_map]
variable [Inhabited β] [Inhabited γ]
omit [Inhabited γ] in
theorem NestP.snd (h : NestP sel ys xs) (i : Int) : (rdL ys i).2 = rdL xs i:=rdL_snd h.eq i
omit [Inhabited γ] in
theorem NestP.len (h : NestP sel ys xs) {i : Int} (h0 : 0 ≤ i) (h1 : i < (xs.length : Int)) : (rdL ys i).1.2.1 = (sel (rdL xs i)).length:=by
 have hl : xs.length = ys.length:=h.hn rfl
 rw [← h.snd i]
 exact h.ln _ (rdL_mem h0 (by omega))
omit [Inhabited γ] in
theorem NestL.rd (h : NestL w0 L sel ic ys xs) {i : Int} (h0 : 0 ≤ i) (h1 : i < (xs.length : Int)) : RdL w0 L (rdL ys i).1.1 (sel (rdL xs i)).length (rdL ys i).1.2.2 (encL ic (sel (rdL xs i))):=by
 have hl : xs.length = ys.length:=h.p.hn rfl
 have h2:=h.p.len h0 h1
 have h3:=h.inn _ (rdL_mem (xs:=ys) h0 (by omega))
 rw [h2,h.p.snd i] at h3
 exact h3
end
theorem gets_eq {cs vs us : List Value} {j : Nat} (he : vs = us) (h : ∀ q v,us[q]? = some v → cs[j + q]? = some v) : ∀ q v,vs[q]? = some v → cs[j + q]? = some v:=by subst he; exact h
open Go.RowKit (Below)
section
variable {r : Option Nat} {n : Nat} {P : Program} {Q : Exit → Act → World → Prop} {w0 : World} {L : List Res} {m : Nat} {tm : Nat → Value} {d : List Deferred}
def rndM {S : Type} (I : S → List Res → (Nat → Value) → Prop) (μ : S → Nat) (Q : Exit → Act → World → Prop) (w0 : World) (m : Nat) (d : List Deferred) (s : S) : Exit → Act → World → Prop:=rndS (fun s a W => ∃ L tm,a = act m tm d ∧ Ext w0 W L ∧ I s L tm) μ Q s
theorem cx_loopM {S : Type} {c : Code} (I : S → List Res → (Nat → Value) → Prop) (μ : S → Nat) (s0 : S) (h0 : I s0 L tm)
  (round : ∀ s L tm,I s L tm → CX r n P c (rndM I μ Q w0 m d s) w0 L m tm d) : CX r n P (.loop c) Q w0 L m tm d:=fun W hW =>
 wp_loopS (fun s a W => ∃ L tm,a = act m tm d ∧ Ext w0 W L ∧ I s L tm) μ (s0:=s0) ⟨L,tm,rfl,hW,h0⟩ (fun s a W h => by
  obtain ⟨L',tm',rfl,hE,hI⟩:=h
  exact round s L' tm' hI W hE)
theorem ex_nextM {S : Type} {I : S → List Res → (Nat → Value) → Prop} {μ : S → Nat} {s : S} (s' : S) (h : I s' L tm) (hμ : μ s' < μ s) : EX (rndM I μ Q w0 m d s) .normal w0 L m tm d:=fun W hW => ⟨fun _ => ⟨s',⟨L,tm,rfl,hW,h⟩,hμ⟩,fun h => absurd rfl h⟩
theorem ex_outM {S : Type} {I : S → List Res → (Nat → Value) → Prop} {μ : S → Nat} {s : S} {e : Exit} (he : e ≠ .normal) (h : EX Q e w0 L m tm d) : EX (rndM I μ Q w0 m d s) e w0 L m tm d:=fun W hW => ⟨fun h' => absurd h' he,fun _ => h W hW⟩
end
theorem entry_at {P : Program} {W W' : World} {b it : Nat} {s : Nat} {seen : Array Nat} {c0 clock : Nat} {es : Array MapEntry} {v : Value} (h1 : W.heap[it]? = some (.mapIter (some b) s seen c0)) (h2 : W.heap[b]? = some (.map es clock)) (h1' : W'.heap[it]? = some (.mapIter (some b) s seen c0)) (h2' : W'.heap[b]? = some (.map es clock))
  (h : (Instr.entry (.pointer (some ⟨it,0,none⟩))).run P W = .ok v W) : (Instr.entry (.pointer (some ⟨it,0,none⟩))).run P W' = .ok v W':=by
 cases hb : seen.back? with
 | none =>
  simp [Instr.entry,getObj,Sem.run_bind,Sem.run,h1,hb,Result.andThen,stuck] at h
 | some q =>
  by_cases hc : clock = c0
  ·cases hf : es.find? (·.born == q) with
   | none => simp [Instr.entry,getObj,Sem.run_bind,Sem.run,h1,h2,hb,hc,hf,Result.andThen,unsupported] at h
   | some e =>
    have e1 : ∀ (X : World),X.heap[it]? = some (.mapIter (some b) s seen c0) → X.heap[b]? = some (.map es clock) → (Instr.entry (.pointer (some ⟨it,0,none⟩))).run P X = .ok (.tuple #[e.key,e.val]) X:=fun X hx hy => by
     simp [Instr.entry,getObj,Sem.run_bind,Sem.run,hx,hy,hb,hc,hf,Result.andThen]
     try rfl
    rw [e1 W h1 h2] at h
    cases h
    exact e1 W' h1' h2'
  ·simp [Instr.entry,getObj,Sem.run_bind,Sem.run,h1,h2,hb,hc,Result.andThen,unsupported] at h
section
variable {κ β : Type} [DecidableEq κ]
def rngV (P : Program) (kt : TypeId) (ek : κ → Value) (ok : κ → Bool) (ev : β → Value) (z : β) (b it : Nat) (m : List (κ × β)) (left : κ → Bool) (cnt : Nat) (cur : Option (Value × Value)) : Res where
 dom c:=c = b ∨ c = it
 holds W:=(∃ D lf,W.ranges P kt rawR b it m.length D lf cnt ∧ Maps.IsMap D ∧ (∀ x l,ok x = true → keyOf P kt (ek x) = some l → D.atKey l (.held (ev z)) = .held (ev (mgetV z m x)) ∧ Maps.has D l = mhasV m x) ∧ (∀ l,Maps.has D l = true → ∃ x,ok x = true ∧ keyOf P kt (ek x) = some l) ∧ (∀ x l,ok x = true → keyOf P kt (ek x) = some l → lf l = left x) ∧ ∀ l,lf l = true → Maps.has D l = true) ∧
  ∀ q,cur = some q → (Instr.entry (.pointer (some ⟨it,0,none⟩))).run P W = .ok (.tuple #[q.1,q.2]) W
 loc W W' h _ hh:=by
  obtain ⟨⟨D,lf,⟨es,clock,since,seen,c0,hb,F,hs,hD,hr,rest⟩,h2⟩,h3⟩:=hh
  have hb':=(h b (.inl rfl)).trans hb
  have hr':=(h it (.inr rfl)).trans hr
  exact ⟨⟨D,lf,⟨es,clock,since,seen,c0,hb',F,hs,hD,hr',rest⟩,h2⟩,fun q hq => entry_at hr hb hr' hb' (h3 q hq)⟩
 inb W hh c hc:=by
  obtain ⟨⟨D,lf,h1,_⟩,_⟩:=hh
  rcases hc with rfl | rfl
  ·exact h1.owns.lt
  ·exact h1.lt
end
section
variable {r : Option Nat} {n : Nat} {P : Program} {ops : Array Oper} {Q : Exit → Act → World → Prop} {w0 : World} {L : List Res} {m : Nat} {tm : Nat → Value} {d : List Deferred}
variable {t : Tmp} {ty : TypeId} {pos : String} {af : Array Edge} {g : Option (Nat × Bool)} {rest : List Oper}
variable {κ β : Type} [DecidableEq κ] {kt : TypeId} {ek : κ → Value} {ok : κ → Bool} {ev : β → Value} {z : β}
theorem ox_rangeV (i : Nat) {mt et b : Nat} {M : List (κ × β)} {x : Operand} (hL : L[i]? = some (mapV P kt ek ok ev z b M)) (K : KeyE P kt ek ok) (hm : P.underlying mt = some (.map kt et)) (hx : opv m tm x = .map (some b))
  (hw : seesB ops m tm ⟨some t,.range mt x,ty,pos,af,g⟩ = true)
  (h : ∀ it k,k ≤ M.length → OX r n P ops Q w0 (L.set i (rngV P kt ek ok ev z b it M (fun y => mhasV M y) k none)) rest m (upd tm t (.pointer (some ⟨it,0,none⟩))) d) :
  OX r n P ops Q w0 L (⟨some t,.range mt x,ty,pos,af,g⟩ :: rest) m tm d :=
 ox_step hw (by intro c h; cases h) fun W hW => by
  obtain ⟨D,h1,h2,h3,h4⟩:=hW.mem hL
  obtain ⟨W',hrun,hr,hg,hs⟩:=h1.range K.keyed hm
  refine ⟨_,W',_,by simp [execOp,hx,hrun],?_,h W.heap.size (Maps.size D) h1.size_le⟩
  refine hW.set hL _ ⟨⟨D,Maps.has D,hr,h2,h3,h4,fun y l hy hl => (h3 y l hy hl).2,fun _ h => h⟩,fun q hq => by cases hq⟩ hg.os hg.tape hg.output hg.size (fun c hc _ => hg.block c hc (by simp)) (fun c hc => ?_)
  rcases hc with rfl | rfl
  ·exact .inl rfl
  ·exact .inr (Nat.le_refl _)
theorem Ext.rangeEnd {W : World} (i : Nat) {b it k : Nat} {M : List (κ × β)} {left : κ → Bool} {cur : Option (Value × Value)} (h : Ext w0 W L) (hL : L[i]? = some (rngV P kt ek ok ev z b it M left k cur)) : Ext w0 W (L.set i (mapV P kt ek ok ev z b M)):=by
 obtain ⟨⟨D,lf,h1,h2,h3,h4,_⟩,_⟩:=h.mem hL
 exact h.set hL _ ⟨D,h1.owns,h2,h3,h4⟩ rfl rfl rfl (Nat.le_refl _) (fun c hc _ => rfl) (fun c hc => .inl (.inl hc))
theorem ox_nextV (i : Nat) {b it k : Nat} {M : List (κ × β)} {left : κ → Bool} {cur : Option (Value × Value)} {x : Operand} (hL : L[i]? = some (rngV P kt ek ok ev z b it M left k cur)) (K : KeyE P kt ek ok) (hx : opv m tm x = .pointer (some ⟨it,0,none⟩))
  (hw : seesB ops m tm ⟨some t,.next x false,ty,pos,af,g⟩ = true)
  (h0 : (∀ y,ok y = true → left y = false) → OX r n P ops Q w0 L rest m (upd tm t (.tuple #[.bool false])) d)
  (h1 : ∀ y k',ok y = true → left y = true → mhasV M y = true → k' < k → OX r n P ops Q w0 (L.set i (rngV P kt ek ok ev z b it M (fun q => left q && !decide (q = y)) k' (some (ek y,ev (mgetV z M y))))) rest m (upd tm t (.tuple #[.bool true,ek y,ev (mgetV z M y)])) d) :
  OX r n P ops Q w0 L (⟨some t,.next x false,ty,pos,af,g⟩ :: rest) m tm d :=
 ox_step hw (by intro c h; cases h) fun W hW => by
  obtain ⟨⟨D,lf,hr,h2,h3,h4,h5,h6⟩,_⟩:=hW.mem hL
  rcases hr.next K.keyed ty with ⟨_,hl,hrun⟩ | ⟨key,v,kl,y0,W',k',hkey,hlk,hv,hat,hrun,hr',hk',hg,hs,hen⟩
  ·refine ⟨_,W,L,by simp [execOp,hx,hrun],hW,h0 (fun y hy => ?_)⟩
   obtain ⟨l,hl'⟩:=K.tot y hy
   rw [← h5 y l hy hl']
   exact hl l
  ·obtain ⟨y,hy,hyl⟩:=h4 kl (h6 kl hlk)
   have hke : key = ek y:=K.keyed.inj hkey hyl
   have hva : v = ev (mgetV z M y):=by
    have e1:=(h3 y kl hy hyl).1
    rw [hat] at e1
    have e2 : y0 = (.held v,[]):=(Option.some.inj hv).symm
    rw [e2] at e1
    simp only [DataW.held.injEq] at e1
    exact e1
   subst hke hva
   refine ⟨_,W',_,by simp [execOp,hx,hrun],?_,h1 y k' hy (by rw [← h5 y kl hy hyl]; exact hlk) (by rw [← (h3 y kl hy hyl).2]; exact h6 kl hlk) hk'⟩
   refine hW.set hL _ ⟨⟨D,_,hr',h2,h3,h4,fun q l hq hl => ?_,fun l hl => ?_⟩,fun q hq => by cases hq; exact hen⟩ hg.os hg.tape hg.output hg.size (fun c hc hn => hg.block c hc (fun e => hn (.inr (by cases e; rfl)))) (fun c hc => .inl hc)
   ·show (lf l && !l.sameKey kl) = (left q && !decide (q = y))
    rw [h5 q l hq hl]
    by_cases e : q = y
    ·subst e
     have e3 : l = kl:=by rw [hl] at hyl; exact Option.some.inj hyl
     rw [e3,WideAt.sameKey_self (K.keyed.key hyl)]
     simp
    ·have e3 : l.sameKey kl = false:=by
      cases hsk : l.sameKey kl with
      | false => rfl
      | true =>
       have e4:=WideAt.sameKey_eq hsk
       exact absurd (K.inj q y (K.keyed.inj hl (e4 ▸ hyl))) e
     rw [e3]
     simp [e]
   ·have hl2 : (lf l && !l.sameKey kl) = true:=hl
    rw [Bool.and_eq_true] at hl2
    exact h6 l hl2.1
end
section
variable {r : Option Nat} {n : Nat} {P : Program} {ρ : Operand → Value} {w0 : World} {L : List Res}
variable {t : Option Tmp} {ty : TypeId} {pos : String} {af : Array Edge} {g : Option (Nat × Bool)}
variable {κ β : Type} [DecidableEq κ] {kt : TypeId} {ek : κ → Value} {ok : κ → Bool} {ev : β → Value} {z : β}
theorem y_entryV (i : Nat) {b it k : Nat} {M : List (κ × β)} {left : κ → Bool} {a c : Value} {x : Operand} (hL : L[i]? = some (rngV P kt ek ok ev z b it M left k (some (a,c)))) (hx : ρ x = .pointer (some ⟨it,0,none⟩)) :
  OpY r n P ⟨t,.entry x,ty,pos,af,g⟩ ρ (fun W => Ext w0 W L) (fun W => Ext w0 W L) (.tuple #[a,c]) :=
 opY_val (by intro c h; cases h) (fun W hW => by
  obtain ⟨_,h⟩:=hW.mem hL
  simp [execOp,hx,h _ rfl])
end
open Go.RowKit (Below)
section
variable {w0 : World} {L : List Res}
theorem Ext.rot {W : World} {p : Res} (h : Ext w0 W (p :: L)) : Ext w0 W (L ++ [p]):=by
 have hg : ∀ (k : Nat) (q : Res),(L ++ [p])[k]? = some q → ∃ j,(p :: L)[j]? = some q ∧ (k < L.length → j = k + 1) ∧ (L.length ≤ k → j = 0 ∧ k = L.length):=by
  intro k q hq
  rcases Nat.lt_or_ge k L.length with hk | hk
  ·rw [List.getElem?_append_left hk] at hq
   exact ⟨k + 1,by simpa using hq,fun _ => rfl,fun h' => by omega⟩
  ·rw [List.getElem?_append_right hk] at hq
   have : k - L.length = 0:=by
    cases hkk : k - L.length with
    | zero => rfl
    | succ z => rw [hkk] at hq; simp at hq
   rw [this] at hq
   exact ⟨0,by simpa using hq,fun h' => by omega,fun _ => ⟨rfl,by omega⟩⟩
 refine ⟨h.below,fun k q hq => ?_,fun k q hq => ?_,fun k l q q' hq hq' hne => ?_⟩
 ·obtain ⟨j,hj,_⟩:=hg k q hq; exact h.all j q hj
 ·obtain ⟨j,hj,_⟩:=hg k q hq; exact h.new j q hj
 ·obtain ⟨j,hj,a1,a2⟩:=hg k q hq
  obtain ⟨i,hi,b1,b2⟩:=hg l q' hq'
  refine h.sep j i q q' hj hi (fun e => hne ?_)
  rcases Nat.lt_or_ge k L.length with hk | hk <;> rcases Nat.lt_or_ge l L.length with hl | hl
  ·have:=a1 hk; have:=b1 hl; omega
  ·have:=a1 hk; have:=(b2 hl).1; omega
  ·have:=(a2 hk).1; have:=b1 hl; omega
  ·have:=(a2 hk).2; have:=(b2 hl).2; omega
theorem Ext.torr {W : World} {p : Res} (h : Ext w0 W (L ++ [p])) : Ext w0 W (p :: L):=by
 have hg : ∀ (k : Nat) (q : Res),(p :: L)[k]? = some q → ∃ j,(L ++ [p])[j]? = some q ∧ (0 < k → k = j + 1) ∧ (k = 0 → j = L.length) ∧ (0 < k → j < L.length):=by
  intro k q hq
  cases k with
  | zero => exact ⟨L.length,by simpa using hq,fun h' => by omega,fun _ => rfl,fun h' => by omega⟩
  | succ k =>
   have hq' : L[k]? = some q:=by simpa using hq
   have hk : k < L.length:=(List.getElem?_eq_some_iff.1 hq').1
   exact ⟨k,by rw [List.getElem?_append_left hk]; exact hq',fun _ => rfl,fun h' => by omega,fun _ => hk⟩
 refine ⟨h.below,fun k q hq => ?_,fun k q hq => ?_,fun k l q q' hq hq' hne => ?_⟩
 ·obtain ⟨j,hj,_⟩:=hg k q hq; exact h.all j q hj
 ·obtain ⟨j,hj,_⟩:=hg k q hq; exact h.new j q hj
 ·obtain ⟨j,hj,a1,a2,a3⟩:=hg k q hq
  obtain ⟨i,hi,b1,b2,b3⟩:=hg l q' hq'
  refine h.sep j i q q' hj hi (fun e => hne ?_)
  rcases Nat.eq_zero_or_pos k with hk | hk <;> rcases Nat.eq_zero_or_pos l with hl | hl
  ·omega
  ·have:=a2 hk; have:=b3 hl; omega
  ·have:=b2 hl; have:=a3 hk; omega
  ·have:=a1 hk; have:=b1 hl; omega
theorem Ext.tail {W : World} {p : Res} (h : Ext w0 W (p :: L)) : Ext w0 W L:=by
 have:=h.rot.take L.length
 rw [List.take_left] at this
 exact this
theorem Ext.torr' {W : World} {p : Res} (h : Ext w0 W (p :: L)) : Ext w0 W L:=h.tail
theorem getElem?_app3 {p q s : Res} : (L ++ [p,q,s])[L.length + 1]? = some q:=by simp
theorem Ext.putLoop3 {W : World} {p s : Res} {l : Nat} {rec rec' : Loop} (h : Ext w0 W (L ++ [p,lpR l rec,s])) : Ext w0 (W.putObj l (.loop rec')) (L ++ [p,lpR l rec',s]):=by
 have hl : W.heap[l]? = some (.loop rec):=h.mem getElem?_app3
 have hlt : l < W.heap.size:=lt_of_block hl
 have:=h.set getElem?_app3 (lpR l rec') (W':=W.putObj l (.loop rec')) (World.putObj_heap_same hlt) rfl rfl rfl (by simp [World.putObj]) (fun b hb hn => World.putObj_heap_other (fun e => hn e)) (fun b hb => .inl hb)
 have e : (L ++ [p,lpR l rec,s]).set (L.length + 1) (lpR l rec') = L ++ [p,lpR l rec',s]:=by rw [List.set_append_right _ _ (by omega)]; simp
 rw [e] at this
 exact this
end
def SeqC (P : Program) (g : Nat) (caps : List Value) (e : TypeId) (H : World → Prop) (xs : List (List Int)) : Prop :=
 ∀ (w0 : World) (l : Nat) (K : Nat → List Res → Prop) (Kx : List Res → Prop) (W : World) (L : List Res),
  (∀ i L W,K i L → Ext w0 W L → H W) →
  (∀ i x A c L W,xs[i]? = some x → K i L → Ext w0 W (rowR A c e 1 x.length (encL cI x) :: L) →
   YieldAt (Fw none) 6 P l #[.slice A x.length c] W fun e' W' =>
    (e' = .returned (.bool true) ∧ ∃ L',K (i + 1) L' ∧ Ext w0 W' (rowR A c e 1 x.length (encL cI x) :: L')) ∨ (e' = .returned (.bool false) ∧ ∃ L',Kx L' ∧ Ext w0 W' L')) →
  K 0 L → Ext w0 W L →
  CallsIn (Fw none) 7 P g (#[.func (.yield l) #[] #[]] ++ caps.toArray) W fun e' W' => (∃ v,e' = .returned v) ∧ ((∃ L',K xs.length L' ∧ Ext w0 W' L') ∨ ∃ L',Kx L' ∧ Ext w0 W' L')
section
variable {r : Option Nat} {n : Nat} {P : Program} {Q : Exit → Act → World → Prop} {w0 : World} {L : List Res} {m : Nat} {tm : Nat → Value} {d : List Deferred}
def rgC {S T : Type} (w0 : World) (D l : Nat) (rec : Loop) (R : Res) (I : S → List Res → Prop) (J : T → Exit → List Res → Prop) (st : S ⊕ T) : Exit → Act → World → Prop:=fun e _ W =>
 match st with
 | .inl s' => e = .normal ∧ ∃ L',I s' L' ∧ Ext w0 W (L' ++ [dfR D,lpR l { rec with state:=.busy },R])
 | .inr t => ∃ L',J t e L' ∧ Ext w0 W (L' ++ [dfR D,lpR l { rec with state:=.busy },R])
theorem ex_cnext {S T : Type} {I : S → List Res → Prop} {J : T → Exit → List Res → Prop} {D l : Nat} {rec : Loop} {R : Res} {s' : S} (L' : List Res) (h : I s' L') : EX (rgC w0 D l rec R I J (.inl s')) .normal w0 (L' ++ [dfR D,lpR l { rec with state:=.busy },R]) m tm d :=
 fun _ hW => ⟨rfl,L',h,hW⟩
theorem ex_cstop {S T : Type} {I : S → List Res → Prop} {J : T → Exit → List Res → Prop} {D l : Nat} {rec : Loop} {R : Res} {t : T} {e : Exit} (L' : List Res) (h : J t e L') : EX (rgC w0 D l rec R I J (.inr t)) e w0 (L' ++ [dfR D,lpR l { rec with state:=.busy },R]) m tm d :=
 fun _ hW => ⟨L',h,hW⟩
theorem cx_rangeC {S T : Type} {bodyf : S → List Int → Option (S ⊕ T)} {g : Operand} {p : Tmp} {assign body : Code} {gf : Nat} {caps : List Value} {et : TypeId} {H : World → Prop} {xs : List (List Int)} {s0 : S} {st : S ⊕ T}
  (I : S → List Res → Prop) (J : T → Exit → List Res → Prop) (hl : foldO bodyf xs s0 = some st) (hg : opv m tm g = .func (.func gf) #[] caps.toArray) (hgo : goes P gf = true)
  (hseq : SeqC P gf caps et H xs) (hH : ∀ W s L',I s L' → Ext w0 W L' → H W) (h0 : I s0 L)
  (hJe : ∀ t e L',J t e L' → e = .ret ∨ ∃ id,e = .exit id)
  (round : ∀ D l rec A c s x L' st',rec.state = .ready → I s L' → bodyf s x = some st' → CX (some l) 6 P assign (asgQ 6 P l body (rgC w0 D l rec (rowR A c et 1 x.length (encL cI x)) I J st')) w0 (L' ++ [dfR D,lpR l rec,rowR A c et 1 x.length (encL cI x)]) m (upd tm p (.slice A x.length c)) [])
  (done : ∀ D s L',st = .inl s → I s L' → EX Q .normal w0 (L' ++ [dfR D]) m tm (⟨.collected D,#[]⟩ :: d))
  (stop : ∀ D t e L',st = .inr t → J t e L' → EX Q e w0 (L' ++ [dfR D]) m tm (⟨.collected D,#[]⟩ :: d)) : CX none 8 P (.rangeFunc g #[p] assign body) Q w0 L m tm d:=fun W hW => by
 refine wpIn_rangeFunc ?_
 intro fn hfn
 obtain ⟨rec0,hrec0⟩ : ∃ rec0 : Loop,rec0 = { state:=.ready,pending:=none,fn,tmps:=(act m tm d).tmps,params:=#[p],assign,body,defers:=W.heap.size }:=⟨_,rfl⟩
 have hW1 : Ext w0 ((W.alloc (.deferred (some []))).alloc (.loop rec0)) (L ++ [dfR W.heap.size,lpR (W.heap.size + 1) rec0]):=by
  have h1:=(hW.alloc (.deferred (some []))).alloc (.loop rec0)
  rw [World.size_alloc,List.append_assoc] at h1
  exact h1
 refine ⟨W.heap.size + 1,[{ target:=.collected W.heap.size,args:=#[] }],((W.alloc (.deferred (some []))).alloc (.loop rec0)),{ target:=.fn (.func gf) caps.toArray,args:=#[.func (.yield (W.heap.size + 1)) #[] #[]] },((W.alloc (.deferred (some []))).alloc (.loop rec0)),gf,
  #[.func (.yield (W.heap.size + 1)) #[] #[]] ++ caps.toArray,((W.alloc (.deferred (some []))).alloc (.loop rec0)),(by rw [hrec0]; exact run_enterLoop_outer _ _ _ _ _),?_,fun _ _ => trivial,?_,fun hd => (by cases hd),?_⟩
 ·have hg' : (act m tm d).eval g = .func (.func gf) #[] caps.toArray:=by rw [eval_act]; exact hg
  simp only [resolve,hg']
  simp [go_sem]
 ·have:=run_goes hgo (#[.func (.yield (W.heap.size + 1)) #[] #[]] ++ caps.toArray) ((W.alloc (.deferred (some []))).alloc (.loop rec0))
  simp only [invoke]
  exact this
 ·generalize hl0 : W.heap.size + 1 = l
  rw [hl0] at hW1
  generalize hD : W.heap.size = D at *
  have hseq1:=hseq w0 l
   (fun i L1 => ∃ s L',foldO bodyf (xs.take i) s0 = some (.inl s) ∧ I s L' ∧ L1 = L' ++ [dfR D,lpR l rec0])
   (fun L1 => ∃ t e c L',st = .inr t ∧ J t e L' ∧ ((e = .ret ∧ c = Code.ret) ∨ ∃ id,e = .exit id ∧ c = Code.exit id) ∧ L1 = L' ++ [dfR D,lpR l { rec0 with state:=.done,pending:=some c }])
   ((W.alloc (.deferred (some []))).alloc (.loop rec0)) (L ++ [dfR D,lpR l rec0])
   (fun i L1 A hs hA => by
    obtain ⟨s,L',h1,h2,rfl⟩:=hs
    have h4:=hA.take L'.length
    rw [List.take_left] at h4
    exact hH A s L' h2 h4)
   ?_ ⟨s0,L,rfl,h0,rfl⟩ hW1
  ·refine hseq1.mono ?_
   rintro e W2 ⟨⟨v,rfl⟩,h2⟩
   rcases h2 with ⟨_,⟨s,L',h3,h4,rfl⟩,h5⟩ | ⟨_,⟨t,e,c,L',h3,h4,h6,rfl⟩,h5⟩
   ·rw [List.take_length,hl] at h3
    have hl2 : W2.heap[l]? = some (.loop rec0):=h5.mem getElem?_app1
    refine ⟨rec0.pending,_,run_endLoop hl2 (by rw [hrec0]; simp),?_⟩
    have hpd : rec0.pending = none:=by rw [hrec0]
    rw [hpd]
    show Q .normal _ _
    have h7:=(h5.putLoop (rec':={ rec0 with state:=.exhausted,pending:=none })).take (L'.length + 1)
    have e7 : (L' ++ [dfR D,lpR l { rec0 with state:=.exhausted,pending:=none }]).take (L'.length + 1) = L' ++ [dfR D]:=by
     rw [List.take_append]; simp [List.take_of_length_le]
    rw [e7] at h7
    exact done D s L' (Option.some.inj h3) h4 _ h7
   ·have hl2 : W2.heap[l]? = some (.loop { rec0 with state:=.done,pending:=some c }):=h5.mem getElem?_app1
    refine ⟨some c,_,run_endLoop hl2 (by simp),?_⟩
    have h7:=(h5.putLoop (rec':={ rec0 with state:=.exhausted,pending:=some c })).take (L'.length + 1)
    have e7 : (L' ++ [dfR D,lpR l { rec0 with state:=.exhausted,pending:=some c }]).take (L'.length + 1) = L' ++ [dfR D]:=by
     rw [List.take_append]; simp [List.take_of_length_le]
    rw [e7] at h7
    have h8:=stop D t e L' h3 h4 _ h7
    rcases h6 with ⟨rfl,rfl⟩ | ⟨id,rfl,rfl⟩
    ·exact wpIn_ret h8
    ·exact wpIn_exit h8
  ·rintro i x A c _ W1 hx ⟨s,L',h1,h2,rfl⟩ h3
   obtain ⟨st',hf,hft,hst⟩:=foldO_step hl h1 hx
   have h3':=h3.rot
   rw [List.append_assoc] at h3'
   have hl1 : W1.heap[l]? = some (.loop rec0):=h3'.mem getElem?_app3
   have hy:=run_yield (P:=P) (args:=#[.slice A x.length c]) hl1 (by rw [hrec0]; rfl)
   have et' : ((#[p] : Array Tmp).zip #[Value.slice A x.length c]).foldl (fun tmps (t,a) => tmps.setIfInBounds t a) (act m tm d).tmps = (act m (upd tm p (.slice A x.length c)) []).tmps:=by
    have h9 : (act m tm []).put (some p) (.slice A x.length c) = act m (upd tm p (.slice A x.length c)) []:=put_act m tm [] (some p) (.slice A x.length c)
    rw [← h9]
    simp [Act.put]
    rfl
   refine ⟨fn,_,assign,body,(by rw [hy,hrec0]),roundIn_of_wpIn (F:=Fw none) (n:=6) trivial ?_⟩
   have hr:=round D l rec0 A c s x L' st' (by rw [hrec0]) h2 hf W1 h3'
   have ea : (act m (upd tm p (.slice A x.length c)) []) = { tmps:=((#[p] : Array Tmp).zip #[Value.slice A x.length c]).foldl (fun tmps (t,a) => tmps.setIfInBounds t a) (act m tm d).tmps,defers:=[] }:=by
    rw [et']; rfl
   rw [ea] at hr
   refine wpIn_mono (F:=(Fw none).inRound l) hr ?_
   intro e a2 W2 h4
   cases e with
   | normal =>
    obtain ⟨w₂,hb,hbody⟩:=h4
    refine ⟨w₂,hb,wpIn_mono hbody ?_⟩
    intro e a3 W3 h5
    cases st' with
    | inl s' =>
     obtain ⟨rfl,L'',h6,h7⟩:=h5
     have hl3 : W3.heap[l]? = some (.loop { rec0 with state:=.busy }):=h7.mem getElem?_app3
     refine ⟨_,_,run_endRound none hl3,.inl ⟨rfl,?_⟩⟩
     refine ⟨_,⟨s',L'',hft,h6,rfl⟩,?_⟩
     have:=h7.putLoop3 (rec':=rec0)
     rw [hrec0] at this ⊢
     have h8:=Ext.torr (L:=L'' ++ [dfR D,lpR l _]) (by rw [List.append_assoc]; exact this)
     exact h8
    | inr t =>
     obtain ⟨L'',h6,h7⟩:=h5
     have hl3 : W3.heap[l]? = some (.loop { rec0 with state:=.busy }):=h7.mem getElem?_app3
     have hstt:=hst t rfl
     have cut : ∀ rec',Ext w0 (W3.putObj l (.loop rec')) (L'' ++ [dfR D,lpR l rec']):=fun rec' => by
      have:=(h7.putLoop3 (rec':=rec')).take (L''.length + 2)
      have e7 : (L'' ++ [dfR D,lpR l rec',rowR A c et 1 x.length (encL cI x)]).take (L''.length + 2) = L'' ++ [dfR D,lpR l rec']:=by
       rw [List.take_append]; simp [List.take_of_length_le]
      rw [e7] at this
      exact this
     rcases hJe t e L'' h6 with rfl | ⟨id,rfl⟩
     ·exact ⟨_,_,run_endRound (some .ret) hl3,.inr ⟨rfl,_,⟨t,.ret,.ret,L'',hstt,h6,.inl ⟨rfl,rfl⟩,rfl⟩,cut _⟩⟩
     ·exact ⟨_,_,run_endRound (some (.exit id)) hl3,.inr ⟨rfl,_,⟨t,.exit id,.exit id,L'',hstt,h6,.inr ⟨id,rfl,rfl⟩,rfl⟩,cut _⟩⟩
   | _ => exact h4.elim
end
section
variable {P : Program} {Q : Exit → Act → World → Prop} {w0 : World} {L : List Res} {m : Nat} {tm : Nat → Value} {d : List Deferred}
theorem callsIn_enterE {f : FuncId} {fn : Func} {c : Code} {vs : List Value} {W : World} {R : Ending → World → Prop} (hf : P.funcs[f]? = some fn) (hb : fn.body = some c) (hn : fn.ntmps = m) (hl : vs.length ≤ m) (hW : Ext w0 W L)
  (h : CX none 7 P c (bodyPost P fn R) w0 L m (fun i => (vs[i]?).getD undef) []) : CallsIn (Fw none) 7 P f vs.toArray W R:=by
 refine callsIn_of_wp hf hb trivial ?_ rfl
 rw [act_enter _ _ (by rw [hn]; simpa using hl),hn]
 have:=h W hW
 simpa using this
variable {ops : Array Oper} {t : Tmp} {ty : TypeId} {pos : String} {af : Array Edge} {g : Option (Nat × Bool)} {rest : List Oper}
theorem ox_yieldE {p : Res} {x : Operand} {xs : List Operand} {us : Array TypeId} {l : Nat} (vs : List Value) (A B : List Res → Prop) (hw : seesB ops m tm ⟨some t,.call ⟨.value x,xs.toArray,us⟩,ty,pos,af,g⟩ = true) (hx : opv m tm x = .func (.yield l) #[] #[]) (ha : xs.map (opv m tm) = vs)
  (hy : ∀ W,Ext w0 W L → YieldAt (Fw none) 6 P l vs.toArray W fun e W' => (e = .returned (.bool true) ∧ ∃ L',A L' ∧ Ext w0 W' (p :: L')) ∨ (e = .returned (.bool false) ∧ ∃ L',B L' ∧ Ext w0 W' L'))
  (hA : ∀ L',A L' → OX none 7 P ops Q w0 (p :: L') rest m (upd tm t (.bool true)) d) (hB : ∀ L',B L' → OX none 7 P ops Q w0 L' rest m (upd tm t (.bool false)) d) :
  OX none 7 P ops Q w0 L (⟨some t,.call ⟨.value x,xs.toArray,us⟩,ty,pos,af,g⟩ :: rest) m tm d:=fun W hW => by
 unfold OL
 rw [wanted_act,if_pos hw]
 refine ⟨fun _ _ => trivial,?_⟩
 subst ha
 obtain ⟨fn,tmps,assign,body,hr,hR⟩:=hy W hW
 have e : (execOp (opv m tm) ⟨some t,.call ⟨.value x,xs.toArray,us⟩,ty,pos,af,g⟩).run P W = .ok (.round l fn tmps assign body) W:=by
  have h9 : (Instr.yield l (xs.map (opv m tm)).toArray).run P W = .ok (.round l fn tmps assign body) W:=hr
  simp [execOp,resolve,hx,Deferred.ofValue,invoke]
  simpa using h9
 have e0 : (Fw none).round = none:=rfl
 rw [e0,semAt_exec (by intro c h; cases h),eval_act,e]
 refine ⟨(fun hd => by cases hd),?_⟩
 refine hR.mono ?_
 rintro e' W' (⟨rfl,L',h,hE⟩ | ⟨rfl,L',h,hE⟩)
 ·show OL none 7 P ops Q rest ((act m tm d).put (some t) (.bool true)) W'
  rw [put_act]
  exact hA L' h W' hE
 ·show OL none 7 P ops Q rest ((act m tm d).put (some t) (.bool false)) W'
  rw [put_act]
  exact hB L' h W' hE
end
open Go.RowKit (Below)
section
variable {r : Option Nat} {n : Nat} {P : Program} {ρ : Operand → Value} {w0 : World} {L : List Res}
variable {t : Option Tmp} {ty : TypeId} {pos : String} {af : Array Edge} {g : Option (Nat × Bool)} {C : World → Prop}
theorem y_makeFuncF {f : Fn} {first caps : List Operand} (us vs : List Value) (hf : first.map ρ = us) (hc : caps.map ρ = vs) : OpY r n P ⟨t,.makeFunc f first.toArray caps.toArray,ty,pos,af,g⟩ ρ C C (.func f us.toArray vs.toArray) :=
 opY_val (by intro c h; cases h) (fun W _ => by
  subst hf hc
  simp [execOp,Instr.makeFunc])
theorem y_callvF {f : FuncId} {x : Operand} {xs : List Operand} {us : Array TypeId} {fst caps : List Value} (vs : List Value) {v : Value} (hf : goes P f = true) (hx : ρ x = .func (.func f) fst.toArray caps.toArray) (ha : xs.map ρ = vs)
  (h : ∀ W,Ext w0 W L → Calls P f (fst ++ (vs ++ caps)).toArray W fun e W' => e = .returned v ∧ Ext W W' []) :
  OpY r n P ⟨t,.call ⟨.value x,xs.toArray,us⟩,ty,pos,af,g⟩ ρ (fun W => Ext w0 W L) (fun W => Ext w0 W L) v:=fun W hW => by
 rw [semAt_exec (by intro c h; cases h)]
 subst ha
 have e : (execOp ρ ⟨t,.call ⟨.value x,xs.toArray,us⟩,ty,pos,af,g⟩).run P W = .ok (.enter f (fst ++ (xs.map ρ ++ caps)).toArray) W:=by
  simp [execOp,resolve,hx,Deferred.ofValue,invoke,run_goes hf]
 rw [e]
 refine (h W hW).mono ?_
 rintro e W' ⟨rfl,hx⟩
 exact ⟨rfl,hW.below' hx.below⟩
end
section
variable {w0 : World} {L : List Res}
theorem Ext.split {W : World} (h : Ext w0 W L) (i : Nat) {p : Res} (hp : L[i]? = some p) (p1 p2 : Res) (h1 : p.holds W → p1.holds W ∧ p2.holds W) (hd1 : ∀ b,p1.dom b → p.dom b) (hd2 : ∀ b,p2.dom b → p.dom b) (hs : p.holds W → ∀ b,p1.dom b → ¬ p2.dom b) : Ext w0 W (L.set i p1 ++ [p2]):=by
 have hh:=h.mem hp
 have h2:=h.tell i hp (q:=p1) (fun hh => (h1 hh).1) hd1
 refine h2.snoc (h1 hh).2 (fun b hb => h.new i p hp b (hd2 b hb)) (fun j q hq b hb hb' => ?_)
 rw [List.getElem?_set] at hq
 by_cases e : i = j
 ·subst e
  rw [if_pos rfl] at hq
  split at hq
  ·cases hq; exact hs hh b hb hb'
  ·cases hq
 ·rw [if_neg e] at hq
  exact h.sep j i q p hq hp (fun e' => e e'.symm) b hb (hd2 b hb')
theorem Ext.join {W : World} {p1 p2 : Res} (h : Ext w0 W (L ++ [p2])) (i : Nat) (hp : L[i]? = some p1) (p : Res) (hh : p1.holds W → p2.holds W → (∀ b,p1.dom b → ¬ p2.dom b) → p.holds W) (hd : ∀ b,p.dom b → p1.dom b ∨ p2.dom b) : Ext w0 W (L.set i p):=by
 have hi : i < L.length:=(List.getElem?_eq_some_iff.1 hp).1
 have hp1 : (L ++ [p2])[i]? = some p1:=by rw [List.getElem?_append_left hi]; exact hp
 have hp2 : (L ++ [p2])[L.length]? = some p2:=by simp
 have hget : ∀ (k : Nat) (q : Res),(L.set i p)[k]? = some q → (k = i ∧ q = p) ∨ (k ≠ i ∧ k < L.length ∧ (L ++ [p2])[k]? = some q):=by
  intro k q hq
  by_cases e : i = k
  ·subst e
   rw [List.getElem?_set_self hi] at hq
   cases hq
   exact .inl ⟨rfl,rfl⟩
  ·rw [List.getElem?_set_ne e] at hq
   have hq' : (L.set i p)[k]? = some q:=by rw [List.getElem?_set_ne e]; exact hq
   have hk : k < L.length:=(List.getElem?_eq_some_iff.1 hq).1
   exact .inr ⟨fun e' => e e'.symm,hk,by rw [List.getElem?_append_left hk]; exact hq⟩
 refine ⟨h.below,fun k q hq => ?_,fun k q hq b hb => ?_,fun k l q q' hq hq' hne b hb hb' => ?_⟩
 ·rcases hget k q hq with ⟨_,rfl⟩ | ⟨_,_,h3⟩
  ·exact hh (h.all i p1 hp1) (h.all _ p2 hp2) (h.sep i L.length p1 p2 hp1 hp2 (by omega))
  ·exact h.all k q h3
 ·rcases hget k q hq with ⟨_,rfl⟩ | ⟨_,_,h3⟩
  ·rcases hd b hb with h4 | h4
   ·exact h.new i p1 hp1 b h4
   ·exact h.new _ p2 hp2 b h4
  ·exact h.new k q h3 b hb
 ·rcases hget k q hq with ⟨a1,rfl⟩ | ⟨a1,a2,a3⟩ <;> rcases hget l q' hq' with ⟨b1,rfl⟩ | ⟨b1,b2,b3⟩
  ·omega
  ·rcases hd b hb with h4 | h4
   ·exact h.sep i l p1 q' hp1 b3 (fun e => b1 e.symm) b h4 hb'
   ·exact h.sep _ l p2 q' hp2 b3 (by omega) b h4 hb'
  ·rcases hd b hb' with h4 | h4
   ·exact h.sep k i q p1 a3 hp1 a1 b hb h4
   ·exact h.sep k _ q p2 a3 hp2 (by omega) b hb h4
  ·exact h.sep k l q q' a3 b3 hne b hb hb'
end
def nilHd : Hd:=(none,0,0)
def hdV (h : Hd) : Value:=.slice h.1 h.2.1 h.2.2
section
variable {κ γ : Type} [DecidableEq κ]
structure HsOk (hs : List (κ × Hd)) (vs : List (κ × List γ)) : Prop where
 len : hs.length = vs.length
 eq : ∀ k,(mgetV nilHd hs k).2.1 = (mgetV [] vs k).length
theorem HsOk.nil : HsOk ([] : List (κ × Hd)) ([] : List (κ × List γ)):=⟨rfl,fun _ => rfl⟩
theorem HsOk.cons {hs : List (κ × Hd)} {vs : List (κ × List γ)} {k : κ} {h : Hd} {v : List γ} (ho : HsOk hs vs) (hv : h.2.1 = v.length) : HsOk ((k,h) :: hs) ((k,v) :: vs):=by
 refine ⟨by simp [ho.len],fun q => ?_⟩
 unfold mgetV
 split
 ·exact hv
 ·exact ho.eq q
theorem mgetV_same {β : Type} {z v : β} {k : κ} {m : List (κ × β)} : mgetV z ((k,v) :: m) k = v:=by unfold mgetV; rw [if_pos rfl]
theorem mgetV_other {β : Type} {z v : β} {k q : κ} {m : List (κ × β)} (h : q ≠ k) : mgetV z ((k,v) :: m) q = mgetV z m q:=by
 show (if k = q then v else mgetV z m q) = _
 rw [if_neg (fun e => h e.symm)]
def rowsX (e : TypeId) (sz : Nat) (ic : γ → List Value) (hs : List (κ × Hd)) (vs : List (κ × List γ)) (X : κ → Prop) : Res where
 dom c:=∃ k,¬ X k ∧ (rowR (mgetV nilHd hs k).1 (mgetV nilHd hs k).2.2 e sz (mgetV nilHd hs k).2.1 (encL ic (mgetV [] vs k))).dom c
 holds W:=(∀ k,¬ X k → (rowR (mgetV nilHd hs k).1 (mgetV nilHd hs k).2.2 e sz (mgetV nilHd hs k).2.1 (encL ic (mgetV [] vs k))).holds W) ∧
  ∀ k k',¬ X k → ¬ X k' → k ≠ k' → ∀ c,(rowR (mgetV nilHd hs k).1 (mgetV nilHd hs k).2.2 e sz (mgetV nilHd hs k).2.1 (encL ic (mgetV [] vs k))).dom c → ¬ (rowR (mgetV nilHd hs k').1 (mgetV nilHd hs k').2.2 e sz (mgetV nilHd hs k').2.1 (encL ic (mgetV [] vs k'))).dom c
 loc W W' h hs hh:=⟨fun k hk => Res.loc _ W W' (fun b hb => h b ⟨k,hk,hb⟩) hs (hh.1 k hk),hh.2⟩
 inb W hh b hb:=by
  obtain ⟨k,hk,hb⟩:=hb
  exact Res.inb _ W (hh.1 k hk) b hb
def rowsS (e : TypeId) (sz : Nat) (ic : γ → List Value) (hs : List (κ × Hd)) (vs : List (κ × List γ)) : Res:=rowsX e sz ic hs vs (fun _ => False)
variable {w0 : World} {L : List Res} {e : TypeId} {sz : Nat} {ic : γ → List Value} {hs : List (κ × Hd)} {vs : List (κ × List γ)}
theorem rowsS_same {W : World} {k : κ} (hh : (rowsS e sz ic ((k,((mgetV nilHd hs k).1,(mgetV nilHd hs k).2.1,(mgetV nilHd hs k).2.2)) :: hs) ((k,mgetV [] vs k) :: vs)).holds W) : (rowsS e sz ic hs vs).holds W:=by
 have ee : ∀ q : κ,mgetV nilHd ((k,((mgetV nilHd hs k).1,(mgetV nilHd hs k).2.1,(mgetV nilHd hs k).2.2)) :: hs) q = mgetV nilHd hs q:=fun q => by
  by_cases e1 : q = k
  ·subst e1; rw [mgetV_same]
  ·rw [mgetV_other e1]
 have ev : ∀ q : κ,mgetV [] ((k,mgetV [] vs k) :: vs) q = mgetV [] vs q:=fun q => by
  by_cases e1 : q = k
  ·subst e1; rw [mgetV_same]
  ·rw [mgetV_other e1]
 refine ⟨fun q _ => ?_,fun q q' _ _ hne => ?_⟩
 ·have:=hh.1 q (fun h => h)
  rw [ee,ev] at this
  exact this
 ·have:=hh.2 q q' (fun h => h) (fun h => h) hne
  rw [ee,ee,ev,ev] at this
  exact this
theorem RdL.rows (ho : HsOk hs vs) (i : Nat) (hL : L[i]? = some (rowsS e sz ic hs vs)) (k : κ) : RdL w0 L (mgetV nilHd hs k).1 (mgetV [] vs k).length (mgetV nilHd hs k).2.2 (encL ic (mgetV [] vs k)):=fun W hW =>
 ho.eq k ▸ rowR_rd ((hW.mem hL).1 k (fun h => h))
theorem Ext.rowsOpen {W : World} (h : Ext w0 W L) (i : Nat) (hL : L[i]? = some (rowsS e sz ic hs vs)) (k : κ) : Ext w0 W (L.set i (rowsX e sz ic hs vs (fun q => q = k)) ++ [rowR (mgetV nilHd hs k).1 (mgetV nilHd hs k).2.2 e sz (mgetV nilHd hs k).2.1 (encL ic (mgetV [] vs k))]) :=
 h.split i hL _ _ (fun hh => ⟨⟨fun q _ => hh.1 q (fun h => h),fun q q' _ _ => hh.2 q q' (fun h => h) (fun h => h)⟩,hh.1 k (fun h => h)⟩) (fun b hb => by obtain ⟨q,_,hb⟩:=hb; exact ⟨q,fun h => h,hb⟩) (fun b hb => ⟨k,fun h => h,hb⟩)
  (fun hh b hb hb' => by obtain ⟨q,hq,hb⟩:=hb; exact hh.2 q k (fun h => h) (fun h => h) hq b hb hb')
theorem Ext.rowsClose {W : World} {k : κ} {A : Option Addr} {n c : Nat} {v : List γ} (i : Nat) (hi : i < L.length) (h : Ext w0 W (L.set i (rowsX e sz ic hs vs (fun q => q = k)) ++ [rowR A c e sz n (encL ic v)])) : Ext w0 W (L.set i (rowsS e sz ic ((k,(A,n,c)) :: hs) ((k,v) :: vs))):=by
 have hp : (L.set i (rowsX e sz ic hs vs (fun q => q = k)))[i]? = some (rowsX e sz ic hs vs (fun q => q = k)):=by simp [hi]
 have:=h.join i hp (rowsS e sz ic ((k,(A,n,c)) :: hs) ((k,v) :: vs)) (fun h1 h2 h3 => ?_) (fun b hb => ?_)
 ·rw [List.set_set] at this
  exact this
 ·refine ⟨fun q _ => ?_,fun q q' _ _ hne b hb hb' => ?_⟩
  ·by_cases e1 : q = k
   ·subst e1
    rw [mgetV_same,mgetV_same]
    exact h2
   ·rw [mgetV_other e1,mgetV_other e1]
    exact h1.1 q e1
  ·by_cases e1 : q = k <;> by_cases e2 : q' = k
   ·exact hne (e1.trans e2.symm)
   ·subst e1
    rw [mgetV_same,mgetV_same] at hb
    rw [mgetV_other e2,mgetV_other e2] at hb'
    exact h3 b ⟨q',e2,hb'⟩ hb
   ·subst e2
    rw [mgetV_same,mgetV_same] at hb'
    rw [mgetV_other e1,mgetV_other e1] at hb
    exact h3 b ⟨q,e1,hb⟩ hb'
   ·rw [mgetV_other e1,mgetV_other e1] at hb
    rw [mgetV_other e2,mgetV_other e2] at hb'
    exact h1.2 q q' e1 e2 hne b hb hb'
 ·obtain ⟨q,_,hb⟩:=hb
  by_cases e1 : q = k
  ·subst e1
   rw [mgetV_same,mgetV_same] at hb
   exact .inr hb
  ·rw [mgetV_other e1,mgetV_other e1] at hb
   exact .inl ⟨q,e1,hb⟩
end
section
variable {r : Option Nat} {n : Nat} {P : Program} {ops : Array Oper} {Q : Exit → Act → World → Prop} {w0 : World} {L : List Res} {m : Nat} {tm : Nat → Value} {d : List Deferred}
variable {t : Tmp} {ty : TypeId} {pos : String} {af : Array Edge} {g : Option (Nat × Bool)} {l rest : List Oper}
variable {κ γ : Type} [DecidableEq κ] {ek : κ → Value} {ok : κ → Bool} {e : TypeId} {sz : Nat} {ic : γ → List Value} {hs : List (κ × Hd)} {vs : List (κ × List γ)}
theorem ox_makeMapS (kt : TypeId) (ek : κ → Value) (ok : κ → Bool) (e : TypeId) (sz : Nat) (ic : γ → List Value) {mt : TypeId} (hw : seesB ops m tm ⟨some t,.makeMap mt none,ty,pos,af,g⟩ = true)
  (h : ∀ b,OX r n P ops Q w0 (L ++ [mapV P kt ek ok hdV nilHd b ([] : List (κ × Hd)),rowsS e sz ic ([] : List (κ × Hd)) ([] : List (κ × List γ))]) rest m (upd tm t (.map (some b))) d) : OX r n P ops Q w0 L (⟨some t,.makeMap mt none,ty,pos,af,g⟩ :: rest) m tm d :=
 ox_makeMapV kt ek ok hdV nilHd hw (fun b => ox_perm (fun W hW => by
  have hd0 : ∀ c,¬ (rowsS e sz ic ([] : List (κ × Hd)) ([] : List (κ × List γ))).dom c:=fun c hc => by
   obtain ⟨k,_,a,ha,_⟩:=hc
   cases ha
  have:=hW.snoc (p:=rowsS e sz ic ([] : List (κ × Hd)) ([] : List (κ × List γ))) ⟨fun k _ => ⟨by simp [mgetV,encL,nilHd],.inl ⟨rfl,rfl⟩⟩,fun k k' _ _ _ c hc _ => hd0 c ⟨k,fun h => h,hc⟩⟩ (fun c hc => absurd hc (hd0 c)) (fun i q _ c _ hc => hd0 c hc)
  rw [List.append_assoc] at this
  exact this) (h b))
section
variable {ρ : Operand → Value} {t' : Option Tmp}
theorem y_lookupS {kt et mt b : Nat} {x y : Operand} {k : κ} (ho : HsOk hs vs) (hM : MpL w0 L (mapV P kt ek ok hdV nilHd b hs)) (K : KeyE P kt ek ok) (hm : P.underlying mt = some (.map kt et)) (hz : zeroOf P et = some (.slice none 0 0))
  (hx : ρ x = .map (some b)) (hy : ρ y = ek k) (hr : ok k = true) :
  OpY r n P ⟨t',.lookup mt x y false,ty,pos,af,g⟩ ρ (fun W => Ext w0 W L) (fun W => Ext w0 W L) (.slice (mgetV nilHd hs k).1 (mgetV [] vs k).length (mgetV nilHd hs k).2.2):=by
 have:=y_lookupV (r:=r) (n:=n) (t:=t') (ty:=ty) (pos:=pos) (af:=af) (g:=g) hM K hm hz hx hy hr
 rw [← ho.eq k]
 exact this
end
theorem ox_appendS (i : Nat) (k : κ) {ys : List γ} {x y : Operand} {u : TypeId} {B : Option Addr} {c' q : Nat} {by' : Nat} {z : Value} (hu : P.underlying u = some (.slice e)) (hz : zeroOf P e = some z) (hb : bytesB P e z sz by' = true)
  (ho : HsOk hs vs) (hL : L[i]? = some (rowsS e sz ic hs vs)) (hx : opv m tm x = .slice (mgetV nilHd hs k).1 (mgetV [] vs k).length (mgetV nilHd hs k).2.2) (hy : opv m tm y = .slice B q c') (hR : RdL w0 L B q c' (encL ic ys)) (hn : (encL ic ys).length = q * sz) (h1 : ((encL ic ys).all (·.oneCell')) = true) (hg : ((mgetV [] vs k).length + q) * by' ≤ 140737488355328)
  (hw : seesB ops m tm ⟨some t,.call ⟨.builtin .append,#[x,y],#[u,u]⟩,ty,pos,af,g⟩ = true)
  (h : ∀ A' c',OX r n P ops Q w0 (L.set i (rowsS e sz ic ((k,(A',(mgetV [] vs k).length + q,c')) :: hs) ((k,mgetV [] vs k ++ ys) :: vs))) rest m (upd tm t (.slice A' ((mgetV [] vs k).length + q) c')) d) :
  OX r n P ops Q w0 L (⟨some t,.call ⟨.builtin .append,#[x,y],#[u,u]⟩,ty,pos,af,g⟩ :: rest) m tm d:=by
 have hi : i < L.length:=(List.getElem?_eq_some_iff.1 hL).1
 rw [← ho.eq k] at hx hg h
 refine ox_perm (L':=L.set i (rowsX e sz ic hs vs (fun q => q = k)) ++ [rowR (mgetV nilHd hs k).1 (mgetV nilHd hs k).2.2 e sz (mgetV nilHd hs k).2.1 (encL ic (mgetV [] vs k))]) (fun W hW => hW.rowsOpen i hL k) ?_
 have hLk : (L.set i (rowsX e sz ic hs vs (fun q => q = k)) ++ [rowR (mgetV nilHd hs k).1 (mgetV nilHd hs k).2.2 e sz (mgetV nilHd hs k).2.1 (encL ic (mgetV [] vs k))])[L.length]? = some (rowR (mgetV nilHd hs k).1 (mgetV nilHd hs k).2.2 e sz (mgetV nilHd hs k).2.1 (encL ic (mgetV [] vs k))):=by
  rw [List.getElem?_append_right (by simp)]
  simp
 refine ox_append0 L.length hu hz hb hLk hx hy (fun W hW => ?_) hn h1 hg hw (fun A' c' => ?_)
 ·have h2:=Ext.rowsClose (k:=k) i hi hW
  have h3:=h2.tell i (p:=rowsS e sz ic ((k,((mgetV nilHd hs k).1,(mgetV nilHd hs k).2.1,(mgetV nilHd hs k).2.2)) :: hs) ((k,mgetV [] vs k) :: vs)) (by rw [List.getElem?_set_self hi]) (q:=rowsS e sz ic hs vs) (fun hh => rowsS_same hh) (fun b hb => by
   obtain ⟨q,_,hb⟩:=hb
   refine ⟨q,fun h => h,?_⟩
   by_cases e1 : q = k
   ·subst e1
    rw [mgetV_same,mgetV_same]; exact hb
   ·rw [mgetV_other e1,mgetV_other e1]; exact hb)
  rw [List.set_set] at h3
  have e2 : L.set i (rowsS e sz ic hs vs) = L:=by
   obtain ⟨hi,he⟩:=List.getElem?_eq_some_iff.1 hL
   rw [← he,List.set_getElem_self]
  rw [e2] at h3
  exact hR W h3
 ·have e3 : ∀ R : Res,(L.set i (rowsX e sz ic hs vs (fun q => q = k)) ++ [rowR (mgetV nilHd hs k).1 (mgetV nilHd hs k).2.2 e sz (mgetV nilHd hs k).2.1 (encL ic (mgetV [] vs k))]).set L.length R = L.set i (rowsX e sz ic hs vs (fun q => q = k)) ++ [R]:=fun R => by
   rw [List.set_append_right _ _ (by simp)]
   simp
  rw [e3]
  exact ox_perm (fun W hW => Ext.rowsClose i hi hW) (h A' c')
end
open Go.RowKit (Below)
section
variable {κ β γ : Type} [DecidableEq κ]
variable {P : Program} {kt : TypeId} {ek : κ → Value} {ok : κ → Bool} {ev : β → Value} {z : β} {b : Nat}
theorem ownsMap_tight {W : World} {n : Nat} {D : DataW Value} (h : W.ownsMap P kt rawR b n D) : W.ownsMap P kt rawR b (Maps.size D) D:=by
 obtain ⟨es,clock,hb,F,hs,rfl⟩:=h
 exact ⟨es,clock,hb,F,by simp [Maps.size,length_sorted],rfl⟩
theorem ranges_tight {W : World} {it n cnt : Nat} {D : DataW Value} {lf : Lit → Bool} (h : W.ranges P kt rawR b it n D lf cnt) : W.ranges P kt rawR b it (Maps.size D) D lf cnt:=by
 obtain ⟨es,clock,since,seen,c0,hb,F,hs,rfl,h2⟩:=h
 exact ⟨es,clock,since,seen,c0,hb,F,by simp [Maps.size,length_sorted],rfl,h2⟩
theorem ranges_mono {W : World} {it n n' cnt : Nat} {D : DataW Value} {lf : Lit → Bool} (h : W.ranges P kt rawR b it n D lf cnt) (hn : n ≤ n') : W.ranges P kt rawR b it n' D lf cnt:=by
 obtain ⟨es,clock,since,seen,c0,hb,F,hs,hD,h2⟩:=h
 exact ⟨es,clock,since,seen,c0,hb,F,Nat.le_trans hs hn,hD,h2⟩
theorem size_le_keys {W : World} {n : Nat} {D : DataW Value} (K : KeyE P kt ek ok) (h : W.ownsMap P kt rawR b n D) {m : List (κ × β)} (h3 : ∀ x l,ok x = true → keyOf P kt (ek x) = some l → Maps.has D l = true → mhasV m x = true) (h4 : ∀ l,Maps.has D l = true → ∃ x,ok x = true ∧ keyOf P kt (ek x) = some l) : Maps.size D ≤ m.length:=by
 obtain ⟨es,rfl,hp,hk⟩:=h.entries K.keyed
 have hn : (es.map Prod.fst).Nodup:=by
  rw [List.Nodup,List.pairwise_map]
  exact hp
 have hs : ∀ l ∈ es.map Prod.fst,l ∈ (m.map Prod.fst).filterMap fun x => keyOf P kt (ek x):=fun l hl => by
  obtain ⟨p,hpm,rfl⟩:=List.mem_map.1 hl
  have hh : Maps.has (.map es) p.1 = true:=by
   rw [Maps.has_eq]
   exact List.any_eq_true.2 ⟨p,hpm,WideAt.sameKey_self (hk p hpm)⟩
  obtain ⟨x,hx,hxl⟩:=h4 _ hh
  exact List.mem_filterMap.2 ⟨x,mhas_mem.1 (h3 x _ hx hxl hh),hxl⟩
 have h1:=nodup_len hn hs
 have h2:=List.length_filterMap_le (fun x => keyOf P kt (ek x)) (m.map Prod.fst)
 rw [List.length_map] at h1 h2
 have : Maps.size (.map es) = es.length:=rfl
 omega
theorem mapV_ext {W : World} (K : KeyE P kt ek ok) {m m' : List (κ × β)} (h : (mapV P kt ek ok ev z b m).holds W) (he : ∀ q,ok q = true → mgetV z m q = mgetV z m' q ∧ mhasV m q = mhasV m' q) : (mapV P kt ek ok ev z b m').holds W:=by
 obtain ⟨D,h1,h2,h3,h4⟩:=h
 have h3' : ∀ x l,ok x = true → keyOf P kt (ek x) = some l → D.atKey l (.held (ev z)) = .held (ev (mgetV z m' x)) ∧ Maps.has D l = mhasV m' x:=fun x l hx hl => by
  rw [← (he x hx).1,← (he x hx).2]
  exact h3 x l hx hl
 exact ⟨D,(ownsMap_tight h1).mono (size_le_keys K h1 (fun x l hx hl hh => by rw [← (h3' x l hx hl).2]; exact hh) h4),h2,h3',h4⟩
end
section
variable {r : Option Nat} {n : Nat} {P : Program} {ρ : Operand → Value} {w0 : World} {L : List Res}
variable {ty : TypeId} {pos : String} {af : Array Edge} {g : Option (Nat × Bool)}
variable {κ β : Type} [DecidableEq κ] {kt : TypeId} {ek : κ → Value} {ok : κ → Bool} {ev : β → Value} {z : β}
theorem del_facts {D : DataW Value} (K : KeyE P kt ek ok) {m : List (κ × β)} {k : κ} {kl : Lit} (hk : ok k = true) (hkl : keyOf P kt (ek k) = some kl)
  (h3 : ∀ x l,ok x = true → keyOf P kt (ek x) = some l → D.atKey l (.held (ev z)) = .held (ev (mgetV z m x)) ∧ Maps.has D l = mhasV m x) (h4 : ∀ l,Maps.has D l = true → ∃ x,ok x = true ∧ keyOf P kt (ek x) = some l) :
  (∀ x l,ok x = true → keyOf P kt (ek x) = some l → (D.del kl).atKey l (.held (ev z)) = .held (ev (mgetV z (mdelV m k) x)) ∧ Maps.has (D.del kl) l = mhasV (mdelV m k) x) ∧ ∀ l,Maps.has (D.del kl) l = true → ∃ x,ok x = true ∧ keyOf P kt (ek x) = some l:=by
 refine ⟨fun x l hx hl => ?_,fun l hl => ?_⟩
 ·rw [mget_del,mhas_del]
  by_cases e : x = k
  ·subst e
   have e2 : l = kl:=by rw [hl] at hkl; exact Option.some.inj hkl
   subst e2
   rw [Maps.atKey_del_same,Maps.has_del_same]
   simp
  ·have hne : l ≠ kl:=fun e2 => e (K.inj x k (K.keyed.inj hl (e2 ▸ hkl)))
   rw [Maps.atKey_del_other hne,Maps.has_del_other hne,(h3 x l hx hl).1,(h3 x l hx hl).2]
   simp [e]
 ·by_cases e : l = kl
  ·subst e; rw [Maps.has_del_same] at hl; cases hl
  ·rw [Maps.has_del_other e] at hl
   exact h4 l hl
theorem y_deleteV (i : Nat) {et mt b : Nat} {m : List (κ × β)} {x y : Operand} {k : κ} (hL : L[i]? = some (mapV P kt ek ok ev z b m)) (K : KeyE P kt ek ok) (hm : P.underlying mt = some (.map kt et)) (hx : ρ x = .map (some b)) (hy : ρ y = ek k) (hr : ok k = true) :
  OpY r n P ⟨none,.call ⟨.builtin .delete,#[x,y],#[mt,kt]⟩,ty,pos,af,g⟩ ρ (fun W => Ext w0 W L) (fun W => Ext w0 W (L.set i (mapV P kt ek ok ev z b (mdelV m k)))) (.tuple #[]):=fun W hW => by
 obtain ⟨D,h1,h2,h3,h4⟩:=hW.mem hL
 obtain ⟨l,hl⟩:=K.tot k hr
 obtain ⟨W',hrun,hown,htn⟩:=h1.drop K.keyed hm hl ty
 obtain ⟨f3,f4⟩:=del_facts K hr hl h3 h4
 have hg:=htn.grown
 have e1 : (execOp ρ ⟨none,.call ⟨.builtin .delete,#[x,y],#[mt,kt]⟩,ty,pos,af,g⟩).run P W = .ok (.value (.tuple #[])) W':=by
  simp only [execOp,resolve,invoke,builtin]
  simp [hx,hy,hrun]
 rw [semAt_exec (by intro c h; cases h),e1]
 refine ⟨rfl,hW.set hL _ ⟨_,(ownsMap_tight hown).mono (size_le_keys K hown (fun x l hx hl hh => by rw [← (f3 x l hx hl).2]; exact hh) f4),h2.del _,f3,f4⟩ hg.os hg.tape hg.output hg.size (fun c hc hn => hg.block c hc (fun e => hn (by cases e; rfl))) (fun c hc => .inl hc)⟩
end
section
variable {r : Option Nat} {n : Nat} {P : Program} {ops : Array Oper} {Q : Exit → Act → World → Prop} {w0 : World} {L : List Res} {m : Nat} {tm : Nat → Value} {d : List Deferred}
variable {ty : TypeId} {pos : String} {af : Array Edge} {g : Option (Nat × Bool)} {rest : List Oper} {e : Exit}
variable {κ β : Type} [DecidableEq κ] {kt : TypeId} {ek : κ → Value} {ok : κ → Bool} {ev : β → Value} {z : β}
theorem ox_deleteR (i : Nat) {et mt b it c : Nat} {M : List (κ × β)} {left : κ → Bool} {cur : Option (Value × Value)} {x y : Operand} {k : κ} (hL : L[i]? = some (rngV P kt ek ok ev z b it M left c cur)) (K : KeyE P kt ek ok) (hm : P.underlying mt = some (.map kt et)) (hx : opv m tm x = .map (some b)) (hy : opv m tm y = ek k) (hr : ok k = true) (hlk : left k = false)
  (hw : seesB ops m tm ⟨none,.call ⟨.builtin .delete,#[x,y],#[mt,kt]⟩,ty,pos,af,g⟩ = true)
  (h : ∀ c',c' ≤ c → OX r n P ops Q w0 (L.set i (rngV P kt ek ok ev z b it (mdelV M k) left c' none)) rest m tm d) :
  OX r n P ops Q w0 L (⟨none,.call ⟨.builtin .delete,#[x,y],#[mt,kt]⟩,ty,pos,af,g⟩ :: rest) m tm d:=fun W hW => by
 obtain ⟨⟨D,lf,h1,h2,h3,h4,h5,h6⟩,_⟩:=hW.mem hL
 obtain ⟨kl,hkl⟩:=K.tot k hr
 obtain ⟨W',c',hrun,hown,hc',htn⟩:=h1.drop K.keyed hm hkl ty
 obtain ⟨f3,f4⟩:=del_facts K hr hkl h3 h4
 have hg:=htn.grown
 have e1 : (execOp (opv m tm) ⟨none,.call ⟨.builtin .delete,#[x,y],#[mt,kt]⟩,ty,pos,af,g⟩).run P W = .ok (.value (.tuple #[])) W':=by
  simp only [execOp,resolve,invoke,builtin]
  simp [hx,hy,hrun]
 have hlf : ∀ l,(lf l && !l.sameKey kl) = lf l:=fun l => by
  by_cases hh : Maps.has D l = true
  ·obtain ⟨q,hq,hql⟩:=h4 l hh
   cases hs : l.sameKey kl with
   | false => simp
   | true =>
    have e4:=WideAt.sameKey_eq hs
    have e5 : q = k:=K.inj q k (K.keyed.inj hql (e4 ▸ hkl))
    subst e5
    rw [h5 q l hq hql,hlk]
    rfl
  ·cases hf : lf l with
   | false => rfl
   | true => exact absurd (h6 l hf) hh
 have hown2 : W'.ranges P kt rawR b it M.length (D.del kl) lf c':=by
  have e6 : (fun x => lf x && !x.sameKey kl) = lf:=funext hlf
  rw [e6] at hown
  exact hown
 have h8 : (rngV P kt ek ok ev z b it (mdelV M k) left c' none).holds W':=by
  refine ⟨⟨_,lf,ranges_mono (ranges_tight hown2) (size_le_keys K hown2.owns (fun x l hx hl hh => by rw [← (f3 x l hx hl).2]; exact hh) f4),h2.del _,f3,f4,h5,fun l hl => ?_⟩,fun q hq => by cases hq⟩
  have h9:=h6 l hl
  by_cases e7 : l = kl
  ·subst e7
   have h10:=hlf l
   rw [hl,WideAt.sameKey_self (K.keyed.key hkl)] at h10
   cases h10
  ·rw [Maps.has_del_other e7]
   exact h9
 have hE : Ext w0 W' (L.set i (rngV P kt ek ok ev z b it (mdelV M k) left c' none)) :=
  hW.set hL _ h8 hg.os hg.tape hg.output hg.size (fun c hc hn => hg.block c hc (fun e => hn (.inl (by cases e; rfl)))) (fun c hc => .inl hc)
 unfold OL
 rw [wanted_act,if_pos hw]
 refine ⟨fun _ _ => trivial,?_⟩
 show Oper.uponIn (Fw r) n P _ _ _ Q ((Oper.semAt r (act m tm d).eval _).run P W)
 rw [semAt_exec (by intro c h; cases h),eval_act,e1]
 exact h c' hc' W' hE
theorem ex_rngNone (i : Nat) {b it c : Nat} {M : List (κ × β)} {left : κ → Bool} {cur : Option (Value × Value)} (hL : L[i]? = some (rngV P kt ek ok ev z b it M left c cur)) (h : EX Q e w0 (L.set i (rngV P kt ek ok ev z b it M left c none)) m tm d) : EX Q e w0 L m tm d:=fun W hW =>
 h W (hW.tell i hL (fun hh => ⟨hh.1,fun q hq => by cases hq⟩) (fun b hb => hb))
theorem ex_rngEnd (i : Nat) {b it c : Nat} {M : List (κ × β)} {left : κ → Bool} {cur : Option (Value × Value)} (hL : L[i]? = some (rngV P kt ek ok ev z b it M left c cur)) (h : EX Q e w0 (L.set i (mapV P kt ek ok ev z b M)) m tm d) : EX Q e w0 L m tm d:=fun W hW => h W (hW.rangeEnd i hL)
theorem ex_mapExt (i : Nat) {b : Nat} {M : List (κ × β)} (M' : List (κ × β)) (K : KeyE P kt ek ok) (hL : L[i]? = some (mapV P kt ek ok ev z b M)) (he : ∀ q,ok q = true → mgetV z M q = mgetV z M' q ∧ mhasV M q = mhasV M' q) (h : EX Q e w0 (L.set i (mapV P kt ek ok ev z b M')) m tm d) : EX Q e w0 L m tm d:=fun W hW =>
 h W (hW.tell i hL (fun hh => mapV_ext K hh he) (fun b hb => hb))
end
section
variable {P : Program} {κ β : Type} [DecidableEq κ] {kt : TypeId} {ek : κ → Value} {ok : κ → Bool} {ev : β → Value} {z : β}
theorem rngV_at {W W' : World} {b it c : Nat} {M : List (κ × β)} {left : κ → Bool} {cur : Option (Value × Value)} (hh : (rngV P kt ek ok ev z b it M left c cur).holds W) (hb : W'.heap[b]? = W.heap[b]?) (hi : W'.heap[it]? = W.heap[it]?) : (rngV P kt ek ok ev z b it M left c cur).holds W':=by
 obtain ⟨⟨D,lf,⟨es,clock,since,seen,c0,hb0,F,hs,hD,hr,rest⟩,h2⟩,h3⟩:=hh
 exact ⟨⟨D,lf,⟨es,clock,since,seen,c0,hb.trans hb0,F,hs,hD,hi.trans hr,rest⟩,h2⟩,fun q hq => entry_at hr hb0 (hi.trans hr) (hb.trans hb0) (h3 q hq)⟩
theorem rngV_next {W : World} {b it c : Nat} {M : List (κ × β)} {left : κ → Bool} {cur : Option (Value × Value)} (K : KeyE P kt ek ok) (hh : (rngV P kt ek ok ev z b it M left c cur).holds W) (ty : TypeId) :
  ((∀ y,ok y = true → left y = false) ∧ (Instr.next (.pointer (some ⟨it,0,none⟩)) false ty).run P W = .ok (.tuple #[.bool false]) W) ∨
  ∃ y W' c',ok y = true ∧ left y = true ∧ mhasV M y = true ∧ c' < c ∧ (Instr.next (.pointer (some ⟨it,0,none⟩)) false ty).run P W = .ok (.tuple #[.bool true,ek y,ev (mgetV z M y)]) W' ∧ (rngV P kt ek ok ev z b it M (fun q => left q && !decide (q = y)) c' (some (ek y,ev (mgetV z M y)))).holds W' ∧ W.grownBy W' (some it):=by
 obtain ⟨⟨D,lf,hr,h2,h3,h4,h5,h6⟩,_⟩:=hh
 rcases hr.next K.keyed ty with ⟨_,hl,hrun⟩ | ⟨key,v,kl,y0,W',k',hkey,hlk,hv,hat,hrun,hr',hk',hg,hs,hen⟩
 ·refine .inl ⟨fun y hy => ?_,hrun⟩
  obtain ⟨l,hl'⟩:=K.tot y hy
  rw [← h5 y l hy hl']
  exact hl l
 ·obtain ⟨y,hy,hyl⟩:=h4 kl (h6 kl hlk)
  have hke : key = ek y:=K.keyed.inj hkey hyl
  have hva : v = ev (mgetV z M y):=by
   have e1:=(h3 y kl hy hyl).1
   rw [hat] at e1
   have e2 : y0 = (.held v,[]):=(Option.some.inj hv).symm
   rw [e2] at e1
   simp only [DataW.held.injEq] at e1
   exact e1
  subst hke hva
  refine .inr ⟨y,W',k',hy,by rw [← h5 y kl hy hyl]; exact hlk,by rw [← (h3 y kl hy hyl).2]; exact h6 kl hlk,hk',hrun,⟨⟨D,_,hr',h2,h3,h4,fun q l hq hl => ?_,fun l hl => ?_⟩,fun q hq => by cases hq; exact hen⟩,hg⟩
  ·show (lf l && !l.sameKey kl) = (left q && !decide (q = y))
   rw [h5 q l hq hl]
   by_cases e : q = y
   ·subst e
    have e3 : l = kl:=by rw [hl] at hyl; exact Option.some.inj hyl
    rw [e3,WideAt.sameKey_self (K.keyed.key hyl)]
    simp
   ·have e3 : l.sameKey kl = false:=by
     cases hsk : l.sameKey kl with
     | false => rfl
     | true =>
      have e4:=WideAt.sameKey_eq hsk
      exact absurd (K.inj q y (K.keyed.inj hl (e4 ▸ hyl))) e
    rw [e3]
    simp [e]
  ·have hl2 : (lf l && !l.sameKey kl) = true:=hl
   rw [Bool.and_eq_true] at hl2
   exact h6 l hl2.1
def rngA (w0 : World) (P : Program) (kt : TypeId) (ek : κ → Value) (ok : κ → Bool) (ev : β → Value) (z : β) (b it : Nat) (M : List (κ × β)) (left : κ → Bool) (c : Nat) (cur : Option (Value × Value)) : Res where
 dom x:=x = it
 holds W:=it < W.heap.size ∧ ∀ W',W'.heap[it]? = W.heap[it]? → W'.heap[b]? = w0.heap[b]? → (rngV P kt ek ok ev z b it M left c cur).holds W'
 loc W W' h hs hh:=⟨Nat.lt_of_lt_of_le hh.1 hs,fun W2 h1 h2 => hh.2 W2 (h1.trans (h it rfl)) h2⟩
 inb W hh x hx:=by
  have hx' : x = it:=hx
  rw [hx']
  exact hh.1
theorem Cy.rngA {B : Nat} {w0 : World} {b it c : Nat} {M : List (κ × β)} {left : κ → Bool} {cur : Option (Value × Value)} (h : it < B) : Cy B (rngA w0 P kt ek ok ev z b it M left c cur):=fun W x _ hx => by
 have hx' : x = it:=hx
 exact .inl (by omega)
end
section
variable {r : Option Nat} {n : Nat} {P : Program} {ops : Array Oper} {Q : Exit → Act → World → Prop} {w0 : World} {L : List Res} {m : Nat} {tm : Nat → Value} {d : List Deferred}
variable {t : Tmp} {ty : TypeId} {pos : String} {af : Array Edge} {g : Option (Nat × Bool)} {rest : List Oper} {e : Exit}
variable {κ β : Type} [DecidableEq κ] {kt : TypeId} {ek : κ → Value} {ok : κ → Bool} {ev : β → Value} {z : β}
theorem ox_rangeA {mt et b : Nat} {M : List (κ × β)} {x : Operand} (hM : (mapV P kt ek ok ev z b M).holds w0) (K : KeyE P kt ek ok) (hm : P.underlying mt = some (.map kt et)) (hx : opv m tm x = .map (some b))
  (hw : seesB ops m tm ⟨some t,.range mt x,ty,pos,af,g⟩ = true)
  (h : ∀ it k,k ≤ M.length → OX r n P ops Q w0 (L ++ [rngA w0 P kt ek ok ev z b it M (fun y => mhasV M y) k none]) rest m (upd tm t (.pointer (some ⟨it,0,none⟩))) d) :
  OX r n P ops Q w0 L (⟨some t,.range mt x,ty,pos,af,g⟩ :: rest) m tm d :=
 ox_step hw (by intro c h; cases h) fun W hW => by
  have hb0 : b < w0.heap.size:=(mapV P kt ek ok ev z b M).inb w0 hM b rfl
  have hMW:=mapV.later hM hW.below
  obtain ⟨D,h1,h2,h3,h4⟩:=hMW
  obtain ⟨W',hrun,hr,hg,hs⟩:=h1.range K.keyed hm
  have hsz:=hW.size
  have hbW : W'.heap[b]? = w0.heap[b]?:=by rw [hg.block b (by omega) (by simp),hW.below.block b hb0]
  have hrv : (rngV P kt ek ok ev z b W.heap.size M (fun y => mhasV M y) (Maps.size D) none).holds W':=⟨⟨D,Maps.has D,hr,h2,h3,h4,fun y l hy hl => (h3 y l hy hl).2,fun _ h => h⟩,fun q hq => by cases hq⟩
  refine ⟨_,W',_,by simp [execOp,hx,hrun],?_,h W.heap.size (Maps.size D) h1.size_le⟩
  have h7 : Ext w0 W' L:=hW.keep (hW.below.trans ⟨hg.os,hg.tape,hg.output,hg.size,fun c hc => hg.block c (by omega) (by simp)⟩) hg.size (fun i p hp c hd => hg.block c (p.inb W (hW.all i p hp) c hd) (by simp))
  refine h7.snoc ⟨by rw [hs]; exact Nat.lt_succ_self _,fun W2 e1 e2 => rngV_at hrv (e2.trans hbW.symm) e1⟩ (fun c hc => ?_) (fun i q hq c hc hc' => ?_)
  ·have hc' : c = W.heap.size:=hc
   omega
  ·have hc'' : c = W.heap.size:=hc'
   have:=q.inb W (hW.all i q hq) c hc
   omega
theorem ox_nextA (i : Nat) {b it k : Nat} {M : List (κ × β)} {left : κ → Bool} {cur : Option (Value × Value)} {x : Operand} (hb0 : b < w0.heap.size) (hL : L[i]? = some (rngA w0 P kt ek ok ev z b it M left k cur)) (K : KeyE P kt ek ok) (hx : opv m tm x = .pointer (some ⟨it,0,none⟩))
  (hw : seesB ops m tm ⟨some t,.next x false,ty,pos,af,g⟩ = true)
  (h0 : (∀ y,ok y = true → left y = false) → OX r n P ops Q w0 L rest m (upd tm t (.tuple #[.bool false])) d)
  (h1 : ∀ y k',ok y = true → left y = true → mhasV M y = true → k' < k → OX r n P ops Q w0 (L.set i (rngA w0 P kt ek ok ev z b it M (fun q => left q && !decide (q = y)) k' (some (ek y,ev (mgetV z M y))))) rest m (upd tm t (.tuple #[.bool true,ek y,ev (mgetV z M y)])) d) :
  OX r n P ops Q w0 L (⟨some t,.next x false,ty,pos,af,g⟩ :: rest) m tm d :=
 ox_step hw (by intro c h; cases h) fun W hW => by
  have hh:=hW.mem hL
  have hbW : W.heap[b]? = w0.heap[b]?:=hW.below.block b hb0
  rcases rngV_next K (hh.2 W rfl hbW) ty with ⟨hno,hrun⟩ | ⟨y,W',k',hy,hly,hM,hk',hrun,hrv,hg⟩
  ·exact ⟨_,W,L,by simp [execOp,hx,hrun],hW,h0 hno⟩
  ·have hne : b ≠ it:=fun e => by
    have:=hW.new i _ hL it rfl
    omega
   have hbW' : W'.heap[b]? = w0.heap[b]?:=by rw [hg.block b (by have:=hW.size; omega) (by simpa using fun e => hne e),hbW]
   refine ⟨_,W',_,by simp [execOp,hx,hrun],?_,h1 y k' hy hly hM hk'⟩
   exact hW.set hL _ ⟨Nat.lt_of_lt_of_le hh.1 hg.size,fun W2 e1 e2 => rngV_at hrv (e2.trans hbW'.symm) e1⟩ hg.os hg.tape hg.output hg.size (fun c hc hn => hg.block c hc (fun e => hn (by cases e; rfl))) (fun c hc => .inl hc)
theorem ex_rngNoneA (i : Nat) {b it c : Nat} {M : List (κ × β)} {left : κ → Bool} {cur : Option (Value × Value)} (hL : L[i]? = some (rngA w0 P kt ek ok ev z b it M left c cur)) (h : EX Q e w0 (L.set i (rngA w0 P kt ek ok ev z b it M left c none)) m tm d) : EX Q e w0 L m tm d:=fun W hW =>
 h W (hW.tell i hL (fun hh => ⟨hh.1,fun W2 e1 e2 => ⟨(hh.2 W2 e1 e2).1,fun q hq => by cases hq⟩⟩) (fun b hb => hb))
end
section
variable {r : Option Nat} {n : Nat} {P : Program} {ρ : Operand → Value} {w0 : World} {L : List Res}
variable {t : Option Tmp} {ty : TypeId} {pos : String} {af : Array Edge} {g : Option (Nat × Bool)}
variable {κ β : Type} [DecidableEq κ] {kt : TypeId} {ek : κ → Value} {ok : κ → Bool} {ev : β → Value} {z : β}
theorem y_entryA (i : Nat) {b it k : Nat} {M : List (κ × β)} {left : κ → Bool} {a c : Value} {x : Operand} (hb0 : b < w0.heap.size) (hL : L[i]? = some (rngA w0 P kt ek ok ev z b it M left k (some (a,c)))) (hx : ρ x = .pointer (some ⟨it,0,none⟩)) :
  OpY r n P ⟨t,.entry x,ty,pos,af,g⟩ ρ (fun W => Ext w0 W L) (fun W => Ext w0 W L) (.tuple #[a,c]) :=
 opY_val (by intro c h; cases h) (fun W hW => by
  obtain ⟨_,h⟩:=(hW.mem hL).2 W rfl (hW.below.block b hb0)
  simp [execOp,hx,h _ rfl])
end
section
variable {κ β γ : Type} [DecidableEq κ] {ok : κ → Bool}
structure UnionI (ok : κ → Bool) (z v : γ) (M : List (κ × β)) (m0 : List (κ × γ)) (s : Nat × (κ → Bool) × List (κ × γ)) : Prop where
 len : s.2.2.length + s.1 ≤ m0.length + M.length
 val : ∀ q,ok q = true → mgetV z s.2.2 q = (if (mhasV M q && !s.2.1 q) = true then v else mgetV z m0 q) ∧ mhasV s.2.2 q = (mhasV M q && !s.2.1 q || mhasV m0 q)
theorem UnionI.start {z v : γ} {M : List (κ × β)} {m0 : List (κ × γ)} {k : Nat} (hk : k ≤ M.length) : UnionI ok z v M m0 (k,(fun y => mhasV M y),m0) :=
 ⟨by simp; omega,fun q _ => by simp⟩
theorem UnionI.step {z v : γ} {M : List (κ × β)} {m0 : List (κ × γ)} {s : Nat × (κ → Bool) × List (κ × γ)} (h : UnionI ok z v M m0 s) {y : κ} {k : Nat} (hy : ok y = true) (hM : mhasV M y = true) (hk : k < s.1) :
  UnionI ok z v M m0 (k,(fun q => s.2.1 q && !decide (q = y)),(y,v) :: s.2.2):=by
 refine ⟨by have:=h.len; simp only [List.length_cons]; omega,fun q hq => ?_⟩
 obtain ⟨h1,h2⟩:=h.val q hq
 simp only [mget_cons,mhas_cons,h1,h2]
 by_cases e : y = q
 ·subst e
  simp [hM]
 ·have e' : ¬ q = y:=fun h => e h.symm
  simp [e,e']
theorem UnionI.room {z v : γ} {M : List (κ × β)} {m0 : List (κ × γ)} {s : Nat × (κ → Bool) × List (κ × γ)} (h : UnionI ok z v M m0 s) {k : Nat} (hk : k < s.1) (hg : m0.length + M.length ≤ 1000000) : s.2.2.length < 1000000:=by have:=h.len; omega
theorem UnionI.done {z v : γ} {M : List (κ × β)} {m0 : List (κ × γ)} {s : Nat × (κ → Bool) × List (κ × γ)} (h : UnionI ok z v M m0 s) (hno : ∀ y,ok y = true → s.2.1 y = false) : ∀ q,ok q = true → mgetV z s.2.2 q = mgetV z (unionV v M m0) q ∧ mhasV s.2.2 q = mhasV (unionV v M m0) q:=fun q hq => by
 obtain ⟨h1,h2⟩:=h.val q hq
 rw [mget_union,mhas_union,h1,h2,hno q hq]
 simp
structure DiffI (ok : κ → Bool) (z : γ) (M : List (κ × β)) (m0 : List (κ × γ)) (s : Nat × (κ → Bool) × List (κ × γ)) : Prop where
 val : ∀ q,ok q = true → mgetV z s.2.2 q = (if (mhasV M q && !s.2.1 q) = true then z else mgetV z m0 q) ∧ mhasV s.2.2 q = (!(mhasV M q && !s.2.1 q) && mhasV m0 q)
theorem DiffI.start {z : γ} {M : List (κ × β)} {m0 : List (κ × γ)} {k : Nat} : DiffI ok z M m0 (k,(fun y => mhasV M y),m0):=⟨fun q _ => by simp⟩
theorem DiffI.step {z : γ} {M : List (κ × β)} {m0 : List (κ × γ)} {s : Nat × (κ → Bool) × List (κ × γ)} (h : DiffI ok z M m0 s) {y : κ} {k : Nat} (hy : ok y = true) (hM : mhasV M y = true) :
  DiffI ok z M m0 (k,(fun q => s.2.1 q && !decide (q = y)),mdelV s.2.2 y):=by
 refine ⟨fun q hq => ?_⟩
 obtain ⟨h1,h2⟩:=h.val q hq
 simp only [mget_del,mhas_del,h1,h2]
 by_cases e : q = y
 ·subst e; simp [hM]
 ·simp [e]
theorem DiffI.done {z : γ} {M : List (κ × β)} {m0 : List (κ × γ)} {s : Nat × (κ → Bool) × List (κ × γ)} (h : DiffI ok z M m0 s) (hno : ∀ y,ok y = true → s.2.1 y = false) : ∀ q,ok q = true → mgetV z s.2.2 q = mgetV z (diffV M m0) q ∧ mhasV s.2.2 q = mhasV (diffV M m0) q:=fun q hq => by
 obtain ⟨h1,h2⟩:=h.val q hq
 unfold diffV
 rw [mget_filter z (fun x => !mhasV M x),mhas_filter (fun x => !mhasV M x),h1,h2,hno q hq]
 cases mhasV M q <;> simp
structure DropI (ok : κ → Bool) (z : β) (c : κ → Bool) (M : List (κ × β)) (s : Nat × (κ → Bool) × List (κ × β)) : Prop where
 val : ∀ q,ok q = true → mgetV z s.2.2 q = (if (mhasV M q && !s.2.1 q && c q) = true then z else mgetV z M q) ∧ mhasV s.2.2 q = (!(mhasV M q && !s.2.1 q && c q) && mhasV M q)
theorem DropI.start {z : β} {c : κ → Bool} {M : List (κ × β)} {k : Nat} : DropI ok z c M (k,(fun y => mhasV M y),M):=⟨fun q _ => by simp⟩
theorem DropI.keep {z : β} {c : κ → Bool} {M : List (κ × β)} {s : Nat × (κ → Bool) × List (κ × β)} (h : DropI ok z c M s) {y : κ} {k : Nat} (hc : c y = false) : DropI ok z c M (k,(fun q => s.2.1 q && !decide (q = y)),s.2.2):=by
 refine ⟨fun q hq => ?_⟩
 obtain ⟨h1,h2⟩:=h.val q hq
 simp only [h1,h2]
 by_cases e : q = y
 ·subst e; simp [hc]
 ·simp [e]
theorem DropI.del {z : β} {c : κ → Bool} {M : List (κ × β)} {s : Nat × (κ → Bool) × List (κ × β)} (h : DropI ok z c M s) {y : κ} {k : Nat} (hc : c y = true) (hM : mhasV s.2.2 y = true) : DropI ok z c M (k,(fun q => s.2.1 q && !decide (q = y)),mdelV s.2.2 y):=by
 refine ⟨fun q hq => ?_⟩
 obtain ⟨h1,h2⟩:=h.val q hq
 have hMy : q = y → mhasV M q = true:=fun e => by
  subst e
  rw [hM] at h2
  have:=h2.symm
  rw [Bool.and_eq_true] at this
  exact this.2
 simp only [mget_del,mhas_del,h1,h2]
 by_cases e : q = y
 ·have:=hMy e
  subst e; simp [hc,this]
 ·simp [e]
theorem DropI.done {z : β} {c : κ → Bool} {M : List (κ × β)} {s : Nat × (κ → Bool) × List (κ × β)} (h : DropI ok z c M s) (hno : ∀ y,ok y = true → s.2.1 y = false) : ∀ q,ok q = true → mgetV z s.2.2 q = mgetV z (M.filter fun p => !c p.1) q ∧ mhasV s.2.2 q = mhasV (M.filter fun p => !c p.1) q:=fun q hq => by
 obtain ⟨h1,h2⟩:=h.val q hq
 rw [mget_filter z (fun x => !c x),mhas_filter (fun x => !c x),h1,h2,hno q hq]
 cases hm : mhasV M q with
 | true => cases c q <;> simp
 | false => rw [mget_none hm]; cases c q <;> simp
structure CollI (ok : κ → Bool) (M : List (κ × Bool)) (s : Nat × (κ → Bool) × List κ) : Prop where
 len : s.2.2.length + s.1 ≤ M.length
 nd : s.2.2.Nodup
 val : ∀ q,q ∈ s.2.2 ↔ ok q = true ∧ mhasV M q = true ∧ s.2.1 q = false ∧ mgetV false M q = true
theorem CollI.start {M : List (κ × Bool)} {k : Nat} (hk : k ≤ M.length) : CollI ok M (k,(fun y => mhasV M y),[]) :=
 ⟨by simpa using hk,List.Pairwise.nil,fun q => by
  simp only [List.not_mem_nil,false_iff]
  intro h
  rw [h.2.1] at h
  exact absurd h.2.2.1 (by simp)⟩
theorem CollI.keep {M : List (κ × Bool)} {s : Nat × (κ → Bool) × List κ} (h : CollI ok M s) {y : κ} {k : Nat} (hk : k < s.1) (hv : mgetV false M y = false) : CollI ok M (k,(fun q => s.2.1 q && !decide (q = y)),s.2.2):=by
 refine ⟨by have:=h.len; simp only; omega,h.nd,fun q => ?_⟩
 rw [h.val q]
 by_cases e : q = y
 ·subst e; simp [hv]
 ·simp [e]
theorem CollI.app {M : List (κ × Bool)} {s : Nat × (κ → Bool) × List κ} (h : CollI ok M s) {y : κ} {k : Nat} (hy : ok y = true) (hly : s.2.1 y = true) (hM : mhasV M y = true) (hk : k < s.1) (hv : mgetV false M y = true) : CollI ok M (k,(fun q => s.2.1 q && !decide (q = y)),s.2.2 ++ [y]):=by
 refine ⟨by have:=h.len; simp only [List.length_append,List.length_cons,List.length_nil]; omega,?_,fun q => ?_⟩
 ·rw [List.nodup_append]
  refine ⟨h.nd,by simp,fun a ha b hb => ?_⟩
  rw [List.mem_singleton.1 hb]
  intro e
  subst e
  have:=((h.val a).1 ha).2.2.1
  rw [hly] at this
  cases this
 ·rw [List.mem_append,h.val q,List.mem_singleton]
  by_cases e : q = y
  ·subst e; simp [hy,hM,hv]
  ·simp [e]
end
open Go.RowKit (Below)
section
variable {β γ : Type} {sel : β → List γ} {ic : γ → List Value} {wb : World} {Hb Hb' : World → Prop}
def Pv (ic : γ → List Value) (wb : World) (Hb : World → Prop) (h : Hd) (cs : List γ) : Prop:=∀ W,Below wb.heap.size wb W → Hb W → Rd W h.1 h.2.1 h.2.2 (encL ic cs)
def PvL (sel : β → List γ) (ic : γ → List Value) (wb : World) (Hb : World → Prop) (ys : List (Hd × β)) : Prop:=∀ y ∈ ys,Pv ic wb Hb y.1 (sel y.2)
theorem Pv.nil {cs : List γ} (h : cs = []) : Pv ic wb Hb (none,0,0) cs:=fun _ _ _ => Rd.nil (by subst h; rfl)
theorem Pv.cut {cells : γ → List Value} {sz : Nat} (hc : ∀ x,(cells x).length = sz) {A : Option Addr} {n c : Nat} {xs : List γ} {lo hi : Int} (_h0 : 0 ≤ lo) (h1 : lo ≤ hi) (h2 : hi ≤ (n : Int)) (_hn : n = xs.length) (hp : Pv cells wb Hb (A,n,c) xs) :
  Pv cells wb Hb ((if c = lo.toNat then A else A.map (fun x => x.add (lo.toNat * sz))),hi.toNat - lo.toNat,c - lo.toNat) ((xs.drop lo.toNat).take (hi.toNat - lo.toNat)):=fun W hb hh => by
 have:=(hp W hb hh).cut (sz:=sz) (l:=lo.toNat) (h:=hi.toNat) (by omega) (by show hi.toNat ≤ n; omega)
 rw [encL_drop hc,encL_take hc] at this
 exact this
theorem Pv.mono {h : Hd} {cs : List γ} (hp : Pv ic wb Hb h cs) (hi : ∀ W,Below wb.heap.size wb W → Hb' W → Hb W) : Pv ic wb Hb' h cs:=fun W hb hh => hp W hb (hi W hb hh)
theorem PvL.of_nest {W : World} {ys : List (Hd × β)} {xs : List β} (h : NestW W sel ic ys xs) : PvL sel ic W (fun _ => True) ys:=fun y hy W' hb _ => (h.inn y hy).later hb
theorem PvL.mono {ys : List (Hd × β)} (hp : PvL sel ic wb Hb ys) (hi : ∀ W,Below wb.heap.size wb W → Hb' W → Hb W) : PvL sel ic wb Hb' ys:=fun y hy => (hp y hy).mono hi
theorem PvL.nil : PvL sel ic wb Hb []:=fun y hy => by cases hy
theorem PvL.cons {y : Hd × β} {ys : List (Hd × β)} (h1 : Pv ic wb Hb y.1 (sel y.2)) (h2 : PvL sel ic wb Hb ys) : PvL sel ic wb Hb (y :: ys):=fun z hz => by
 rcases List.mem_cons.1 hz with rfl | hz
 ·exact h1
 ·exact h2 z hz
theorem PvL.app {ys zs : List (Hd × β)} (h1 : PvL sel ic wb Hb ys) (h2 : PvL sel ic wb Hb zs) : PvL sel ic wb Hb (ys ++ zs):=fun z hz => by
 rcases List.mem_append.1 hz with hz | hz
 ·exact h1 z hz
 ·exact h2 z hz
theorem PvL.set {y : Hd × β} {ys : List (Hd × β)} (j : Nat) (h : PvL sel ic wb Hb ys) (hv : Pv ic wb Hb y.1 (sel y.2)) : PvL sel ic wb Hb (ys.set j y):=fun z hz => by
 rcases List.mem_or_eq_of_mem_set hz with hz | rfl
 ·exact h z hz
 ·exact hv
theorem NestP.nil : NestP sel ([] : List (Hd × β)) []:=⟨rfl,fun y hy => by cases hy⟩
theorem NestP.zip {ys : List (Hd × β)} {xs : List β} (h : NestP sel ys xs) : ys = (ys.map Prod.fst).zip xs:=by
 rw [← h.eq]
 clear h
 induction ys with
 | nil => rfl
 | cons y ys ih =>
  rw [List.map_cons,List.map_cons,List.zip_cons_cons,← ih]
theorem NestP.cons {y : Hd × β} {ys : List (Hd × β)} {xs : List β} (h1 : y.1.2.1 = (sel y.2).length) (h2 : NestP sel ys xs) : NestP sel (y :: ys) (y.2 :: xs):=⟨by simp [h2.eq],fun z hz => by
 rcases List.mem_cons.1 hz with rfl | hz
 ·exact h1
 ·exact h2.ln z hz⟩
theorem NestP.app {ys zs : List (Hd × β)} {xs us : List β} (h1 : NestP sel ys xs) (h2 : NestP sel zs us) : NestP sel (ys ++ zs) (xs ++ us):=⟨by rw [List.map_append,h1.eq,h2.eq],fun z hz => by
 rcases List.mem_append.1 hz with hz | hz
 ·exact h1.ln z hz
 ·exact h2.ln z hz⟩
theorem NestP.set {y : Hd × β} {ys : List (Hd × β)} {xs : List β} (j : Nat) (h : NestP sel ys xs) (hv : y.1.2.1 = (sel y.2).length) {x : β} (hx : y.2 = x) : NestP sel (ys.set j y) (xs.set j x):=⟨by rw [List.map_set,h.eq,hx],fun z hz => by
 rcases List.mem_or_eq_of_mem_set hz with hz | rfl
 ·exact h.ln z hz
 ·exact hv⟩
theorem PvL.nestL {w0 : World} {L : List Res} {ys : List (Hd × β)} {xs : List β} (hP : NestP sel ys xs) (hv : PvL sel ic wb Hb ys) (hB : ∀ W,Ext w0 W L → Below wb.heap.size wb W ∧ Hb W) : NestL w0 L sel ic ys xs:=⟨hP,fun y hy W hW => hv y hy W (hB W hW).1 (hB W hW).2⟩
variable [Inhabited β] [Inhabited γ]
omit [Inhabited γ] in
theorem PvL.get {ys : List (Hd × β)} {xs : List β} (h : PvL sel ic wb Hb ys) (hP : NestP sel ys xs) {i : Int} (h0 : 0 ≤ i) (h1 : i < (xs.length : Int)) : Pv ic wb Hb ((rdL ys i).1.1,(sel (rdL xs i)).length,(rdL ys i).1.2.2) (sel (rdL xs i)):=by
 have hl : xs.length = ys.length:=hP.hn rfl
 have h2:=hP.len h0 h1
 have h3:=h _ (rdL_mem (xs:=ys) h0 (by omega))
 rw [hP.snd i] at h3
 intro W hb hh
 have h4:=h3 W hb hh
 rw [h2] at h4
 exact h4
end
section
variable {w0 : World} {L : List Res}
def andR (p q : Res) : Res where
 dom b:=p.dom b ∨ q.dom b
 holds W:=p.holds W ∧ q.holds W ∧ ∀ b,p.dom b → ¬ q.dom b
 loc W W' h hs hh:=⟨p.loc W W' (fun b hb => h b (.inl hb)) hs hh.1,q.loc W W' (fun b hb => h b (.inr hb)) hs hh.2.1,hh.2.2⟩
 inb W hh b hb:=by
  rcases hb with hb | hb
  ·exact p.inb W hh.1 b hb
  ·exact q.inb W hh.2.1 b hb
theorem Ext.joinF {W : World} (h : Ext w0 W L) (i j : Nat) (hij : i ≠ j) {p q : Res} (hp : L[i]? = some p) (hq : L[j]? = some q) : Ext w0 W ((L.set j noR).set i (andR p q)):=by
 have hget : ∀ (k : Nat) (s : Res),((L.set j noR).set i (andR p q))[k]? = some s → (k = i ∧ s = andR p q) ∨ s = noR ∨ (k ≠ i ∧ k ≠ j ∧ L[k]? = some s):=by
  intro k s hk
  by_cases e : i = k
  ·subst e
   have hi : i < (L.set j noR).length:=by rw [List.length_set]; exact (List.getElem?_eq_some_iff.1 hp).1
   rw [List.getElem?_set_self hi] at hk
   cases hk
   exact .inl ⟨rfl,rfl⟩
  ·rw [List.getElem?_set_ne e] at hk
   by_cases e2 : j = k
   ·subst e2
    rw [List.getElem?_set_self (List.getElem?_eq_some_iff.1 hq).1] at hk
    cases hk
    exact .inr (.inl rfl)
   ·rw [List.getElem?_set_ne e2] at hk
    exact .inr (.inr ⟨fun h => e h.symm,fun h => e2 h.symm,hk⟩)
 refine ⟨h.below,fun k s hk => ?_,fun k s hk b hb => ?_,fun k l s s' hk hl hne b hb hb' => ?_⟩
 ·rcases hget k s hk with ⟨_,rfl⟩ | rfl | ⟨_,_,h3⟩
  ·exact ⟨h.all i p hp,h.all j q hq,h.sep i j p q hp hq hij⟩
  ·trivial
  ·exact h.all k _ h3
 ·rcases hget k s hk with ⟨_,rfl⟩ | rfl | ⟨_,_,h3⟩
  ·rcases hb with hb | hb
   ·exact h.new i p hp b hb
   ·exact h.new j q hq b hb
  ·exact hb.elim
  ·exact h.new k _ h3 b hb
 ·rcases hget k s hk with ⟨a1,rfl⟩ | rfl | ⟨a1,a2,a3⟩
  ·rcases hget l s' hl with ⟨b1,rfl⟩ | rfl | ⟨b1,b2,b3⟩
   ·exact hne (a1.trans b1.symm)
   ·exact hb'.elim
   ·rcases hb with hb | hb
    ·exact h.sep i l p s' hp b3 (fun e => b1 e.symm) b hb hb'
    ·exact h.sep j l q s' hq b3 (fun e => b2 e.symm) b hb hb'
  ·exact hb.elim
  ·rcases hget l s' hl with ⟨b1,rfl⟩ | rfl | ⟨b1,b2,b3⟩
   ·rcases hb' with hb' | hb'
    ·exact h.sep k i s p a3 hp a1 b hb hb'
    ·exact h.sep k j s q a3 hq a2 b hb hb'
   ·exact hb'.elim
   ·exact h.sep k l s s' a3 b3 hne b hb hb'
theorem Ext.addNo {W : World} (h : Ext w0 W L) : Ext w0 W (L ++ [noR]):=h.snoc (p:=noR) trivial (fun b hb => hb.elim) (fun i q _ b _ hb => hb.elim)
theorem Ext.pickL {W : World} (h : Ext w0 W L) (is : List Nat) {ps : List Res} (hnd : decide is.Nodup = true) (hp : is.map (fun i => L[i]?) = ps.map some) : Ext w0 W ps:=by
 have hnd:=of_decide_eq_true hnd
 have hget : ∀ (k : Nat) (s : Res),ps[k]? = some s → ∃ i,is[k]? = some i ∧ L[i]? = some s:=by
  intro k s hk
  have h1 : (ps.map some)[k]? = some (some s):=by rw [List.getElem?_map,hk]; rfl
  rw [← hp,List.getElem?_map] at h1
  cases hi : is[k]? with
  | none => rw [hi] at h1; cases h1
  | some i => rw [hi] at h1; exact ⟨i,rfl,by simpa using h1⟩
 refine ⟨h.below,fun k s hk => ?_,fun k s hk => ?_,fun k l s s' hk hl hne => ?_⟩
 ·obtain ⟨i,_,h2⟩:=hget k s hk; exact h.all i s h2
 ·obtain ⟨i,_,h2⟩:=hget k s hk; exact h.new i s h2
 ·obtain ⟨i,h1,h2⟩:=hget k s hk
  obtain ⟨j,h3,h4⟩:=hget l s' hl
  refine h.sep i j s s' h2 h4 (fun e => ?_)
  subst e
  obtain ⟨a1,a2⟩:=List.getElem?_eq_some_iff.1 h1
  obtain ⟨b1,b2⟩:=List.getElem?_eq_some_iff.1 h3
  have hpw:=List.pairwise_iff_getElem.1 hnd
  rcases Nat.lt_trichotomy k l with h5 | h5 | h5
  ·exact hpw k l a1 b1 h5 (a2.trans b2.symm)
  ·exact hne h5
  ·exact hpw l k b1 a1 h5 (b2.trans a2.symm)
end
section
variable {r : Option Nat} {n : Nat} {P : Program} {ops : Array Oper} {Q : Exit → Act → World → Prop} {w0 : World} {L : List Res} {m : Nat} {tm : Nat → Value} {d : List Deferred} {l : List Oper} {e : Exit}
theorem ox_addNo (h : OX r n P ops Q w0 (L ++ [noR]) l m tm d) : OX r n P ops Q w0 L l m tm d:=fun W hW => h W hW.addNo
theorem cx_addNo {c : Code} (h : CX r n P c Q w0 (L ++ [noR]) m tm d) : CX r n P c Q w0 L m tm d:=fun W hW => h W hW.addNo
theorem ox_joinF (i j : Nat) (hij : i ≠ j) {p q : Res} (hp : L[i]? = some p) (hq : L[j]? = some q) (h : OX r n P ops Q w0 ((L.set j noR).set i (andR p q)) l m tm d) : OX r n P ops Q w0 L l m tm d:=fun W hW => h W (hW.joinF i j hij hp hq)
end
section
variable {r : Option Nat} {n : Nat} {P : Program} {ρ : Operand → Value} {w0 : World} {L : List Res}
variable {t : Option Tmp} {ty : TypeId} {pos : String} {af : Array Edge} {g : Option (Nat × Bool)}
variable {A : Option Addr} {k c : Nat} {cs : List Value}
theorem y_cut3 {x a b d : Operand} {u e : TypeId} {sz : Nat} {q q' q2 : IntKind} {lo hi mx : Int} (hs : slOf P u = some (e,sz)) (h0 : 0 ≤ lo) (h1 : lo ≤ hi) (h2 : hi ≤ mx) (h3 : mx ≤ k) (hR : RdL w0 L A k c cs) (hx : ρ x = .slice A k c) (ha : ρ a = .int q lo) (hb : ρ b = .int q' hi) (hd : ρ d = .int q2 mx) :
  OpY r n P ⟨t,.slice u x (some a) (some b) (some d),ty,pos,af,g⟩ ρ (fun W => Ext w0 W L) (fun W => Ext w0 W L) (.slice (if mx.toNat = lo.toNat then A else A.map (·.add (lo.toNat * sz))) (hi.toNat - lo.toNat) (mx.toNat - lo.toNat)) :=
 opY_val (by intro c h; cases h) (fun W hW => by
  obtain ⟨hu',hsz⟩:=slOf_inv hs
  have hcap:=(hR W hW).cap
  have h4 : mx ≤ (c : Int):=by omega
  simp only [execOp,hx,ha,hb,hd,Option.map_some,Sem.run_bind,run_sliceAt_slice W u _ _ _ _ hu',run_slice_lhm W u A k c hu' q q' q2 lo hi mx h0 h1 h2 h4,hsz,Result.andThen_ok,sliced]
  rfl)
theorem Rd.cut3 {W : World} {l h m sz : Nat} (hr : Rd W A k c cs) (h1 : l ≤ h) (h2 : h ≤ m) (h3 : m ≤ k) : Rd W (if m = l then A else A.map (·.add (l * sz))) (h - l) (m - l) ((cs.drop (l * sz)).take ((h - l) * sz)):=by
 have hc:=hr.cut (sz:=sz) h1 (Nat.le_trans h2 h3)
 have hcap:=hr.cap
 refine ⟨fun j v hj => ?_,by omega⟩
 by_cases hm : m = l
 ·have hh : h - l = 0:=by omega
  rw [hh,Nat.zero_mul,List.take_zero] at hj
  simp at hj
 ·rw [if_neg hm]
  have:=hc.cell j v hj
  by_cases hcl : c = l
  ·omega
  ·rw [if_neg hcl] at this
   exact this
theorem RdL.cut3 {α : Type} {cells : α → List Value} {sz : Nat} (hc : ∀ x,(cells x).length = sz) {xs : List α} {lo hi mx : Int} (h : RdL w0 L A k c (encL cells xs)) (h0 : 0 ≤ lo) (h1 : lo ≤ hi) (h2 : hi ≤ mx) (h3 : mx ≤ (k : Int)) :
  RdL w0 L (if mx.toNat = lo.toNat then A else A.map (fun x => x.add (lo.toNat * sz))) (hi.toNat - lo.toNat) (mx.toNat - lo.toNat) (encL cells ((xs.drop lo.toNat).take (hi.toNat - lo.toNat))):=fun W hW => by
 have:=(h W hW).cut3 (sz:=sz) (l:=lo.toNat) (h:=hi.toNat) (m:=mx.toNat) (by omega) (by omega) (by omega)
 rw [encL_drop hc,encL_take hc] at this
 exact this
theorem cut3_len {α : Type} {xs : List α} {n : Nat} {lo hi mx : Int} (h0 : 0 ≤ lo) (h1 : lo ≤ hi) (h2 : hi ≤ mx) (h3 : mx ≤ (n : Int)) (hn : n = xs.length) : hi.toNat - lo.toNat = ((xs.drop lo.toNat).take (hi.toNat - lo.toNat)).length:=cut_len h0 h1 (by omega) hn
end
section
variable {β γ : Type} {sel : β → List γ} {ic : γ → List Value} {wb : World} {Hb : World → Prop}
theorem PvL.sub {ys zs : List (Hd × β)} (h : PvL sel ic wb Hb ys) (hs : ∀ y ∈ zs,y ∈ ys) : PvL sel ic wb Hb zs:=fun y hy => h y (hs y hy)
theorem NestP.take {ys : List (Hd × β)} {xs : List β} (k : Nat) (h : NestP sel ys xs) : NestP sel (ys.take k) (xs.take k):=⟨by rw [List.map_take,h.eq],fun y hy => h.ln y (List.mem_of_mem_take hy)⟩
theorem NestP.drop {ys : List (Hd × β)} {xs : List β} (k : Nat) (h : NestP sel ys xs) : NestP sel (ys.drop k) (xs.drop k):=⟨by rw [List.map_drop,h.eq],fun y hy => h.ln y (List.mem_of_mem_drop hy)⟩
end
section
variable {r : Option Nat} {n : Nat} {P : Program} {ops : Array Oper} {Q : Exit → Act → World → Prop} {w0 : World} {L : List Res} {m : Nat} {tm : Nat → Value} {d : List Deferred}
variable {t : Tmp} {ty : TypeId} {pos : String} {af : Array Edge} {g : Option (Nat × Bool)} {rest : List Oper}
end
section
variable {r : Option Nat} {n : Nat} {P : Program} {ρ : Operand → Value} {w0 : World} {L : List Res}
variable {t : Option Tmp} {ty : TypeId} {pos : String} {af : Array Edge} {g : Option (Nat × Bool)}
end
open Go.RowKit (Below)
theorem put_sizeU (a : Act) (d : Option Tmp) (v : Value) : (a.put d v).tmps.size = a.tmps.size:=by
 cases d with
 | none => rfl
 | some i => simp [Act.put]
theorem stA_sizeU {ops : Array Oper} (vals : Nat → Value) (a0 : Act) (S : Nat → Bool) : ∀ m,(stA ops vals a0 S m).tmps.size = a0.tmps.size
 | 0 => rfl
 | m + 1 => by
  unfold stA
  split
  ·rw [put_sizeU,stA_sizeU vals a0 S m]
  ·exact stA_sizeU vals a0 S m
theorem put_sameU {a b : Act} {d : Option Tmp} {u v : Value} (hs : a.tmps.size = b.tmps.size) (h : a.put d u = a.put d v) : b.put d u = b.put d v:=by
 cases d with
 | none => rfl
 | some i =>
  have h1 : a.tmps.setIfInBounds i u = a.tmps.setIfInBounds i v:=congrArg Act.tmps h
  show (⟨b.tmps.setIfInBounds i u,b.defers⟩ : Act) = ⟨b.tmps.setIfInBounds i v,b.defers⟩
  congr 1
  apply Array.ext_getElem?
  intro j
  have h2:=congrArg (fun t => t[j]?) h1
  simp only [Array.getElem?_setIfInBounds] at h2 ⊢
  by_cases e : i = j
  ·subst e
   by_cases hl : i < b.tmps.size
   ·simp [hl,hs] at h2 ⊢
    exact h2
   ·simp [hl]
  ·simp [e]
abbrev Xo:=Nat → Option Addr × Nat × Nat × List (Option Addr × Nat × Nat) × Res
abbrev Sd:=Option Nat × Nat × List Bool
structure Dyn where
 val : (Nat → Xo) → Value
 wp : (Nat → Xo) → Res
 made : (Nat → Xo) → List Res
instance : Inhabited Dyn:=⟨⟨fun _ => undef,fun _ => noR,fun _ => []⟩⟩
def maskL : List Res → List Bool → List Res
 | p :: L,true :: k => p :: maskL L k
 | _ :: L,false :: k => noR :: maskL L k
 | _,_ => []
def aftL (s : Sd) (d : Dyn) (ξ : Nat → Xo) (L : List Res) : List Res:=(match s.1 with | some i => L.set i (d.wp ξ) | none => L) ++ d.made ξ
def updX (ξ : Nat → Xo) (j : Nat) (x : Xo) : Nat → Xo:=fun i => if i = j then x else ξ i
def obQ (w0 : World) (j : Nat) (s : Sd) (d : Dyn) (ξ : Nat → Xo) (dst : Option Tmp) (L : List Res) (a : Act) : Exit → Act → World → Prop:=fun e a' W =>
 e = .normal ∧ ∃ x,a' = a.put dst (d.val (updX ξ j x)) ∧ Ext w0 W (aftL s d (updX ξ j x) L)
def obG (r : Option Nat) (n : Nat) (P : Program) (ops : Array Oper) (w0 : World) (ξ : Nat → Xo) (j : Nat) (o : Oper) (s : Sd) (d : Dyn) (L : List Res) (a : Act) : Prop :=
 (Region.wanted o (yielded ops a.tmps) = true ∧ ∀ (L2 : List Res) (W : World),Ext w0 W (maskL L s.2.2 ++ L2) → o.wpIn (Fw r) n P a W (fun a' W' => obQ w0 j s d ξ o.dst (maskL L s.2.2 ++ L2) a .normal a' W') (obQ w0 j s d ξ o.dst (maskL L s.2.2 ++ L2) a)) ∨
 (Region.wanted o (yielded ops a.tmps) = false ∧ (∀ ξ',d.val ξ' = undef) ∧ s.1 = none ∧ s.2.1 = 0)
def GW (r : Option Nat) (n : Nat) (P : Program) (ops : Array Oper) (w0 : World) (ξ : Nat → Xo) (K : List Res → Act → Prop) : Nat → List Oper → List Sd → List Dyn → List Res → Act → Prop
 | _,[],[],[],L,a => K L a
 | j,o :: os,s :: ss,d :: ds,L,a => obG r n P ops w0 ξ j o s d L a ∧ GW r n P ops w0 ξ K (j + 1) os ss ds (aftL s d ξ L) (a.put o.dst (d.val ξ))
 | _,_,_,_,_,_ => False
def lenG (sd : List Sd) (base : Nat) : Nat → Nat
 | 0 => base
 | j + 1 => lenG sd base j + (sd.getD j default).2.1
def wrG (sd : List Sd) (base j i : Nat) : Bool:=((sd.getD j default).1 == some i) || (decide (lenG sd base j ≤ i) && decide (i < lenG sd base (j + 1)))
def dpG (A : List (List Nat)) (j i : Nat) : Bool:=(A.getD j []).contains i
def chkG (ops : Array Oper) (A : List (List Nat)) (sd : List Sd) (base : Nat) : Bool :=
 decide (sd.length = ops.size) && (List.range ops.size).all fun j =>
  (match (sd.getD j default).1 with | none => true | some i => decide (i < lenG sd base j)) && decide ((sd.getD j default).2.2.length = lenG sd base j) &&
  ((A.getD j []).all fun i => match ops[j]? with
   | some o => o.after.any fun e => Region.binds .any e && (e.on == i || dpG A e.on i)
   | none => false) &&
  ((List.range ops.size).all fun i => decide (i = j) || (List.range (lenG sd base ops.size)).all fun q => !(wrG sd base i q) ||
   ((!(wrG sd base j q) || dpG A j i || dpG A i j) && (!((sd.getD j default).2.2.getD q false) || (if i < j then dpG A j i else dpG A i j))))
def IndA (A : List (List Nat)) : Nat → List Sd → List Dyn → Prop
 | _,[],[] => True
 | j,s :: ss,d :: ds => ((∀ ξ ξ' : Nat → Xo,(∀ i,(i = j ∨ dpG A j i = true) → ξ i = ξ' i) → d.val ξ = d.val ξ' ∧ d.wp ξ = d.wp ξ' ∧ d.made ξ = d.made ξ') ∧ ∀ ξ,(d.made ξ).length = s.2.1) ∧ IndA A (j + 1) ss ds
 | _,_,_ => False
structure ExtF (w0 W : World) (f : Nat → Option Res) : Prop where
 below : Below w0.heap.size w0 W
 all : ∀ (i : Nat) (p : Res),f i = some p → p.holds W
 new : ∀ (i : Nat) (p : Res),f i = some p → ∀ b,p.dom b → w0.heap.size ≤ b
 sep : ∀ (i j : Nat) (p q : Res),f i = some p → f j = some q → i ≠ j → ∀ b,p.dom b → ¬ q.dom b
theorem ExtF.of {w0 W : World} {L : List Res} (h : Ext w0 W L) : ExtF w0 W (fun i => L[i]?):=⟨h.below,h.all,h.new,h.sep⟩
theorem ExtF.to {w0 W : World} {L : List Res} (h : ExtF w0 W (fun i => L[i]?)) : Ext w0 W L:=⟨h.below,h.all,h.new,h.sep⟩
theorem ExtF.map {w0 W : World} {f g : Nat → Option Res} (h : ExtF w0 W f) (σ : Nat → Nat) (hg : ∀ i p,g i = some p → p = noR ∨ f (σ i) = some p)
  (hj : ∀ i j p q,g i = some p → g j = some q → i ≠ j → p = noR ∨ q = noR ∨ (f (σ i) = some p ∧ f (σ j) = some q ∧ σ i ≠ σ j)) : ExtF w0 W g where
 below:=h.below
 all i p hp:=by
  rcases hg i p hp with rfl | h1
  ·trivial
  ·exact h.all _ _ h1
 new i p hp b hb:=by
  rcases hg i p hp with rfl | h1
  ·exact hb.elim
  ·exact h.new _ _ h1 b hb
 sep i j p q hp hq hne b hb hb':=by
  rcases hj i j p q hp hq hne with rfl | rfl | ⟨h1,h2,h3⟩
  ·exact hb.elim
  ·exact hb'.elim
  ·exact h.sep _ _ _ _ h1 h2 h3 b hb hb'
theorem maskL_get : ∀ (L : List Res) (k : List Bool) (q : Nat),L.length = k.length → (maskL L k)[q]? = (L[q]?).map fun p => if k.getD q false = true then p else noR
 | [],[],q,_ => by simp [maskL]
 | p :: L,true :: k,0,_ => by simp [maskL]
 | p :: L,false :: k,0,_ => by simp [maskL]
 | p :: L,true :: k,q + 1,h => by
  have:=maskL_get L k q (by simpa using h)
  simpa [maskL] using this
 | p :: L,false :: k,q + 1,h => by
  have:=maskL_get L k q (by simpa using h)
  simpa [maskL] using this
theorem maskL_len : ∀ (L : List Res) (k : List Bool),L.length = k.length → (maskL L k).length = L.length
 | [],[],_ => rfl
 | p :: L,true :: k,h => by simp [maskL,maskL_len L k (by simpa using h)]
 | p :: L,false :: k,h => by simp [maskL,maskL_len L k (by simpa using h)]
section
variable {r : Option Nat} {n : Nat} {P : Program} {ops : Array Oper}
def lx (sd : List Sd) (dy : List Dyn) (ξ : Nat → Xo) (L0 : List Res) : Nat → List Res
 | 0 => L0
 | j + 1 => aftL (sd.getD j default) (dy.getD j default) ξ (lx sd dy ξ L0 j)
def vaG (dy : List Dyn) (ξ : Nat → Xo) (j : Nat) : Value:=(dy.getD j default).val ξ
theorem gw_spec {l : List Oper} (hops : ops = l.toArray) {sd : List Sd} {dy : List Dyn} {w0 : World} {ξ : Nat → Xo} {K : List Res → Act → Prop} {L0 : List Res} {a0 : Act} (hs : sd.length = l.length) (hd : dy.length = l.length) :
  ∀ (c j : Nat),j + c = l.length → GW r n P ops w0 ξ K j (l.drop j) (sd.drop j) (dy.drop j) (lx sd dy ξ L0 j) (stA ops (vaG dy ξ) a0 (fun _ => true) j) →
   (∀ i o,j ≤ i → ops[i]? = some o → obG r n P ops w0 ξ i o (sd.getD i default) (dy.getD i default) (lx sd dy ξ L0 i) (stA ops (vaG dy ξ) a0 (fun _ => true) i)) ∧ K (lx sd dy ξ L0 l.length) (stA ops (vaG dy ξ) a0 (fun _ => true) l.length):=by
 intro c
 induction c with
 | zero =>
  intro j hj h
  have : j = l.length:=by omega
  subst this
  rw [List.drop_length,← hs,List.drop_length,hs,← hd,List.drop_length,hd] at h
  refine ⟨fun i o hi ho => ?_,h⟩
  have : i < ops.size:=(Array.getElem?_eq_some_iff.1 ho).1
  rw [hops] at this
  simp at this
  omega
 | succ c ih =>
  intro j hj h
  have h1 : j < l.length:=by omega
  rw [List.drop_eq_getElem_cons h1,List.drop_eq_getElem_cons (show j < sd.length by omega),List.drop_eq_getElem_cons (show j < dy.length by omega)] at h
  obtain ⟨hob,hrest⟩:=h
  have e1 : sd[j]'(by omega) = sd.getD j default:=by simp [show j < sd.length by omega]
  have e2 : dy[j]'(by omega) = dy.getD j default:=by simp [show j < dy.length by omega]
  have ho : ops[j]? = some l[j]:=by rw [hops]; simp [h1]
  have e3 : dstA ops j = l[j].dst:=by simp [dstA,ho]
  rw [e1,e2] at hob hrest
  have hrest' : GW r n P ops w0 ξ K (j + 1) (l.drop (j + 1)) (sd.drop (j + 1)) (dy.drop (j + 1)) (lx sd dy ξ L0 (j + 1)) (stA ops (vaG dy ξ) a0 (fun _ => true) (j + 1)):=by
   have e4 : stA ops (vaG dy ξ) a0 (fun _ => true) (j + 1) = (stA ops (vaG dy ξ) a0 (fun _ => true) j).put (l[j]).dst ((dy.getD j default).val ξ):=by
    simp [stA,e3,vaG]
   rw [e4]
   exact hrest
  obtain ⟨h2,h3⟩:=ih (j + 1) (by omega) hrest'
  refine ⟨fun i o hi hoi => ?_,h3⟩
  by_cases e : i = j
  ·subst e
   rw [ho] at hoi; cases hoi
   exact hob
  ·exact h2 i o (by omega) hoi
theorem ind_spec {A : List (List Nat)} : ∀ (sd : List Sd) (dy : List Dyn) (j0 : Nat),IndA A j0 sd dy → dy.length = sd.length ∧ ∀ j,j < sd.length →
  (∀ ξ ξ' : Nat → Xo,(∀ i,(i = j0 + j ∨ dpG A (j0 + j) i = true) → ξ i = ξ' i) → (dy.getD j default).val ξ = (dy.getD j default).val ξ' ∧ (dy.getD j default).wp ξ = (dy.getD j default).wp ξ' ∧ (dy.getD j default).made ξ = (dy.getD j default).made ξ') ∧ ∀ ξ,((dy.getD j default).made ξ).length = (sd.getD j default).2.1
 | [],[],_,_ => ⟨rfl,fun j hj => by simp at hj⟩
 | s :: ss,d :: ds,j0,h => by
  obtain ⟨h1,h2⟩:=ind_spec ss ds (j0 + 1) h.2
  refine ⟨by simp [h1],fun j hj => ?_⟩
  cases j with
  | zero => exact ⟨h.1.1,h.1.2⟩
  | succ j =>
   have:=h2 j (by simpa using hj)
   simpa [Nat.add_assoc,Nat.add_comm 1 j] using this
 | [],_ :: _,_,h => h.elim
 | _ :: _,[],_,h => h.elim
theorem wpIn_moveG {o : Oper} {a b : Act} {W w0 : World} {j : Nat} {s : Sd} {dd : Dyn} {ξ : Nat → Xo} {L : List Res} {K : Act → World → Prop} {Q : Exit → Act → World → Prop} (hs : ∀ cs x,o.op ≠ .select cs x) (hd : ∀ c,o.op ≠ .defer c) (hev : ∀ x ∈ o.op.operands,a.eval x = b.eval x) (hsz : a.tmps.size = b.tmps.size)
  (h : o.wpIn (Fw r) n P a W (fun a' W' => obQ w0 j s dd ξ o.dst L a .normal a' W') (obQ w0 j s dd ξ o.dst L a)) (hK : ∀ x W',Ext w0 W' (aftL s dd (updX ξ j x) L) → K (b.put o.dst (dd.val (updX ξ j x))) W') : o.wpIn (Fw r) n P b W K Q:=by
 refine ⟨fun _ _ => by cases r <;> trivial,?_⟩
 have h2:=h.2
 have e : o.semAt r b.eval = o.semAt r a.eval:=by
  have e1 : execOp b.eval o = execOp a.eval o:=execOp_congr o hs (fun x hx => (hev x hx).symm)
  cases r with
  | none => rw [Oper.semAt_none,Oper.semAt_none,e1]
  | some l => rw [Oper.semAt_some l _ o hd,Oper.semAt_some l _ o hd,e1]
 have e0 : (Fw r).round = r:=by cases r <;> rfl
 rw [e0] at h2 ⊢
 rw [e]
 have key : ∀ u W',obQ w0 j s dd ξ o.dst L a .normal (a.put o.dst u) W' → K (b.put o.dst u) W':=fun u W' hc => by
  obtain ⟨_,x,hv,hE⟩:=hc
  rw [put_sameU hsz hv]
  exact hK x W' hE
 generalize (o.semAt r a.eval).run P W = res at h2 ⊢
 match res,h2 with
 | .ok (.value u) W',h2 => exact key u W' h2
 | .ok .skip W',h2 => exact key undef W' h2
 | .ok (.defer d') W',h2 =>
  obtain ⟨_,x,hv,_⟩:=h2
  have h9:=congrArg Act.defers hv
  rw [put_defs,put_defs] at h9
  exact absurd h9 (by simp)
 | .ok (.enter f args) W',h2 =>
  refine ⟨h2.1,h2.2.mono ?_⟩
  rintro (_ | _ | _) w hw
  ·exact key _ _ hw
  ·exact absurd hw.1 (by intro h; cases h)
  ·obtain ⟨a9,w9,h9⟩:=hw
   exact absurd h9.1 (by intro h; cases h)
 | .ok (.row row args) W',h2 =>
  refine ⟨h2.1,?_⟩
  exact RowsIn.mono h2.2 (fun u w hw => key u w hw)
 | .ok (.round l f tmps assign body) W',h2 =>
  refine ⟨h2.1,h2.2.mono ?_⟩
  rintro (_ | _ | _) w hw
  ·exact key _ _ hw
  ·exact absurd hw.1 (by intro h; cases h)
  ·obtain ⟨a9,w9,h9⟩:=hw
   exact absurd h9.1 (by intro h; cases h)
 | .halt (.panic u) W',h2 => exact absurd h2.1 (by intro h; cases h)
end
section
variable {r : Option Nat} {n : Nat} {P : Program} {ops : Array Oper} {Q : Exit → Act → World → Prop} {w0 : World} {sd : List Sd} {dy : List Dyn} {base : Nat} {L0 : List Res} {A : List (List Nat)} {ξ ξ' : Nat → Xo} {S S' : Nat → Bool}
def cu (sd : List Sd) (dy : List Dyn) (base : Nat) (L0 : List Res) (ξ : Nat → Xo) (S : Nat → Bool) : Nat → Nat → Option Res
 | 0,q => L0[q]?
 | j + 1,q => if S j = true ∧ (sd.getD j default).1 = some q then some ((dy.getD j default).wp ξ)
   else if S j = true ∧ lenG sd base j ≤ q ∧ q < lenG sd base (j + 1) then ((dy.getD j default).made ξ)[q - lenG sd base j]?
   else cu sd dy base L0 ξ S j q
theorem wrG_iff {j q : Nat} : wrG sd base j q = true ↔ (sd.getD j default).1 = some q ∨ (lenG sd base j ≤ q ∧ q < lenG sd base (j + 1)):=by
 unfold wrG
 simp only [Bool.or_eq_true,Bool.and_eq_true,decide_eq_true_eq,beq_iff_eq]
theorem cu_no {j q : Nat} (h : ¬ (S j = true ∧ wrG sd base j q = true)) : cu sd dy base L0 ξ S (j + 1) q = cu sd dy base L0 ξ S j q:=by
 rw [wrG_iff] at h
 simp only [cu]
 rw [if_neg (fun x => h ⟨x.1,.inl x.2⟩),if_neg (fun x => h ⟨x.1,.inr x.2⟩)]
theorem lenG_mono {j : Nat} : ∀ k,j ≤ k → lenG sd base j ≤ lenG sd base k:=fun k h => by
 induction k with
 | zero =>
  have : j = 0:=by omega
  subst this; exact Nat.le_refl _
 | succ k ih =>
  by_cases e : j = k + 1
  ·subst e; exact Nat.le_refl _
  ·have:=ih (by omega)
   simp only [lenG]
   omega
theorem lx_spec (hb : L0.length = base) {k : Nat} (hwr : ∀ j i,j < k → (sd.getD j default).1 = some i → i < lenG sd base j) (hlen : ∀ j,j < k → ((dy.getD j default).made ξ).length = (sd.getD j default).2.1) :
  ∀ j,j ≤ k → (lx sd dy ξ L0 j).length = lenG sd base j ∧ ∀ q,(lx sd dy ξ L0 j)[q]? = cu sd dy base L0 ξ (fun _ => true) j q:=by
 intro j
 induction j with
 | zero => intro _; exact ⟨hb,fun q => rfl⟩
 | succ j ih =>
  intro hj
  obtain ⟨h1,h2⟩:=ih (by omega)
  have h3:=hlen j (by omega)
  have h4:=hwr j
  have key : ∀ L : List Res,L.length = lenG sd base j → (∀ q,L[q]? = if (sd.getD j default).1 = some q then some ((dy.getD j default).wp ξ) else cu sd dy base L0 ξ (fun _ => true) j q) →
    (L ++ (dy.getD j default).made ξ).length = lenG sd base (j + 1) ∧ ∀ q,(L ++ (dy.getD j default).made ξ)[q]? = cu sd dy base L0 ξ (fun _ => true) (j + 1) q:=by
   intro L hL hq
   refine ⟨by rw [List.length_append,hL,h3]; rfl,fun q => ?_⟩
   simp only [cu,true_and]
   by_cases e : (sd.getD j default).1 = some q
   ·have:=h4 q (by omega) e
    rw [if_pos e,List.getElem?_append_left (by omega),hq q,if_pos e]
   ·rw [if_neg e]
    by_cases hlt : q < lenG sd base j
    ·rw [if_neg (by omega),List.getElem?_append_left (by omega),hq q,if_neg e]
    ·rw [List.getElem?_append_right (by omega),hL]
     by_cases hlt2 : q < lenG sd base (j + 1)
     ·rw [if_pos ⟨by omega,hlt2⟩]
     ·rw [if_neg (by omega),List.getElem?_eq_none (by rw [h3]; simp only [lenG] at hlt2; omega),← h2 q,List.getElem?_eq_none (by omega)]
  simp only [lx,aftL]
  cases hw : (sd.getD j default).1 with
  | none => exact key _ h1 (fun q => by rw [hw,if_neg (by intro h; cases h),h2 q])
  | some i =>
   have hi:=h4 i (by omega) hw
   refine key _ (by rw [List.length_set]; exact h1) (fun q => ?_)
   rw [List.getElem?_set,hw,h2 q]
   by_cases e : i = q
   ·subst e
    rw [if_pos rfl,if_pos (by omega),if_pos rfl]
   ·rw [if_neg e,if_neg (by intro h; cases h; exact e rfl)]
theorem cu_lt (hb : L0.length = base) {k : Nat} (hwr : ∀ j i,j < k → (sd.getD j default).1 = some i → i < lenG sd base j) :
  ∀ j q p,j ≤ k → cu sd dy base L0 ξ S j q = some p → q < lenG sd base j:=by
 intro j
 induction j with
 | zero =>
  intro q p _ h
  have : q < L0.length:=(List.getElem?_eq_some_iff.1 h).1
  simp only [lenG]; omega
 | succ j ih =>
  intro q p hj h
  have hm : lenG sd base j ≤ lenG sd base (j + 1):=lenG_mono _ (by omega)
  simp only [cu] at h
  split at h
  ·rename_i h1
   have:=hwr j q (by omega) h1.2
   omega
  ·split at h
   ·rename_i h1
    exact h1.2.2
   ·have:=ih q p (by omega) h
    omega
theorem cu_mask {k q : Nat} (h : ∀ i,i < k → wrG sd base i q = true → S i = S' i) : cu sd dy base L0 ξ S k q = cu sd dy base L0 ξ S' k q:=by
 induction k with
 | zero => rfl
 | succ k ih =>
  have ih:=ih (fun i hi => h i (by omega))
  by_cases hw : wrG sd base k q = true
  ·have:=h k (by omega) hw
   simp only [cu,this,ih]
  ·rw [cu_no (fun x => hw x.2),cu_no (fun x => hw x.2),ih]
theorem cu_up {j q : Nat} : ∀ k,j ≤ k → (∀ i,j ≤ i → i < k → wrG sd base i q = true → S i = false) → cu sd dy base L0 ξ S k q = cu sd dy base L0 ξ S j q:=fun k hk h => by
 induction k with
 | zero =>
  have : j = 0:=by omega
  subst this; rfl
 | succ k ih =>
  by_cases e : j = k + 1
  ·subst e; rfl
  ·rw [cu_no (fun x => by have:=h k (by omega) (by omega) x.2; rw [this] at x; cases x.1)]
   exact ih (by omega) (fun i h1 h2 => h i h1 (by omega))
theorem cu_xi {k q : Nat} (h : ∀ i,i < k → S i = true → (dy.getD i default).wp ξ = (dy.getD i default).wp ξ' ∧ (dy.getD i default).made ξ = (dy.getD i default).made ξ') : cu sd dy base L0 ξ S k q = cu sd dy base L0 ξ' S k q:=by
 induction k with
 | zero => rfl
 | succ k ih =>
  have ih:=ih (fun i hi => h i (by omega))
  simp only [cu]
  by_cases hS : S k = true
  ·obtain ⟨h1,h2⟩:=h k (by omega) hS
   rw [h1,h2,ih]
  ·rw [if_neg (fun x => hS x.1),if_neg (fun x => hS x.1),if_neg (fun x => hS x.1),if_neg (fun x => hS x.1),ih]
theorem cu_put {j k q : Nat} (hj : j < k) (hS : S j = false) (hc : ∀ i,j < i → i < k → wrG sd base j q = true → wrG sd base i q = true → S i = false) :
  cu sd dy base L0 ξ (fun i => S i || i == j) k q = if (sd.getD j default).1 = some q then some ((dy.getD j default).wp ξ)
   else if lenG sd base j ≤ q ∧ q < lenG sd base (j + 1) then ((dy.getD j default).made ξ)[q - lenG sd base j]? else cu sd dy base L0 ξ S k q:=by
 by_cases hw : wrG sd base j q = true
 ·rw [cu_up (j:=j + 1) k (by omega) (fun i h1 h2 h3 => by
   have:=hc i (by omega) h2 hw h3
   have hne : (i == j) = false:=by simp; omega
   simp [this,hne])]
  simp only [cu,beq_self_eq_true,Bool.or_true,true_and]
  rw [wrG_iff] at hw
  split
  ·rfl
  ·rename_i h1
   rw [if_pos (hw.resolve_left h1),if_pos (hw.resolve_left h1)]
 ·have h1 : cu sd dy base L0 ξ (fun i => S i || i == j) k q = cu sd dy base L0 ξ S k q:=cu_mask (fun i hi hwi => by
   have hne : (i == j) = false:=by
    simp
    intro e
    subst e
    exact hw hwi
   simp [hne])
  rw [h1]
  rw [wrG_iff] at hw
  rw [if_neg (fun x => hw (.inl x)),if_neg (fun x => hw (.inr x))]
theorem chk_spec (h : chkG ops A sd base = true) : sd.length = ops.size ∧ ∀ j,j < ops.size →
  (∀ i,(sd.getD j default).1 = some i → i < lenG sd base j) ∧ (sd.getD j default).2.2.length = lenG sd base j ∧
  (∀ i o,ops[j]? = some o → dpG A j i = true → ∃ e ∈ o.after,Region.binds .any e = true ∧ (e.on = i ∨ dpG A e.on i = true)) ∧
  ∀ i q,i < ops.size → i ≠ j → q < lenG sd base ops.size → wrG sd base i q = true → (wrG sd base j q = true → dpG A j i = true ∨ dpG A i j = true) ∧ ((sd.getD j default).2.2.getD q false = true → if i < j then dpG A j i = true else dpG A i j = true):=by
 unfold chkG at h
 simp only [Bool.and_eq_true,decide_eq_true_eq] at h
 refine ⟨h.1,fun j hj => ?_⟩
 have h1:=List.all_eq_true.1 h.2 j (List.mem_range.2 hj)
 simp only [Bool.and_eq_true,decide_eq_true_eq] at h1
 obtain ⟨⟨⟨h2,h3⟩,h4⟩,h5⟩:=h1
 refine ⟨fun i hi => ?_,h3,fun i o ho hd => ?_,fun i q hi hne hq hw => ?_⟩
 ·rw [hi] at h2
  simpa using h2
 ·unfold dpG at hd
  have hm : i ∈ A.getD j []:=by simpa using hd
  have h6:=List.all_eq_true.1 h4 i hm
  simp only [ho] at h6
  rw [Array.any_eq_true] at h6
  obtain ⟨t,ht,h7⟩:=h6
  simp only [Bool.and_eq_true,Bool.or_eq_true,beq_iff_eq] at h7
  exact ⟨o.after[t],Array.getElem_mem ht,h7.1,h7.2⟩
 ·have h6:=List.all_eq_true.1 h5 i (List.mem_range.2 hi)
  rw [Bool.or_eq_true,decide_eq_true_eq] at h6
  have h7:=List.all_eq_true.1 (h6.resolve_left hne) q (List.mem_range.2 hq)
  rw [hw] at h7
  simp only [Bool.not_true,Bool.false_or,Bool.and_eq_true,Bool.or_eq_true,Bool.not_eq_true'] at h7
  obtain ⟨h8,h9⟩:=h7
  refine ⟨fun h10 => ?_,fun h10 => ?_⟩
  ·rcases h8 with (h8 | h8) | h8
   ·rw [h10] at h8; cases h8
   ·exact .inl h8
   ·exact .inr h8
  ·have h9:=h9.resolve_left (by rw [h10]; simp)
   split
   ·rename_i hlt; rw [if_pos hlt] at h9; exact h9
   ·rename_i hlt; rw [if_neg hlt] at h9; exact h9
theorem dp_closed (hO : orderB ops = true) (hA : ∀ j i o,j < ops.size → ops[j]? = some o → dpG A j i = true → ∃ e ∈ o.after,Region.binds .any e = true ∧ (e.on = i ∨ dpG A e.on i = true))
  (hcl : ∀ j oj,ops[j]? = some oj → S j = true → ∀ e ∈ oj.after,Region.binds .any e = true → S e.on = true) : ∀ (j i : Nat),j < ops.size → S j = true → dpG A j i = true → S i = true:=by
 intro j
 induction j using Nat.strongRecOn with
 | _ j ih =>
  intro i hj hS hd
  obtain ⟨o,ho⟩ : ∃ o,ops[j]? = some o:=⟨_,Array.getElem?_eq_some_iff.2 ⟨hj,rfl⟩⟩
  obtain ⟨e,he,hb,h1⟩:=hA j i o hj ho hd
  have h2:=hcl j o ho hS e he hb
  have h3:=(orderB_spec hO ho).2.2.1 e he hb
  rcases h1 with rfl | h1
  ·exact h2
  ·exact ih e.on h3 i (by omega) h2 h1
theorem wp_drawsG {l : List Oper} (A : List (List Nat)) (sd : List Sd) (dy : List Dyn) (base : Nat) (hm : P.follows .mixedOrders = true) (hO : orderB l.toArray = true) (hC : chkG l.toArray A sd base = true) (hI : IndA A 0 sd dy) (hb : L0.length = base) {id : Nat} {a0 : Act} {W0 : World}
  (h0 : Ext w0 { W0 with drawn:=W0.drawn + 1 } L0)
  (hG : ∀ ξ,GW r n P l.toArray w0 ξ (fun L a => ∀ W,Ext w0 W L → Q .normal a W) 0 l sd dy L0 a0) : (Code.region id l.toArray true).wpIn (Fw r) n P Q a0 W0:=by
 refine wpIn_region_any hm ?_
 obtain ⟨ops,hops⟩ : ∃ ops,ops = l.toArray:=⟨_,rfl⟩
 rw [← hops] at hO hC hG ⊢
 obtain ⟨hsl,hck⟩:=chk_spec hC
 obtain ⟨hdl,hind⟩:=ind_spec sd dy 0 hI
 have hN : ops.size = l.length:=by rw [hops]; simp
 obtain ⟨k,hk⟩ : ∃ k,k = ops.size:=⟨_,rfl⟩
 have hwr : ∀ j i,j < k → (sd.getD j default).1 = some i → i < lenG sd base j:=fun j i hj => (hck j (by omega)).1 i
 have hlen : ∀ ξ j,j < k → ((dy.getD j default).made ξ).length = (sd.getD j default).2.1:=fun ξ j hj => (hind j (by omega)).2 ξ
 have hA : ∀ j i o,j < ops.size → ops[j]? = some o → dpG A j i = true → ∃ e ∈ o.after,Region.binds .any e = true ∧ (e.on = i ∨ dpG A e.on i = true):=fun j i o hj => (hck j hj).2.2.1 i o
 have hlxs:=fun ξ => lx_spec (ξ:=ξ) hb (k:=k) hwr (hlen ξ)
 have hgw:=fun ξ => gw_spec (r:=r) (n:=n) (P:=P) (w0:=w0) (ξ:=ξ) (K:=fun L a => ∀ W,Ext w0 W L → Q .normal a W) (L0:=L0) (a0:=a0) hops (sd:=sd) (dy:=dy) (by omega) (by omega) l.length 0 (by omega) (by
  rw [List.drop_zero,List.drop_zero,List.drop_zero]
  exact hG ξ)
 have main : ∀ (c : Nat) (listed : Array Bool) (ξ : Nat → Xo) (W : World),ExtF w0 W (cu sd dy base L0 ξ (fun j => listed.getD j false) k) → listed.size = k → left listed k = c →
   (∀ j oj,ops[j]? = some oj → listed.getD j false = true → ∀ e ∈ oj.after,Region.binds .any e = true → listed.getD e.on false = true) →
   wpAnyIn (Fw r) n P .any ops Q c listed (stA ops (vaG dy ξ) a0 (fun j => listed.getD j false) k) W:=by
  intro c
  induction c with
  | zero =>
   intro listed ξ W hE hsz hc hcl
   have hall:=left_zero hc
   refine ⟨?_,?_⟩
   ·apply List.eq_nil_iff_forall_not_mem.2
    intro i hi
    obtain ⟨hun,o,ho,_⟩:=mem_ready.1 hi
    have hi' : i < ops.size:=(Array.getElem?_eq_some_iff.1 ho).1
    rw [getD_bool (by omega) true false,hall i (by omega)] at hun
    cases hun
   ·have e1 : ∀ m,m ≤ k → stA ops (vaG dy ξ) a0 (fun j => listed.getD j false) m = stA ops (vaG dy ξ) a0 (fun _ => true) m:=by
     intro m
     induction m with
     | zero => intro _; rfl
     | succ m ih =>
      intro hm
      show (if listed.getD m false = true then _ else _) = (if true = true then _ else _)
      rw [if_pos (hall m (by omega)),if_pos rfl,ih (by omega)]
    rw [e1 k (Nat.le_refl _)]
    have h3:=(hgw ξ).2 W (by
     refine ExtF.to ?_
     have e2 : (fun i => (lx sd dy ξ L0 l.length)[i]?) = cu sd dy base L0 ξ (fun j => listed.getD j false) k:=funext fun q => by
      rw [← hN,← hk,(hlxs ξ k (Nat.le_refl _)).2 q]
      exact cu_mask (fun i hi _ => (hall i hi).symm)
     rw [e2]
     exact hE)
    rw [hk,hN]
    exact h3
  | succ c ih =>
   intro listed ξ W hE hsz hc hcl
   have hrdy : ∀ j,j < ops.size → listed.getD j false = false → ∃ i,i ∈ Region.ready .any ops listed:=by
    intro j
    induction j using Nat.strongRecOn with
    | _ j ihj =>
     intro hj hun
     obtain ⟨o,ho⟩ : ∃ o,ops[j]? = some o:=⟨_,Array.getElem?_eq_some_iff.2 ⟨hj,rfl⟩⟩
     by_cases hall : ∀ e ∈ o.after,Region.binds .any e = true → listed.getD e.on false = true
     ·exact ⟨j,mem_ready.2 ⟨by rw [getD_bool (by omega) true false]; exact hun,o,ho,hall⟩⟩
     ·have : ∃ e ∈ o.after,Region.binds .any e = true ∧ listed.getD e.on false = false:=by
       apply Classical.byContradiction
       intro hno
       exact hall fun e he hb => by
        cases hl : listed.getD e.on false with
        | true => rfl
        | false => exact absurd ⟨e,he,hb,hl⟩ hno
      obtain ⟨e,he,hb,hf⟩:=this
      have hlt:=(orderB_spec hO ho).2.2.1 e he hb
      exact ihj e.on hlt (by omega) hf
   have hex : ∃ j,j < k ∧ listed.getD j false = false:=by
    apply Classical.byContradiction
    intro hno
    have : left listed k = 0:=by
     unfold left
     rw [List.length_eq_zero_iff,List.filter_eq_nil_iff]
     intro j hj
     have hj':=List.mem_range.1 hj
     cases hl : listed.getD j false with
     | true => simp
     | false => exact absurd ⟨j,hj',hl⟩ hno
    omega
   obtain ⟨j1,hj1,hf1⟩:=hex
   obtain ⟨i1,hi1⟩:=hrdy j1 (by omega) hf1
   refine ⟨fun h => (by rw [h] at hi1; cases hi1),fun i hi => ?_⟩
   obtain ⟨hun,o,ho,hall⟩:=mem_ready.1 hi
   have hiN : i < k:=by rw [hk]; exact (Array.getElem?_eq_some_iff.1 ho).1
   have hun':=hun
   rw [getD_bool (by omega) true false] at hun'
   have hl:=left_set (by omega) hun' k hiN
   have hfs : (fun j => (listed.setIfInBounds i true).getD j false) = fun j => listed.getD j false || j == i:=funext fun j => getD_set (by omega)
   have hcl' : ∀ j oj,ops[j]? = some oj → (listed.setIfInBounds i true).getD j false = true → ∀ e ∈ oj.after,Region.binds .any e = true → (listed.setIfInBounds i true).getD e.on false = true:=fun j oj hoj hlj e he hb => by
    rw [getD_set (by omega)] at hlj ⊢
    by_cases e' : j = i
    ·subst e'
     rw [ho] at hoj; cases hoj
     rw [hall e he hb]; rfl
    ·have : (j == i) = false:=by simpa using e'
     rw [this,Bool.or_false] at hlj
     rw [hcl j oj hoj hlj e he hb]; rfl
   obtain ⟨hsel,hdef,haft,hord⟩:=orderB_spec hO ho
   have hclos:=dp_closed (S:=fun j => listed.getD j false) hO hA hcl
   have hready : ∀ i',dpG A i i' = true → listed.getD i' false = true:=fun i' hd => by
    obtain ⟨e,he,hbd,h1⟩:=hA i i' o (by omega) ho hd
    have h2:=hall e he hbd
    rcases h1 with rfl | h1
    ·exact h2
    ·exact hclos e.on i' (by have:=haft e he hbd; omega) h2 h1
   have hlater : ∀ j,j < k → dpG A j i = true → listed.getD j false = false:=fun j hj hd => by
    cases hs : listed.getD j false with
    | false => rfl
    | true =>
     have h9 : listed.getD i false = true:=hclos j i (by omega) hs hd
     rw [hun'] at h9; cases h9
   have hxi : ∀ x j,j < k → listed.getD j false = true → ∀ i',(i' = 0 + j ∨ dpG A (0 + j) i' = true) → ξ i' = updX ξ i x i':=fun x j hj hs i' h => by
    unfold updX
    rw [if_neg]
    intro e
    subst e
    rw [Nat.zero_add] at h
    rcases h with rfl | h
    ·rw [hun'] at hs; cases hs
    ·have:=hlater j hj h
     rw [hs] at this; cases this
   have hval : ∀ x j,j < k → listed.getD j false = true → vaG dy ξ j = vaG dy (updX ξ i x) j:=fun x j hj hs => ((hind j (by omega)).1 _ _ (hxi x j hj hs)).1
   have hcux : ∀ x q,cu sd dy base L0 ξ (fun j => listed.getD j false) k q = cu sd dy base L0 (updX ξ i x) (fun j => listed.getD j false) k q:=fun x q => cu_xi (fun j hj hs => ((hind j (by omega)).1 _ _ (hxi x j hj hs)).2)
   have hlook : ∀ j,j < k → listed.getD j false ≠ decide (j < i) → ∀ d,dstA ops j = some d → ¬ d ∈ o.looksAt ops:=by
    intro j hj hne d hd hmem
    obtain ⟨oj,hoj⟩ : ∃ oj,ops[j]? = some oj:=⟨_,Array.getElem?_eq_some_iff.2 ⟨by omega,rfl⟩⟩
    have hdj : oj.dst = some d:=by simpa [dstA,hoj] using hd
    rcases Nat.lt_trichotomy j i with h | h | h
    ·have hl : listed.getD j false = false:=by
      cases hl : listed.getD j false with
      | false => rfl
      | true => exact absurd (by rw [hl]; simp [h]) hne
     rcases hord j oj h hoj with hap | ⟨e,he,hb,hon⟩
     ·exact (Oper.apart_spec hap).1 d hdj hmem
     ·have:=hall e he hb
      rw [hon,hl] at this; cases this
    ·subst h
     exact absurd (by rw [hun']; simp) hne
    ·have hl : listed.getD j false = true:=by
      cases hl : listed.getD j false with
      | true => rfl
      | false => exact absurd (by rw [hl]; simp; omega) hne
     rcases (orderB_spec hO hoj).2.2.2 i o h ho with hap | ⟨e,he,hb,hon⟩
     ·exact (Oper.apart_spec hap).2.2 d hdj hmem
     ·have:=hcl j oj hoj hl e he hb
      rw [hon,hun'] at this; cases this
   have hag:=stA_agree (ops:=ops) (vaG dy ξ) a0 (fun x => x ∈ o.looksAt ops) (fun j => listed.getD j false) (fun j => decide (j < i)) k hlook
   have hlex : stA ops (vaG dy ξ) a0 (fun j => decide (j < i)) k = stA ops (vaG dy ξ) a0 (fun _ => true) i:=by
    have h1 : ∀ m,m ≤ i → stA ops (vaG dy ξ) a0 (fun j => decide (j < i)) m = stA ops (vaG dy ξ) a0 (fun _ => true) m:=by
     intro m
     induction m with
     | zero => intro _; rfl
     | succ m ih => intro hm; simp only [stA]; rw [ih (by omega)]; simp; omega
    have h2 : ∀ m,i ≤ m → stA ops (vaG dy ξ) a0 (fun j => decide (j < i)) m = stA ops (vaG dy ξ) a0 (fun j => decide (j < i)) i:=by
     intro m
     induction m with
     | zero =>
      intro h
      have : i = 0:=by omega
      subst this; rfl
     | succ m ih =>
      intro hm
      by_cases e : i = m + 1
      ·rw [e]
      ·simp only [stA]
       rw [if_neg (by simp; omega)]
       exact ih (by omega)
    rw [h2 k (by omega),h1 i (Nat.le_refl _)]
   rw [hlex] at hag
   obtain ⟨hev,hwa⟩:=looks_same (ops:=ops) (o:=o) (a:=stA ops (vaG dy ξ) a0 (fun j => listed.getD j false) k) (b:=stA ops (vaG dy ξ) a0 (fun _ => true) i) hag.1
   have hput : ∀ ξ',(∀ j,j < k → listed.getD j false = true → vaG dy ξ j = vaG dy ξ' j) → (stA ops (vaG dy ξ) a0 (fun j => listed.getD j false) k).put o.dst ((dy.getD i default).val ξ') = stA ops (vaG dy ξ') a0 (fun j => listed.getD j false || j == i) k:=fun ξ' h => by
    rw [stA_insert (ops:=ops) (vaG dy ξ') a0 (fun j => listed.getD j false) i hun' k hiN (fun j h1 h2 h3 d h4 h5 => by
     obtain ⟨oj,hoj⟩ : ∃ oj,ops[j]? = some oj:=⟨_,Array.getElem?_eq_some_iff.2 ⟨by omega,rfl⟩⟩
     have hdj : oj.dst = some d:=by simpa [dstA,hoj] using h4
     have hdi : o.dst = some d:=by simpa [dstA,ho] using h5
     rcases (orderB_spec hO hoj).2.2.2 i o h1 ho with hap | ⟨e,he,hb,hon⟩
     ·exact (Oper.apart_spec hap).2.1 d hdi hdj
     ·have:=hcl j oj hoj h3 e he hb
      rw [hon,hun'] at this; cases this)]
    have e9 : ∀ m,m ≤ k → stA ops (vaG dy ξ) a0 (fun j => listed.getD j false) m = stA ops (vaG dy ξ') a0 (fun j => listed.getD j false) m:=by
     intro m
     induction m with
     | zero => intro _; rfl
     | succ m ih =>
      intro hm
      simp only [stA]
      rw [ih (by omega)]
      split
      ·rename_i hs
       rw [h m (by omega) hs]
      ·rfl
    have e8 : dstA ops i = o.dst:=by simp [dstA,ho]
    rw [e9 k (Nat.le_refl _),e8]
    rfl
   have hLk : ∀ j,j ≤ k → lenG sd base j ≤ lenG sd base k:=fun j hj => lenG_mono k hj
   rcases (hgw ξ).1 i o (Nat.zero_le _) ho with ⟨hw,hob⟩ | ⟨hw,hv,hn1,hn2⟩
   ·unfold wpOpIn
    simp only [ho]
    rw [hwa,if_pos hw]
    obtain ⟨msk,hmsk⟩ : ∃ msk,msk = (sd.getD i default).2.2:=⟨_,rfl⟩
    obtain ⟨LL,hLL⟩ : ∃ LL,LL = lx sd dy ξ L0 i:=⟨_,rfl⟩
    obtain ⟨len,hlenD⟩ : ∃ len,len = lenG sd base i:=⟨_,rfl⟩
    obtain ⟨LEN,hLEN⟩ : ∃ LEN,LEN = lenG sd base k:=⟨_,rfl⟩
    have hmlen : msk.length = len:=by rw [hmsk,hlenD]; exact (hck i (by omega)).2.1
    have hLlen : LL.length = len:=by rw [hLL,hlenD]; exact (hlxs ξ i (by omega)).1
    have hle : len ≤ LEN:=by rw [hlenD,hLEN]; exact hLk i (by omega)
    obtain ⟨f,hf⟩ : ∃ f,f = cu sd dy base L0 ξ (fun j => listed.getD j false) k:=⟨_,rfl⟩
    have hflt : ∀ q p,f q = some p → q < LEN:=fun q p h => by rw [hf] at h; rw [hLEN]; exact cu_lt hb hwr k q p (Nat.le_refl _) h
    have hmeq : ∀ q,q < len → msk.getD q false = true → LL[q]? = f q:=by
     intro q hq hmq
     rw [hLL,hf,(hlxs ξ i (by omega)).2 q]
     have hc4:=fun j (hj : j < ops.size) (hne : j ≠ i) => (hck i (by omega)).2.2.2 j q hj hne (by rw [← hk,← hLEN]; omega)
     rw [cu_mask (S:=fun _ => true) (S':=fun j => listed.getD j false) (fun j hj hwj => by
      have:=(hc4 j (by omega) (by omega) hwj).2 (by rw [← hmsk]; exact hmq)
      rw [if_pos hj] at this
      exact (hready j this).symm)]
     refine (cu_up k (by omega) (fun j h1 h2 hwj => ?_)).symm
     by_cases e : j = i
     ·subst e; exact hun'
     ·have:=(hc4 j (by omega) e hwj).2 (by rw [← hmsk]; exact hmq)
      rw [if_neg (by omega)] at this
      exact hlater j h2 this
    obtain ⟨L2,hL2⟩ : ∃ L2,L2 = (List.range LEN).map fun q => if q < len ∧ msk.getD q false = true then noR else (f q).getD noR:=⟨_,rfl⟩
    have hL2len : L2.length = LEN:=by rw [hL2]; simp
    have hL2get : ∀ q,q < LEN → L2[q]? = some (if q < len ∧ msk.getD q false = true then noR else (f q).getD noR):=fun q hq => by
     rw [hL2]; simp [hq]
    have hMlen : (maskL LL msk).length = len:=by rw [maskL_len _ _ (by omega)]; exact hLlen
    have hMget : ∀ q,q < len → msk.getD q false = true → (maskL LL msk ++ L2)[q]? = f q:=fun q hq hmq => by
     rw [List.getElem?_append_left (by omega),maskL_get _ _ _ (by omega),← hmeq q hq hmq]
     cases LL[q]? with
     | none => rfl
     | some p => simp only [Option.map_some]; rw [if_pos hmq]
    have hRget : ∀ q,q < LEN → (maskL LL msk ++ L2)[len + q]? = some (if q < len ∧ msk.getD q false = true then noR else (f q).getD noR):=fun q hq => by
     rw [List.getElem?_append_right (by omega),hMlen,show len + q - len = q by omega]
     exact hL2get q hq
    have hcls : ∀ q p,(maskL LL msk ++ L2)[q]? = some p → p = noR ∨ (q < len ∧ msk.getD q false = true ∧ f q = some p) ∨ (len ≤ q ∧ ¬ (q - len < len ∧ msk.getD (q - len) false = true) ∧ f (q - len) = some p):=by
     intro q p hp
     by_cases hq : q < len
     ·by_cases hmq : msk.getD q false = true
      ·rw [hMget q hq hmq] at hp
       exact .inr (.inl ⟨hq,hmq,hp⟩)
      ·rw [List.getElem?_append_left (by omega),maskL_get _ _ _ (by omega)] at hp
       obtain ⟨p0,_,h2⟩:=Option.map_eq_some_iff.1 hp
       rw [if_neg hmq] at h2
       exact .inl h2.symm
     ·have hlt : q - len < LEN:=by
       have:=(List.getElem?_eq_some_iff.1 hp).1
       rw [List.length_append,hMlen,hL2len] at this
       omega
      have h3:=hRget (q - len) hlt
      rw [show len + (q - len) = q by omega,hp] at h3
      have h3:=Option.some.inj h3
      split at h3
      ·exact .inl h3
      ·rename_i h4
       cases hfq : f (q - len) with
       | none => rw [hfq] at h3; exact .inl h3
       | some p1 => rw [hfq] at h3; exact .inr (.inr ⟨by omega,h4,by rw [h3]; rfl⟩)
    have hEx : Ext w0 W (maskL LL msk ++ L2):=by
     refine ExtF.to (hE.map (fun q => if q < len then q else q - len) (fun q p hp => ?_) (fun q q' p p' hp hp' hne => ?_))
     ·rcases hcls q p hp with h | ⟨h1,h2,h3⟩ | ⟨h1,h2,h3⟩
      ·exact .inl h
      ·rw [if_pos h1,← hf]; exact .inr h3
      ·rw [if_neg (by omega),← hf]; exact .inr h3
     ·rcases hcls q p hp with h | ⟨h1,h2,h3⟩ | ⟨h1,h2,h3⟩
      ·exact .inl h
      ·rcases hcls q' p' hp' with h' | ⟨h1',h2',h3'⟩ | ⟨h1',h2',h3'⟩
       ·exact .inr (.inl h')
       ·rw [if_pos h1,if_pos h1',← hf]; exact .inr (.inr ⟨h3,h3',hne⟩)
       ·rw [if_pos h1,if_neg (by omega),← hf]
        exact .inr (.inr ⟨h3,h3',fun e => h2' (by rw [← e]; exact ⟨h1,h2⟩)⟩)
      ·rcases hcls q' p' hp' with h' | ⟨h1',h2',h3'⟩ | ⟨h1',h2',h3'⟩
       ·exact .inr (.inl h')
       ·rw [if_neg (by omega),if_pos h1',← hf]
        exact .inr (.inr ⟨h3,h3',fun e => h2 (by rw [e]; exact ⟨h1',h2'⟩)⟩)
       ·rw [if_neg (by omega),if_neg (by omega),← hf]; exact .inr (.inr ⟨h3,h3',by omega⟩)
    refine wpIn_moveG (j:=i) (s:=sd.getD i default) (dd:=dy.getD i default) (ξ:=ξ) (L:=maskL LL msk ++ L2) (a:=stA ops (vaG dy ξ) a0 (fun _ => true) i) hsel hdef (fun x hx => (hev x hx).symm) (by rw [stA_sizeU,stA_sizeU]) (by
     have:=hob L2 W (by rw [← hLL,← hmsk]; exact hEx)
     rw [← hLL,← hmsk] at this
     exact this) ?_
    intro x W' hE'
    rw [hput (updX ξ i x) (hval x)]
    have hnew : ExtF w0 W' (cu sd dy base L0 (updX ξ i x) (fun j => listed.getD j false || j == i) k):=by
     have hcp : ∀ q,cu sd dy base L0 (updX ξ i x) (fun j => listed.getD j false || j == i) k q = _:=fun q => cu_put (S:=fun j => listed.getD j false) hiN hun' (fun j h1 h2 h3 h4 => by
      have hq : q < lenG sd base ops.size:=by
       rw [← hk]
       rw [wrG_iff] at h3
       rcases h3 with h3 | h3
       ·have:=hwr i q hiN h3
        have:=hLk i (by omega)
        omega
       ·have:=hLk (i + 1) (by omega)
        omega
      rcases ((hck i (by omega)).2.2.2 j q (by omega) (by omega) hq h4).1 h3 with h5 | h5
      ·obtain ⟨e,he,hbd,h6⟩:=hA i j o (by omega) ho h5
       have h7:=haft e he hbd
       have h8:=hready j h5
       exfalso
       have h9 : ∀ (a b : Nat),a < ops.size → dpG A a b = true → b < a:=by
        intro a
        induction a using Nat.strongRecOn with
        | _ a iha =>
         intro b ha hd
         obtain ⟨oa,hoa⟩ : ∃ oa,ops[a]? = some oa:=⟨_,Array.getElem?_eq_some_iff.2 ⟨ha,rfl⟩⟩
         obtain ⟨e,he,hbd,h6⟩:=hA a b oa ha hoa hd
         have h7:=(orderB_spec hO hoa).2.2.1 e he hbd
         rcases h6 with rfl | h6
         ·exact h7
         ·have:=iha e.on h7 b (by omega) h6
          omega
       have:=h9 i j (by omega) h5
       omega
      ·exact hlater j h2 h5)
     obtain ⟨wr,hwrD⟩ : ∃ wr,wr = (sd.getD i default).1:=⟨_,rfl⟩
     obtain ⟨Lm,hLm⟩ : ∃ Lm,Lm = (match wr with | some i' => (maskL LL msk ++ L2).set i' ((dy.getD i default).wp (updX ξ i x)) | none => (maskL LL msk ++ L2)):=⟨_,rfl⟩
     have hwl : ∀ q,wr = some q → q < len:=fun q h => by rw [hlenD]; exact hwr i q hiN (by rw [← hwrD]; exact h)
     have hLmlen : Lm.length = len + LEN:=by
      rw [hLm]
      cases wr <;> simp [hMlen,hL2len]
     have hLmget : ∀ t,t < len + LEN → Lm[t]? = if wr = some t then some ((dy.getD i default).wp (updX ξ i x)) else (maskL LL msk ++ L2)[t]?:=by
      intro t ht
      rw [hLm]
      cases hw9 : wr with
      | none => rw [if_neg (by intro h; cases h)]
      | some i' =>
       simp only []
       rw [List.getElem?_set]
       by_cases e : i' = t
       ·subst e
        rw [if_pos rfl,if_pos (by rw [List.length_append,hMlen,hL2len]; omega),if_pos rfl]
       ·rw [if_neg e,if_neg (by intro h; cases h; exact e rfl)]
     have hE2 : Ext w0 W' (Lm ++ (dy.getD i default).made (updX ξ i x)):=by
      rw [hLm,hwrD]; exact hE'
     have hl1 : lenG sd base (i + 1) = len + (sd.getD i default).2.1:=by rw [hlenD]; rfl
     refine (ExtF.of hE2).map (fun q => if wr = some q then q else if len ≤ q ∧ q < lenG sd base (i + 1) then len + LEN + (q - len) else if q < len ∧ msk.getD q false = true then q else len + q) (fun q p hp => .inr ?_) (fun q q' p p' hp hp' hne => .inr (.inr ⟨?_,?_,?_⟩))
     all_goals
      have hget : ∀ q p,cu sd dy base L0 (updX ξ i x) (fun j => listed.getD j false || j == i) k q = some p → (Lm ++ (dy.getD i default).made (updX ξ i x))[if wr = some q then q else if len ≤ q ∧ q < lenG sd base (i + 1) then len + LEN + (q - len) else if q < len ∧ msk.getD q false = true then q else len + q]? = some p ∧ q < LEN:=by
       intro q p hp
       rw [hcp q,← hwrD,← hlenD] at hp
       by_cases h1 : wr = some q
       ·have:=hwl q h1
        rw [if_pos h1] at hp
        rw [if_pos h1,List.getElem?_append_left (by omega),hLmget q (by omega),if_pos h1]
        exact ⟨hp,by omega⟩
       ·rw [if_neg h1] at hp
        rw [if_neg h1]
        by_cases h2 : len ≤ q ∧ q < lenG sd base (i + 1)
        ·rw [if_pos h2] at hp
         rw [if_pos h2,List.getElem?_append_right (by omega),hLmlen,show len + LEN + (q - len) - (len + LEN) = q - len by omega]
         have:=hLk (i + 1) (by omega)
         exact ⟨hp,by omega⟩
        ·rw [if_neg h2,← hcux x q,← hf] at hp
         have hq:=hflt q p hp
         rw [if_neg h2]
         by_cases h3 : q < len ∧ msk.getD q false = true
         ·rw [if_pos h3,List.getElem?_append_left (by omega),hLmget q (by omega),if_neg h1,hMget q h3.1 h3.2]
          exact ⟨hp,hq⟩
         ·rw [if_neg h3,List.getElem?_append_left (by omega),hLmget (len + q) (by omega),if_neg (fun h => by have:=hwl _ h; omega),hRget q hq,if_neg h3,hp]
          exact ⟨rfl,hq⟩
     ·exact (hget q p hp).1
     ·exact (hget q p hp).1
     ·exact (hget q' p' hp').1
     ·have h1:=(hget q p hp).2
      have h2:=(hget q' p' hp').2
      have ht : ∀ q,((if wr = some q then q else if len ≤ q ∧ q < lenG sd base (i + 1) then len + LEN + (q - len) else if q < len ∧ msk.getD q false = true then q else len + q) = q ∧ q < len) ∨
        ((if wr = some q then q else if len ≤ q ∧ q < lenG sd base (i + 1) then len + LEN + (q - len) else if q < len ∧ msk.getD q false = true then q else len + q) = len + LEN + (q - len) ∧ len ≤ q) ∨
        (if wr = some q then q else if len ≤ q ∧ q < lenG sd base (i + 1) then len + LEN + (q - len) else if q < len ∧ msk.getD q false = true then q else len + q) = len + q:=by
       intro q
       by_cases a1 : wr = some q
       ·rw [if_pos a1]; exact .inl ⟨rfl,hwl q a1⟩
       ·rw [if_neg a1]
        by_cases a2 : len ≤ q ∧ q < lenG sd base (i + 1)
        ·rw [if_pos a2]; exact .inr (.inl ⟨rfl,a2.1⟩)
        ·rw [if_neg a2]
         by_cases a3 : q < len ∧ msk.getD q false = true
         ·rw [if_pos a3]; exact .inl ⟨rfl,a3.1⟩
         ·rw [if_neg a3]; exact .inr (.inr rfl)
      intro he
      rcases ht q with ⟨b1,b2⟩ | ⟨b1,b2⟩ | b1 <;> rcases ht q' with ⟨c1,c2⟩ | ⟨c1,c2⟩ | c1 <;> rw [b1,c1] at he <;> omega
    have:=ih (listed.setIfInBounds i true) (updX ξ i x) W' (by rw [hfs]; exact hnew) (by simpa using hsz) (by omega) hcl'
    rw [hfs] at this
    exact this
   ·unfold wpOpIn
    simp only [ho]
    rw [hwa,if_neg (by rw [hw]; simp)]
    refine ⟨fun _ _ => trivial,?_⟩
    have hp:=hput ξ (fun _ _ _ => rfl)
    rw [hv ξ] at hp
    rw [hp]
    have:=ih (listed.setIfInBounds i true) ξ W (by
     rw [hfs]
     have e7 : cu sd dy base L0 ξ (fun j => listed.getD j false || j == i) k = cu sd dy base L0 ξ (fun j => listed.getD j false) k:=funext fun q => cu_mask (fun j hj hwj => by
      have hne : (j == i) = false:=by
       simp
       intro e
       subst e
       rw [wrG_iff,hn1] at hwj
       simp only [lenG,hn2] at hwj
       rcases hwj with h | h
       ·cases h
       ·omega
      simp [hne])
     rw [e7]
     exact hE) (by simpa using hsz) (by omega) hcl'
    rw [hfs] at this
    exact this
 have e1 : left (Array.replicate ops.size false) k = k:=by
  unfold left
  rw [List.filter_eq_self.2 fun j hj => ?_]
  ·simp
  ·have:=List.mem_range.1 hj
   simp [show j < ops.size by omega]
 have hrep : ∀ j,(Array.replicate ops.size false).getD j false = false:=fun j => by
  rw [Array.getD_eq_getD_getElem?,Array.getElem?_replicate]
  split <;> rfl
 have hfin:=main k (Array.replicate ops.size false) (fun _ _ => (none,0,0,[],noR)) _ (by
  have e3 : cu sd dy base L0 (fun _ _ => (none,0,0,[],noR)) (fun j => (Array.replicate ops.size false).getD j false) k = fun i => L0[i]?:=funext fun q => cu_up (j:=0) k (Nat.zero_le _) (fun i _ _ _ => hrep i)
  rw [e3]
  exact ExtF.of h0) (by simp [hk]) e1 (fun j oj hoj hl => by rw [hrep j] at hl; cases hl)
 have e2 : ∀ m,stA ops (vaG dy (fun _ _ => (none,0,0,[],noR))) a0 (fun j => (Array.replicate ops.size false).getD j false) m = a0:=by
  intro m
  induction m with
  | zero => rfl
  | succ m ih => simp only [stA]; rw [ih,if_neg (by rw [hrep m]; simp)]
 rw [e2 k,hk] at hfin
 exact hfin
end
open Go.RowKit (Below)
section
variable {r : Option Nat} {n : Nat} {P : Program} {ops : Array Oper} {Q : Exit → Act → World → Prop} {w0 : World} {L : List Res} {m : Nat} {tm : Nat → Value} {d : List Deferred} {ξ : Nat → Xo}
variable {t : Tmp} {ty : TypeId} {pos : String} {af : Array Edge} {g : Option (Nat × Bool)} {os : List Oper} {s : Sd} {dd : Dyn} {ss : List Sd} {ds : List Dyn} {j : Nat}
def GX (r : Option Nat) (n : Nat) (P : Program) (ops : Array Oper) (Q : Exit → Act → World → Prop) (w0 : World) (ξ : Nat → Xo) (j : Nat) (os : List Oper) (ss : List Sd) (ds : List Dyn) (L : List Res) (m : Nat) (tm : Nat → Value) (d : List Deferred) : Prop :=
 GW r n P ops w0 ξ (fun L a => ∀ W,Ext w0 W L → Q .normal a W) j os ss ds L (act m tm d)
theorem cx_drawsG (A : List (List Nat)) (sd : List Sd) (dy : List Dyn) (base : Nat) {id : Nat} {l : List Oper} (hm : P.follows .mixedOrders = true) (hO : orderB l.toArray = true) (hC : chkG l.toArray A sd base = true) (hI : IndA A 0 sd dy) (hb : L.length = base)
  (h : ∀ ξ,GX r n P l.toArray Q w0 ξ 0 l sd dy L m tm d) : CX r n P (.region id l.toArray true) Q w0 L m tm d :=
 fun _ hW => wp_drawsG A sd dy base hm hO hC hI hb hW.drawn h
theorem gx_nil (h : EX Q .normal w0 L m tm d) : GX r n P ops Q w0 ξ j [] [] [] L m tm d:=h
theorem gx_o {op : Op} (hw : seesB ops m tm ⟨some t,op,ty,pos,af,g⟩ = true)
  (hop : ∀ L2,OX r n P ops (obQ w0 j s dd ξ (some t) (maskL L s.2.2 ++ L2) (act m tm d)) w0 (maskL L s.2.2 ++ L2) [⟨some t,op,ty,pos,af,g⟩] m tm d)
  (h : GX r n P ops Q w0 ξ (j + 1) os ss ds (aftL s dd ξ L) m (upd tm t (dd.val ξ)) d) : GX r n P ops Q w0 ξ j (⟨some t,op,ty,pos,af,g⟩ :: os) (s :: ss) (dd :: ds) L m tm d:=by
 unfold GX GW
 refine ⟨.inl ⟨by rw [wanted_act]; exact hw,fun L2 W hW => ?_⟩,?_⟩
 ·have h1:=hop L2 W hW
  unfold OL at h1
  rw [wanted_act,if_pos hw] at h1
  exact Oper.wpIn_mono (fun a w h => h) h1
 ·rw [put_act]
  exact h
theorem gx_n {op : Op} (hw : seesB ops m tm ⟨none,op,ty,pos,af,g⟩ = true)
  (hop : ∀ L2,OX r n P ops (obQ w0 j s dd ξ none (maskL L s.2.2 ++ L2) (act m tm d)) w0 (maskL L s.2.2 ++ L2) [⟨none,op,ty,pos,af,g⟩] m tm d)
  (h : GX r n P ops Q w0 ξ (j + 1) os ss ds (aftL s dd ξ L) m tm d) : GX r n P ops Q w0 ξ j (⟨none,op,ty,pos,af,g⟩ :: os) (s :: ss) (dd :: ds) L m tm d:=by
 unfold GX GW
 refine ⟨.inl ⟨by rw [wanted_act]; exact hw,fun L2 W hW => ?_⟩,h⟩
 have h1:=hop L2 W hW
 unfold OL at h1
 rw [wanted_act,if_pos hw] at h1
 exact Oper.wpIn_mono (fun a w h => h) h1
theorem ex_capG {Lf L' : List Res} {v : Value} (x : Xo) (hv : dd.val (updX ξ j x) = v) (hL : aftL s dd (updX ξ j x) Lf = L') : EX (obQ w0 j s dd ξ (some t) Lf (act m tm d)) .normal w0 L' m (upd tm t v) d:=fun W hW => by
 subst hv hL
 exact ⟨rfl,x,(put_act m tm d (some t) _).symm,hW⟩
theorem ex_capGn {Lf L' : List Res} (x : Xo) (hL : aftL s dd (updX ξ j x) Lf = L') : EX (obQ w0 j s dd ξ none Lf (act m tm d)) .normal w0 L' m tm d:=fun W hW => by
 subst hL
 exact ⟨rfl,x,rfl,hW⟩
end
end Go.Proofs.YtbblpokfbmekfaaGreat
