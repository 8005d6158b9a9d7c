import Derived.Test.YtbblpokfbmekfaaGreatG3
import Derived.Test.YtbblpokfbmekfaaGreatGt
set_option linter.unusedVariables false
namespace Go.Proofs.YtbblpokfbmekfaaGreat
open Go.RowKit (Below)
section
variable {w0 : World} {L : List Res}
theorem Ext.rot {W : World} {p : Res} (h : Ext w0 W (p :: L)) : Ext w0 W (L ++ [p]):=by
 have hg : ∀ (k : Nat) (q : Res),(L ++ [p])[k]? = some q → ∃ j,(p :: L)[j]? = some q ∧ (k < L.length → j = k + 1) ∧ (L.length ≤ k → j = 0 ∧ k = L.length):=by
  intro k q hq
  rcases Nat.lt_or_ge k L.length with hk | hk
  ·rw [List.getElem?_append_left hk] at hq
   exact ⟨k + 1,by simpa using hq,fun _ => rfl,fun h' => by omega⟩
  ·rw [List.getElem?_append_right hk] at hq
   have : k - L.length = 0:=by
    cases hkk : k - L.length with
    | zero => rfl
    | succ z => rw [hkk] at hq; simp at hq
   rw [this] at hq
   exact ⟨0,by simpa using hq,fun h' => by omega,fun _ => ⟨rfl,by omega⟩⟩
 refine ⟨h.below,fun k q hq => ?_,fun k q hq => ?_,fun k l q q' hq hq' hne => ?_⟩
 ·obtain ⟨j,hj,_⟩:=hg k q hq; exact h.all j q hj
 ·obtain ⟨j,hj,_⟩:=hg k q hq; exact h.new j q hj
 ·obtain ⟨j,hj,a1,a2⟩:=hg k q hq
  obtain ⟨i,hi,b1,b2⟩:=hg l q' hq'
  refine h.sep j i q q' hj hi (fun e => hne ?_)
  rcases Nat.lt_or_ge k L.length with hk | hk <;> rcases Nat.lt_or_ge l L.length with hl | hl
  ·have:=a1 hk; have:=b1 hl; omega
  ·have:=a1 hk; have:=(b2 hl).1; omega
  ·have:=(a2 hk).1; have:=b1 hl; omega
  ·have:=(a2 hk).2; have:=(b2 hl).2; omega
theorem Ext.torr {W : World} {p : Res} (h : Ext w0 W (L ++ [p])) : Ext w0 W (p :: L):=by
 have hg : ∀ (k : Nat) (q : Res),(p :: L)[k]? = some q → ∃ j,(L ++ [p])[j]? = some q ∧ (0 < k → k = j + 1) ∧ (k = 0 → j = L.length) ∧ (0 < k → j < L.length):=by
  intro k q hq
  cases k with
  | zero => exact ⟨L.length,by simpa using hq,fun h' => by omega,fun _ => rfl,fun h' => by omega⟩
  | succ k =>
   have hq' : L[k]? = some q:=by simpa using hq
   have hk : k < L.length:=(List.getElem?_eq_some_iff.1 hq').1
   exact ⟨k,by rw [List.getElem?_append_left hk]; exact hq',fun _ => rfl,fun h' => by omega,fun _ => hk⟩
 refine ⟨h.below,fun k q hq => ?_,fun k q hq => ?_,fun k l q q' hq hq' hne => ?_⟩
 ·obtain ⟨j,hj,_⟩:=hg k q hq; exact h.all j q hj
 ·obtain ⟨j,hj,_⟩:=hg k q hq; exact h.new j q hj
 ·obtain ⟨j,hj,a1,a2,a3⟩:=hg k q hq
  obtain ⟨i,hi,b1,b2,b3⟩:=hg l q' hq'
  refine h.sep j i q q' hj hi (fun e => hne ?_)
  rcases Nat.eq_zero_or_pos k with hk | hk <;> rcases Nat.eq_zero_or_pos l with hl | hl
  ·omega
  ·have:=a2 hk; have:=b3 hl; omega
  ·have:=b2 hl; have:=a3 hk; omega
  ·have:=a1 hk; have:=b1 hl; omega
theorem Ext.tail {W : World} {p : Res} (h : Ext w0 W (p :: L)) : Ext w0 W L:=by
 have:=h.rot.take L.length
 rw [List.take_left] at this
 exact this
theorem Ext.torr' {W : World} {p : Res} (h : Ext w0 W (p :: L)) : Ext w0 W L:=h.tail
theorem getElem?_app3 {p q s : Res} : (L ++ [p,q,s])[L.length + 1]? = some q:=by simp
theorem Ext.putLoop3 {W : World} {p s : Res} {l : Nat} {rec rec' : Loop} (h : Ext w0 W (L ++ [p,lpR l rec,s])) : Ext w0 (W.putObj l (.loop rec')) (L ++ [p,lpR l rec',s]):=by
 have hl : W.heap[l]? = some (.loop rec):=h.mem getElem?_app3
 have hlt : l < W.heap.size:=lt_of_block hl
 have:=h.set getElem?_app3 (lpR l rec') (W':=W.putObj l (.loop rec')) (World.putObj_heap_same hlt) rfl rfl rfl (by simp [World.putObj]) (fun b hb hn => World.putObj_heap_other (fun e => hn e)) (fun b hb => .inl hb)
 have e : (L ++ [p,lpR l rec,s]).set (L.length + 1) (lpR l rec') = L ++ [p,lpR l rec',s]:=by rw [List.set_append_right _ _ (by omega)]; simp
 rw [e] at this
 exact this
end
def SeqC (P : Program) (g : Nat) (caps : List Value) (e : TypeId) (H : World → Prop) (xs : List (List Int)) : Prop :=
 ∀ (w0 : World) (l : Nat) (K : Nat → List Res → Prop) (Kx : List Res → Prop) (W : World) (L : List Res),
  (∀ i L W,K i L → Ext w0 W L → H W) →
  (∀ i x A c L W,xs[i]? = some x → K i L → Ext w0 W (rowR A c e 1 x.length (encL cI x) :: L) →
   YieldAt (Fw none) 6 P l #[.slice A x.length c] W fun e' W' =>
    (e' = .returned (.bool true) ∧ ∃ L',K (i + 1) L' ∧ Ext w0 W' (rowR A c e 1 x.length (encL cI x) :: L')) ∨ (e' = .returned (.bool false) ∧ ∃ L',Kx L' ∧ Ext w0 W' L')) →
  K 0 L → Ext w0 W L →
  CallsIn (Fw none) 7 P g (#[.func (.yield l) #[] #[]] ++ caps.toArray) W fun e' W' => (∃ v,e' = .returned v) ∧ ((∃ L',K xs.length L' ∧ Ext w0 W' L') ∨ ∃ L',Kx L' ∧ Ext w0 W' L')
section
variable {r : Option Nat} {n : Nat} {P : Program} {Q : Exit → Act → World → Prop} {w0 : World} {L : List Res} {m : Nat} {tm : Nat → Value} {d : List Deferred}
def rgC {S T : Type} (w0 : World) (D l : Nat) (rec : Loop) (R : Res) (I : S → List Res → Prop) (J : T → Exit → List Res → Prop) (st : S ⊕ T) : Exit → Act → World → Prop:=fun e _ W =>
 match st with
 | .inl s' => e = .normal ∧ ∃ L',I s' L' ∧ Ext w0 W (L' ++ [dfR D,lpR l { rec with state:=.busy },R])
 | .inr t => ∃ L',J t e L' ∧ Ext w0 W (L' ++ [dfR D,lpR l { rec with state:=.busy },R])
theorem ex_cnext {S T : Type} {I : S → List Res → Prop} {J : T → Exit → List Res → Prop} {D l : Nat} {rec : Loop} {R : Res} {s' : S} (L' : List Res) (h : I s' L') : EX (rgC w0 D l rec R I J (.inl s')) .normal w0 (L' ++ [dfR D,lpR l { rec with state:=.busy },R]) m tm d :=
 fun _ hW => ⟨rfl,L',h,hW⟩
theorem ex_cstop {S T : Type} {I : S → List Res → Prop} {J : T → Exit → List Res → Prop} {D l : Nat} {rec : Loop} {R : Res} {t : T} {e : Exit} (L' : List Res) (h : J t e L') : EX (rgC w0 D l rec R I J (.inr t)) e w0 (L' ++ [dfR D,lpR l { rec with state:=.busy },R]) m tm d :=
 fun _ hW => ⟨L',h,hW⟩
theorem cx_rangeC {S T : Type} {bodyf : S → List Int → Option (S ⊕ T)} {g : Operand} {p : Tmp} {assign body : Code} {gf : Nat} {caps : List Value} {et : TypeId} {H : World → Prop} {xs : List (List Int)} {s0 : S} {st : S ⊕ T}
  (I : S → List Res → Prop) (J : T → Exit → List Res → Prop) (hl : foldO bodyf xs s0 = some st) (hg : opv m tm g = .func (.func gf) #[] caps.toArray) (hgo : goes P gf = true)
  (hseq : SeqC P gf caps et H xs) (hH : ∀ W s L',I s L' → Ext w0 W L' → H W) (h0 : I s0 L)
  (hJe : ∀ t e L',J t e L' → e = .ret ∨ ∃ id,e = .exit id)
  (round : ∀ D l rec A c s x L' st',rec.state = .ready → I s L' → bodyf s x = some st' → CX (some l) 6 P assign (asgQ 6 P l body (rgC w0 D l rec (rowR A c et 1 x.length (encL cI x)) I J st')) w0 (L' ++ [dfR D,lpR l rec,rowR A c et 1 x.length (encL cI x)]) m (upd tm p (.slice A x.length c)) [])
  (done : ∀ D s L',st = .inl s → I s L' → EX Q .normal w0 (L' ++ [dfR D]) m tm (⟨.collected D,#[]⟩ :: d))
  (stop : ∀ D t e L',st = .inr t → J t e L' → EX Q e w0 (L' ++ [dfR D]) m tm (⟨.collected D,#[]⟩ :: d)) : CX none 8 P (.rangeFunc g #[p] assign body) Q w0 L m tm d:=fun W hW => by
 refine wpIn_rangeFunc ?_
 intro fn hfn
 obtain ⟨rec0,hrec0⟩ : ∃ rec0 : Loop,rec0 = { state:=.ready,pending:=none,fn,tmps:=(act m tm d).tmps,params:=#[p],assign,body,defers:=W.heap.size }:=⟨_,rfl⟩
 have hW1 : Ext w0 ((W.alloc (.deferred (some []))).alloc (.loop rec0)) (L ++ [dfR W.heap.size,lpR (W.heap.size + 1) rec0]):=by
  have h1:=(hW.alloc (.deferred (some []))).alloc (.loop rec0)
  rw [World.size_alloc,List.append_assoc] at h1
  exact h1
 refine ⟨W.heap.size + 1,[{ target:=.collected W.heap.size,args:=#[] }],((W.alloc (.deferred (some []))).alloc (.loop rec0)),{ target:=.fn (.func gf) caps.toArray,args:=#[.func (.yield (W.heap.size + 1)) #[] #[]] },((W.alloc (.deferred (some []))).alloc (.loop rec0)),gf,
  #[.func (.yield (W.heap.size + 1)) #[] #[]] ++ caps.toArray,((W.alloc (.deferred (some []))).alloc (.loop rec0)),(by rw [hrec0]; exact run_enterLoop_outer _ _ _ _ _),?_,fun _ _ => trivial,?_,fun hd => (by cases hd),?_⟩
 ·have hg' : (act m tm d).eval g = .func (.func gf) #[] caps.toArray:=by rw [eval_act]; exact hg
  simp only [resolve,hg']
  simp [go_sem]
 ·have:=run_goes hgo (#[.func (.yield (W.heap.size + 1)) #[] #[]] ++ caps.toArray) ((W.alloc (.deferred (some []))).alloc (.loop rec0))
  simp only [invoke]
  exact this
 ·generalize hl0 : W.heap.size + 1 = l
  rw [hl0] at hW1
  generalize hD : W.heap.size = D at *
  have hseq1:=hseq w0 l
   (fun i L1 => ∃ s L',foldO bodyf (xs.take i) s0 = some (.inl s) ∧ I s L' ∧ L1 = L' ++ [dfR D,lpR l rec0])
   (fun L1 => ∃ t e c L',st = .inr t ∧ J t e L' ∧ ((e = .ret ∧ c = Code.ret) ∨ ∃ id,e = .exit id ∧ c = Code.exit id) ∧ L1 = L' ++ [dfR D,lpR l { rec0 with state:=.done,pending:=some c }])
   ((W.alloc (.deferred (some []))).alloc (.loop rec0)) (L ++ [dfR D,lpR l rec0])
   (fun i L1 A hs hA => by
    obtain ⟨s,L',h1,h2,rfl⟩:=hs
    have h4:=hA.take L'.length
    rw [List.take_left] at h4
    exact hH A s L' h2 h4)
   ?_ ⟨s0,L,rfl,h0,rfl⟩ hW1
  ·refine hseq1.mono ?_
   rintro e W2 ⟨⟨v,rfl⟩,h2⟩
   rcases h2 with ⟨_,⟨s,L',h3,h4,rfl⟩,h5⟩ | ⟨_,⟨t,e,c,L',h3,h4,h6,rfl⟩,h5⟩
   ·rw [List.take_length,hl] at h3
    have hl2 : W2.heap[l]? = some (.loop rec0):=h5.mem getElem?_app1
    refine ⟨rec0.pending,_,run_endLoop hl2 (by rw [hrec0]; simp),?_⟩
    have hpd : rec0.pending = none:=by rw [hrec0]
    rw [hpd]
    show Q .normal _ _
    have h7:=(h5.putLoop (rec':={ rec0 with state:=.exhausted,pending:=none })).take (L'.length + 1)
    have e7 : (L' ++ [dfR D,lpR l { rec0 with state:=.exhausted,pending:=none }]).take (L'.length + 1) = L' ++ [dfR D]:=by
     rw [List.take_append]; simp [List.take_of_length_le]
    rw [e7] at h7
    exact done D s L' (Option.some.inj h3) h4 _ h7
   ·have hl2 : W2.heap[l]? = some (.loop { rec0 with state:=.done,pending:=some c }):=h5.mem getElem?_app1
    refine ⟨some c,_,run_endLoop hl2 (by simp),?_⟩
    have h7:=(h5.putLoop (rec':={ rec0 with state:=.exhausted,pending:=some c })).take (L'.length + 1)
    have e7 : (L' ++ [dfR D,lpR l { rec0 with state:=.exhausted,pending:=some c }]).take (L'.length + 1) = L' ++ [dfR D]:=by
     rw [List.take_append]; simp [List.take_of_length_le]
    rw [e7] at h7
    have h8:=stop D t e L' h3 h4 _ h7
    rcases h6 with ⟨rfl,rfl⟩ | ⟨id,rfl,rfl⟩
    ·exact wpIn_ret h8
    ·exact wpIn_exit h8
  ·rintro i x A c _ W1 hx ⟨s,L',h1,h2,rfl⟩ h3
   obtain ⟨st',hf,hft,hst⟩:=foldO_step hl h1 hx
   have h3':=h3.rot
   rw [List.append_assoc] at h3'
   have hl1 : W1.heap[l]? = some (.loop rec0):=h3'.mem getElem?_app3
   have hy:=run_yield (P:=P) (args:=#[.slice A x.length c]) hl1 (by rw [hrec0]; rfl)
   have et' : ((#[p] : Array Tmp).zip #[Value.slice A x.length c]).foldl (fun tmps (t,a) => tmps.setIfInBounds t a) (act m tm d).tmps = (act m (upd tm p (.slice A x.length c)) []).tmps:=by
    have h9 : (act m tm []).put (some p) (.slice A x.length c) = act m (upd tm p (.slice A x.length c)) []:=put_act m tm [] (some p) (.slice A x.length c)
    rw [← h9]
    simp [Act.put]
    rfl
   refine ⟨fn,_,assign,body,(by rw [hy,hrec0]),roundIn_of_wpIn (F:=Fw none) (n:=6) trivial ?_⟩
   have hr:=round D l rec0 A c s x L' st' (by rw [hrec0]) h2 hf W1 h3'
   have ea : (act m (upd tm p (.slice A x.length c)) []) = { tmps:=((#[p] : Array Tmp).zip #[Value.slice A x.length c]).foldl (fun tmps (t,a) => tmps.setIfInBounds t a) (act m tm d).tmps,defers:=[] }:=by
    rw [et']; rfl
   rw [ea] at hr
   refine wpIn_mono (F:=(Fw none).inRound l) hr ?_
   intro e a2 W2 h4
   cases e with
   | normal =>
    obtain ⟨w₂,hb,hbody⟩:=h4
    refine ⟨w₂,hb,wpIn_mono hbody ?_⟩
    intro e a3 W3 h5
    cases st' with
    | inl s' =>
     obtain ⟨rfl,L'',h6,h7⟩:=h5
     have hl3 : W3.heap[l]? = some (.loop { rec0 with state:=.busy }):=h7.mem getElem?_app3
     refine ⟨_,_,run_endRound none hl3,.inl ⟨rfl,?_⟩⟩
     refine ⟨_,⟨s',L'',hft,h6,rfl⟩,?_⟩
     have:=h7.putLoop3 (rec':=rec0)
     rw [hrec0] at this ⊢
     have h8:=Ext.torr (L:=L'' ++ [dfR D,lpR l _]) (by rw [List.append_assoc]; exact this)
     exact h8
    | inr t =>
     obtain ⟨L'',h6,h7⟩:=h5
     have hl3 : W3.heap[l]? = some (.loop { rec0 with state:=.busy }):=h7.mem getElem?_app3
     have hstt:=hst t rfl
     have cut : ∀ rec',Ext w0 (W3.putObj l (.loop rec')) (L'' ++ [dfR D,lpR l rec']):=fun rec' => by
      have:=(h7.putLoop3 (rec':=rec')).take (L''.length + 2)
      have e7 : (L'' ++ [dfR D,lpR l rec',rowR A c et 1 x.length (encL cI x)]).take (L''.length + 2) = L'' ++ [dfR D,lpR l rec']:=by
       rw [List.take_append]; simp [List.take_of_length_le]
      rw [e7] at this
      exact this
     rcases hJe t e L'' h6 with rfl | ⟨id,rfl⟩
     ·exact ⟨_,_,run_endRound (some .ret) hl3,.inr ⟨rfl,_,⟨t,.ret,.ret,L'',hstt,h6,.inl ⟨rfl,rfl⟩,rfl⟩,cut _⟩⟩
     ·exact ⟨_,_,run_endRound (some (.exit id)) hl3,.inr ⟨rfl,_,⟨t,.exit id,.exit id,L'',hstt,h6,.inr ⟨id,rfl,rfl⟩,rfl⟩,cut _⟩⟩
   | _ => exact h4.elim
end
section
variable {P : Program} {Q : Exit → Act → World → Prop} {w0 : World} {L : List Res} {m : Nat} {tm : Nat → Value} {d : List Deferred}
theorem callsIn_enterE {f : FuncId} {fn : Func} {c : Code} {vs : List Value} {W : World} {R : Ending → World → Prop} (hf : P.funcs[f]? = some fn) (hb : fn.body = some c) (hn : fn.ntmps = m) (hl : vs.length ≤ m) (hW : Ext w0 W L)
  (h : CX none 7 P c (bodyPost P fn R) w0 L m (fun i => (vs[i]?).getD undef) []) : CallsIn (Fw none) 7 P f vs.toArray W R:=by
 refine callsIn_of_wp hf hb trivial ?_ rfl
 rw [act_enter _ _ (by rw [hn]; simpa using hl),hn]
 have:=h W hW
 simpa using this
variable {ops : Array Oper} {t : Tmp} {ty : TypeId} {pos : String} {af : Array Edge} {g : Option (Nat × Bool)} {rest : List Oper}
theorem ox_yieldE {p : Res} {x : Operand} {xs : List Operand} {us : Array TypeId} {l : Nat} (vs : List Value) (A B : List Res → Prop) (hw : seesB ops m tm ⟨some t,.call ⟨.value x,xs.toArray,us⟩,ty,pos,af,g⟩ = true) (hx : opv m tm x = .func (.yield l) #[] #[]) (ha : xs.map (opv m tm) = vs)
  (hy : ∀ W,Ext w0 W L → YieldAt (Fw none) 6 P l vs.toArray W fun e W' => (e = .returned (.bool true) ∧ ∃ L',A L' ∧ Ext w0 W' (p :: L')) ∨ (e = .returned (.bool false) ∧ ∃ L',B L' ∧ Ext w0 W' L'))
  (hA : ∀ L',A L' → OX none 7 P ops Q w0 (p :: L') rest m (upd tm t (.bool true)) d) (hB : ∀ L',B L' → OX none 7 P ops Q w0 L' rest m (upd tm t (.bool false)) d) :
  OX none 7 P ops Q w0 L (⟨some t,.call ⟨.value x,xs.toArray,us⟩,ty,pos,af,g⟩ :: rest) m tm d:=fun W hW => by
 unfold OL
 rw [wanted_act,if_pos hw]
 refine ⟨fun _ _ => trivial,?_⟩
 subst ha
 obtain ⟨fn,tmps,assign,body,hr,hR⟩:=hy W hW
 have e : (execOp (opv m tm) ⟨some t,.call ⟨.value x,xs.toArray,us⟩,ty,pos,af,g⟩).run P W = .ok (.round l fn tmps assign body) W:=by
  have h9 : (Instr.yield l (xs.map (opv m tm)).toArray).run P W = .ok (.round l fn tmps assign body) W:=hr
  simp [execOp,resolve,hx,Deferred.ofValue,invoke]
  simpa using h9
 have e0 : (Fw none).round = none:=rfl
 rw [e0,semAt_exec (by intro c h; cases h),eval_act,e]
 refine ⟨(fun hd => by cases hd),?_⟩
 refine hR.mono ?_
 rintro e' W' (⟨rfl,L',h,hE⟩ | ⟨rfl,L',h,hE⟩)
 ·show OL none 7 P ops Q rest ((act m tm d).put (some t) (.bool true)) W'
  rw [put_act]
  exact hA L' h W' hE
 ·show OL none 7 P ops Q rest ((act m tm d).put (some t) (.bool false)) W'
  rw [put_act]
  exact hB L' h W' hE
end
open Go.RowKit (Below)
section
variable {r : Option Nat} {n : Nat} {P : Program} {ρ : Operand → Value} {w0 : World} {L : List Res}
variable {t : Option Tmp} {ty : TypeId} {pos : String} {af : Array Edge} {g : Option (Nat × Bool)} {C : World → Prop}
theorem y_makeFuncF {f : Fn} {first caps : List Operand} (us vs : List Value) (hf : first.map ρ = us) (hc : caps.map ρ = vs) : OpY r n P ⟨t,.makeFunc f first.toArray caps.toArray,ty,pos,af,g⟩ ρ C C (.func f us.toArray vs.toArray) :=
 opY_val (by intro c h; cases h) (fun W _ => by
  subst hf hc
  simp [execOp,Instr.makeFunc])
theorem y_callvF {f : FuncId} {x : Operand} {xs : List Operand} {us : Array TypeId} {fst caps : List Value} (vs : List Value) {v : Value} (hf : goes P f = true) (hx : ρ x = .func (.func f) fst.toArray caps.toArray) (ha : xs.map ρ = vs)
  (h : ∀ W,Ext w0 W L → Calls P f (fst ++ (vs ++ caps)).toArray W fun e W' => e = .returned v ∧ Ext W W' []) :
  OpY r n P ⟨t,.call ⟨.value x,xs.toArray,us⟩,ty,pos,af,g⟩ ρ (fun W => Ext w0 W L) (fun W => Ext w0 W L) v:=fun W hW => by
 rw [semAt_exec (by intro c h; cases h)]
 subst ha
 have e : (execOp ρ ⟨t,.call ⟨.value x,xs.toArray,us⟩,ty,pos,af,g⟩).run P W = .ok (.enter f (fst ++ (xs.map ρ ++ caps)).toArray) W:=by
  simp [execOp,resolve,hx,Deferred.ofValue,invoke,run_goes hf]
 rw [e]
 refine (h W hW).mono ?_
 rintro e W' ⟨rfl,hx⟩
 exact ⟨rfl,hW.below' hx.below⟩
end
section
variable {w0 : World} {L : List Res}
theorem Ext.split {W : World} (h : Ext w0 W L) (i : Nat) {p : Res} (hp : L[i]? = some p) (p1 p2 : Res) (h1 : p.holds W → p1.holds W ∧ p2.holds W) (hd1 : ∀ b,p1.dom b → p.dom b) (hd2 : ∀ b,p2.dom b → p.dom b) (hs : p.holds W → ∀ b,p1.dom b → ¬ p2.dom b) : Ext w0 W (L.set i p1 ++ [p2]):=by
 have hh:=h.mem hp
 have h2:=h.tell i hp (q:=p1) (fun hh => (h1 hh).1) hd1
 refine h2.snoc (h1 hh).2 (fun b hb => h.new i p hp b (hd2 b hb)) (fun j q hq b hb hb' => ?_)
 rw [List.getElem?_set] at hq
 by_cases e : i = j
 ·subst e
  rw [if_pos rfl] at hq
  split at hq
  ·cases hq; exact hs hh b hb hb'
  ·cases hq
 ·rw [if_neg e] at hq
  exact h.sep j i q p hq hp (fun e' => e e'.symm) b hb (hd2 b hb')
theorem Ext.join {W : World} {p1 p2 : Res} (h : Ext w0 W (L ++ [p2])) (i : Nat) (hp : L[i]? = some p1) (p : Res) (hh : p1.holds W → p2.holds W → (∀ b,p1.dom b → ¬ p2.dom b) → p.holds W) (hd : ∀ b,p.dom b → p1.dom b ∨ p2.dom b) : Ext w0 W (L.set i p):=by
 have hi : i < L.length:=(List.getElem?_eq_some_iff.1 hp).1
 have hp1 : (L ++ [p2])[i]? = some p1:=by rw [List.getElem?_append_left hi]; exact hp
 have hp2 : (L ++ [p2])[L.length]? = some p2:=by simp
 have hget : ∀ (k : Nat) (q : Res),(L.set i p)[k]? = some q → (k = i ∧ q = p) ∨ (k ≠ i ∧ k < L.length ∧ (L ++ [p2])[k]? = some q):=by
  intro k q hq
  by_cases e : i = k
  ·subst e
   rw [List.getElem?_set_self hi] at hq
   cases hq
   exact .inl ⟨rfl,rfl⟩
  ·rw [List.getElem?_set_ne e] at hq
   have hq' : (L.set i p)[k]? = some q:=by rw [List.getElem?_set_ne e]; exact hq
   have hk : k < L.length:=(List.getElem?_eq_some_iff.1 hq).1
   exact .inr ⟨fun e' => e e'.symm,hk,by rw [List.getElem?_append_left hk]; exact hq⟩
 refine ⟨h.below,fun k q hq => ?_,fun k q hq b hb => ?_,fun k l q q' hq hq' hne b hb hb' => ?_⟩
 ·rcases hget k q hq with ⟨_,rfl⟩ | ⟨_,_,h3⟩
  ·exact hh (h.all i p1 hp1) (h.all _ p2 hp2) (h.sep i L.length p1 p2 hp1 hp2 (by omega))
  ·exact h.all k q h3
 ·rcases hget k q hq with ⟨_,rfl⟩ | ⟨_,_,h3⟩
  ·rcases hd b hb with h4 | h4
   ·exact h.new i p1 hp1 b h4
   ·exact h.new _ p2 hp2 b h4
  ·exact h.new k q h3 b hb
 ·rcases hget k q hq with ⟨a1,rfl⟩ | ⟨a1,a2,a3⟩ <;> rcases hget l q' hq' with ⟨b1,rfl⟩ | ⟨b1,b2,b3⟩
  ·omega
  ·rcases hd b hb with h4 | h4
   ·exact h.sep i l p1 q' hp1 b3 (fun e => b1 e.symm) b h4 hb'
   ·exact h.sep _ l p2 q' hp2 b3 (by omega) b h4 hb'
  ·rcases hd b hb' with h4 | h4
   ·exact h.sep k i q p1 a3 hp1 a1 b hb h4
   ·exact h.sep k _ q p2 a3 hp2 (by omega) b hb h4
  ·exact h.sep k l q q' a3 b3 hne b hb hb'
end
def nilHd : Hd:=(none,0,0)
def hdV (h : Hd) : Value:=.slice h.1 h.2.1 h.2.2
section
variable {κ γ : Type} [DecidableEq κ]
structure HsOk (hs : List (κ × Hd)) (vs : List (κ × List γ)) : Prop where
 len : hs.length = vs.length
 eq : ∀ k,(mgetV nilHd hs k).2.1 = (mgetV [] vs k).length
theorem HsOk.nil : HsOk ([] : List (κ × Hd)) ([] : List (κ × List γ)):=⟨rfl,fun _ => rfl⟩
theorem HsOk.cons {hs : List (κ × Hd)} {vs : List (κ × List γ)} {k : κ} {h : Hd} {v : List γ} (ho : HsOk hs vs) (hv : h.2.1 = v.length) : HsOk ((k,h) :: hs) ((k,v) :: vs):=by
 refine ⟨by simp [ho.len],fun q => ?_⟩
 unfold mgetV
 split
 ·exact hv
 ·exact ho.eq q
theorem mgetV_same {β : Type} {z v : β} {k : κ} {m : List (κ × β)} : mgetV z ((k,v) :: m) k = v:=by unfold mgetV; rw [if_pos rfl]
theorem mgetV_other {β : Type} {z v : β} {k q : κ} {m : List (κ × β)} (h : q ≠ k) : mgetV z ((k,v) :: m) q = mgetV z m q:=by
 show (if k = q then v else mgetV z m q) = _
 rw [if_neg (fun e => h e.symm)]
def rowsX (e : TypeId) (sz : Nat) (ic : γ → List Value) (hs : List (κ × Hd)) (vs : List (κ × List γ)) (X : κ → Prop) : Res where
 dom c:=∃ k,¬ X k ∧ (rowR (mgetV nilHd hs k).1 (mgetV nilHd hs k).2.2 e sz (mgetV nilHd hs k).2.1 (encL ic (mgetV [] vs k))).dom c
 holds W:=(∀ k,¬ X k → (rowR (mgetV nilHd hs k).1 (mgetV nilHd hs k).2.2 e sz (mgetV nilHd hs k).2.1 (encL ic (mgetV [] vs k))).holds W) ∧
  ∀ k k',¬ X k → ¬ X k' → k ≠ k' → ∀ c,(rowR (mgetV nilHd hs k).1 (mgetV nilHd hs k).2.2 e sz (mgetV nilHd hs k).2.1 (encL ic (mgetV [] vs k))).dom c → ¬ (rowR (mgetV nilHd hs k').1 (mgetV nilHd hs k').2.2 e sz (mgetV nilHd hs k').2.1 (encL ic (mgetV [] vs k'))).dom c
 loc W W' h hs hh:=⟨fun k hk => Res.loc _ W W' (fun b hb => h b ⟨k,hk,hb⟩) hs (hh.1 k hk),hh.2⟩
 inb W hh b hb:=by
  obtain ⟨k,hk,hb⟩:=hb
  exact Res.inb _ W (hh.1 k hk) b hb
def rowsS (e : TypeId) (sz : Nat) (ic : γ → List Value) (hs : List (κ × Hd)) (vs : List (κ × List γ)) : Res:=rowsX e sz ic hs vs (fun _ => False)
variable {w0 : World} {L : List Res} {e : TypeId} {sz : Nat} {ic : γ → List Value} {hs : List (κ × Hd)} {vs : List (κ × List γ)}
theorem rowsS_same {W : World} {k : κ} (hh : (rowsS e sz ic ((k,((mgetV nilHd hs k).1,(mgetV nilHd hs k).2.1,(mgetV nilHd hs k).2.2)) :: hs) ((k,mgetV [] vs k) :: vs)).holds W) : (rowsS e sz ic hs vs).holds W:=by
 have ee : ∀ q : κ,mgetV nilHd ((k,((mgetV nilHd hs k).1,(mgetV nilHd hs k).2.1,(mgetV nilHd hs k).2.2)) :: hs) q = mgetV nilHd hs q:=fun q => by
  by_cases e1 : q = k
  ·subst e1; rw [mgetV_same]
  ·rw [mgetV_other e1]
 have ev : ∀ q : κ,mgetV [] ((k,mgetV [] vs k) :: vs) q = mgetV [] vs q:=fun q => by
  by_cases e1 : q = k
  ·subst e1; rw [mgetV_same]
  ·rw [mgetV_other e1]
 refine ⟨fun q _ => ?_,fun q q' _ _ hne => ?_⟩
 ·have:=hh.1 q (fun h => h)
  rw [ee,ev] at this
  exact this
 ·have:=hh.2 q q' (fun h => h) (fun h => h) hne
  rw [ee,ee,ev,ev] at this
  exact this
theorem RdL.rows (ho : HsOk hs vs) (i : Nat) (hL : L[i]? = some (rowsS e sz ic hs vs)) (k : κ) : RdL w0 L (mgetV nilHd hs k).1 (mgetV [] vs k).length (mgetV nilHd hs k).2.2 (encL ic (mgetV [] vs k)):=fun W hW =>
 ho.eq k ▸ rowR_rd ((hW.mem hL).1 k (fun h => h))
theorem Ext.rowsOpen {W : World} (h : Ext w0 W L) (i : Nat) (hL : L[i]? = some (rowsS e sz ic hs vs)) (k : κ) : Ext w0 W (L.set i (rowsX e sz ic hs vs (fun q => q = k)) ++ [rowR (mgetV nilHd hs k).1 (mgetV nilHd hs k).2.2 e sz (mgetV nilHd hs k).2.1 (encL ic (mgetV [] vs k))]) :=
 h.split i hL _ _ (fun hh => ⟨⟨fun q _ => hh.1 q (fun h => h),fun q q' _ _ => hh.2 q q' (fun h => h) (fun h => h)⟩,hh.1 k (fun h => h)⟩) (fun b hb => by obtain ⟨q,_,hb⟩:=hb; exact ⟨q,fun h => h,hb⟩) (fun b hb => ⟨k,fun h => h,hb⟩)
  (fun hh b hb hb' => by obtain ⟨q,hq,hb⟩:=hb; exact hh.2 q k (fun h => h) (fun h => h) hq b hb hb')
theorem Ext.rowsClose {W : World} {k : κ} {A : Option Addr} {n c : Nat} {v : List γ} (i : Nat) (hi : i < L.length) (h : Ext w0 W (L.set i (rowsX e sz ic hs vs (fun q => q = k)) ++ [rowR A c e sz n (encL ic v)])) : Ext w0 W (L.set i (rowsS e sz ic ((k,(A,n,c)) :: hs) ((k,v) :: vs))):=by
 have hp : (L.set i (rowsX e sz ic hs vs (fun q => q = k)))[i]? = some (rowsX e sz ic hs vs (fun q => q = k)):=by simp [hi]
 have:=h.join i hp (rowsS e sz ic ((k,(A,n,c)) :: hs) ((k,v) :: vs)) (fun h1 h2 h3 => ?_) (fun b hb => ?_)
 ·rw [List.set_set] at this
  exact this
 ·refine ⟨fun q _ => ?_,fun q q' _ _ hne b hb hb' => ?_⟩
  ·by_cases e1 : q = k
   ·subst e1
    rw [mgetV_same,mgetV_same]
    exact h2
   ·rw [mgetV_other e1,mgetV_other e1]
    exact h1.1 q e1
  ·by_cases e1 : q = k <;> by_cases e2 : q' = k
   ·exact hne (e1.trans e2.symm)
   ·subst e1
    rw [mgetV_same,mgetV_same] at hb
    rw [mgetV_other e2,mgetV_other e2] at hb'
    exact h3 b ⟨q',e2,hb'⟩ hb
   ·subst e2
    rw [mgetV_same,mgetV_same] at hb'
    rw [mgetV_other e1,mgetV_other e1] at hb
    exact h3 b ⟨q,e1,hb⟩ hb'
   ·rw [mgetV_other e1,mgetV_other e1] at hb
    rw [mgetV_other e2,mgetV_other e2] at hb'
    exact h1.2 q q' e1 e2 hne b hb hb'
 ·obtain ⟨q,_,hb⟩:=hb
  by_cases e1 : q = k
  ·subst e1
   rw [mgetV_same,mgetV_same] at hb
   exact .inr hb
  ·rw [mgetV_other e1,mgetV_other e1] at hb
   exact .inl ⟨q,e1,hb⟩
end
section
variable {r : Option Nat} {n : Nat} {P : Program} {ops : Array Oper} {Q : Exit → Act → World → Prop} {w0 : World} {L : List Res} {m : Nat} {tm : Nat → Value} {d : List Deferred}
variable {t : Tmp} {ty : TypeId} {pos : String} {af : Array Edge} {g : Option (Nat × Bool)} {l rest : List Oper}
variable {κ γ : Type} [DecidableEq κ] {ek : κ → Value} {ok : κ → Bool} {e : TypeId} {sz : Nat} {ic : γ → List Value} {hs : List (κ × Hd)} {vs : List (κ × List γ)}
theorem ox_makeMapS (kt : TypeId) (ek : κ → Value) (ok : κ → Bool) (e : TypeId) (sz : Nat) (ic : γ → List Value) {mt : TypeId} (hw : seesB ops m tm ⟨some t,.makeMap mt none,ty,pos,af,g⟩ = true)
  (h : ∀ b,OX r n P ops Q w0 (L ++ [mapV P kt ek ok hdV nilHd b ([] : List (κ × Hd)),rowsS e sz ic ([] : List (κ × Hd)) ([] : List (κ × List γ))]) rest m (upd tm t (.map (some b))) d) : OX r n P ops Q w0 L (⟨some t,.makeMap mt none,ty,pos,af,g⟩ :: rest) m tm d :=
 ox_makeMapV kt ek ok hdV nilHd hw (fun b => ox_perm (fun W hW => by
  have hd0 : ∀ c,¬ (rowsS e sz ic ([] : List (κ × Hd)) ([] : List (κ × List γ))).dom c:=fun c hc => by
   obtain ⟨k,_,a,ha,_⟩:=hc
   cases ha
  have:=hW.snoc (p:=rowsS e sz ic ([] : List (κ × Hd)) ([] : List (κ × List γ))) ⟨fun k _ => ⟨by simp [mgetV,encL,nilHd],.inl ⟨rfl,rfl⟩⟩,fun k k' _ _ _ c hc _ => hd0 c ⟨k,fun h => h,hc⟩⟩ (fun c hc => absurd hc (hd0 c)) (fun i q _ c _ hc => hd0 c hc)
  rw [List.append_assoc] at this
  exact this) (h b))
section
variable {ρ : Operand → Value} {t' : Option Tmp}
theorem y_lookupS {kt et mt b : Nat} {x y : Operand} {k : κ} (ho : HsOk hs vs) (hM : MpL w0 L (mapV P kt ek ok hdV nilHd b hs)) (K : KeyE P kt ek ok) (hm : P.underlying mt = some (.map kt et)) (hz : zeroOf P et = some (.slice none 0 0))
  (hx : ρ x = .map (some b)) (hy : ρ y = ek k) (hr : ok k = true) :
  OpY r n P ⟨t',.lookup mt x y false,ty,pos,af,g⟩ ρ (fun W => Ext w0 W L) (fun W => Ext w0 W L) (.slice (mgetV nilHd hs k).1 (mgetV [] vs k).length (mgetV nilHd hs k).2.2):=by
 have:=y_lookupV (r:=r) (n:=n) (t:=t') (ty:=ty) (pos:=pos) (af:=af) (g:=g) hM K hm hz hx hy hr
 rw [← ho.eq k]
 exact this
end
theorem ox_appendS (i : Nat) (k : κ) {ys : List γ} {x y : Operand} {u : TypeId} {B : Option Addr} {c' q : Nat} {by' : Nat} {z : Value} (hu : P.underlying u = some (.slice e)) (hz : zeroOf P e = some z) (hb : bytesB P e z sz by' = true)
  (ho : HsOk hs vs) (hL : L[i]? = some (rowsS e sz ic hs vs)) (hx : opv m tm x = .slice (mgetV nilHd hs k).1 (mgetV [] vs k).length (mgetV nilHd hs k).2.2) (hy : opv m tm y = .slice B q c') (hR : RdL w0 L B q c' (encL ic ys)) (hn : (encL ic ys).length = q * sz) (h1 : ((encL ic ys).all (·.oneCell')) = true) (hg : ((mgetV [] vs k).length + q) * by' ≤ 140737488355328)
  (hw : seesB ops m tm ⟨some t,.call ⟨.builtin .append,#[x,y],#[u,u]⟩,ty,pos,af,g⟩ = true)
  (h : ∀ A' c',OX r n P ops Q w0 (L.set i (rowsS e sz ic ((k,(A',(mgetV [] vs k).length + q,c')) :: hs) ((k,mgetV [] vs k ++ ys) :: vs))) rest m (upd tm t (.slice A' ((mgetV [] vs k).length + q) c')) d) :
  OX r n P ops Q w0 L (⟨some t,.call ⟨.builtin .append,#[x,y],#[u,u]⟩,ty,pos,af,g⟩ :: rest) m tm d:=by
 have hi : i < L.length:=(List.getElem?_eq_some_iff.1 hL).1
 rw [← ho.eq k] at hx hg h
 refine ox_perm (L':=L.set i (rowsX e sz ic hs vs (fun q => q = k)) ++ [rowR (mgetV nilHd hs k).1 (mgetV nilHd hs k).2.2 e sz (mgetV nilHd hs k).2.1 (encL ic (mgetV [] vs k))]) (fun W hW => hW.rowsOpen i hL k) ?_
 have hLk : (L.set i (rowsX e sz ic hs vs (fun q => q = k)) ++ [rowR (mgetV nilHd hs k).1 (mgetV nilHd hs k).2.2 e sz (mgetV nilHd hs k).2.1 (encL ic (mgetV [] vs k))])[L.length]? = some (rowR (mgetV nilHd hs k).1 (mgetV nilHd hs k).2.2 e sz (mgetV nilHd hs k).2.1 (encL ic (mgetV [] vs k))):=by
  rw [List.getElem?_append_right (by simp)]
  simp
 refine ox_append0 L.length hu hz hb hLk hx hy (fun W hW => ?_) hn h1 hg hw (fun A' c' => ?_)
 ·have h2:=Ext.rowsClose (k:=k) i hi hW
  have h3:=h2.tell i (p:=rowsS e sz ic ((k,((mgetV nilHd hs k).1,(mgetV nilHd hs k).2.1,(mgetV nilHd hs k).2.2)) :: hs) ((k,mgetV [] vs k) :: vs)) (by rw [List.getElem?_set_self hi]) (q:=rowsS e sz ic hs vs) (fun hh => rowsS_same hh) (fun b hb => by
   obtain ⟨q,_,hb⟩:=hb
   refine ⟨q,fun h => h,?_⟩
   by_cases e1 : q = k
   ·subst e1
    rw [mgetV_same,mgetV_same]; exact hb
   ·rw [mgetV_other e1,mgetV_other e1]; exact hb)
  rw [List.set_set] at h3
  have e2 : L.set i (rowsS e sz ic hs vs) = L:=by
   obtain ⟨hi,he⟩:=List.getElem?_eq_some_iff.1 hL
   rw [← he,List.set_getElem_self]
  rw [e2] at h3
  exact hR W h3
 ·have e3 : ∀ R : Res,(L.set i (rowsX e sz ic hs vs (fun q => q = k)) ++ [rowR (mgetV nilHd hs k).1 (mgetV nilHd hs k).2.2 e sz (mgetV nilHd hs k).2.1 (encL ic (mgetV [] vs k))]).set L.length R = L.set i (rowsX e sz ic hs vs (fun q => q = k)) ++ [R]:=fun R => by
   rw [List.set_append_right _ _ (by simp)]
   simp
  rw [e3]
  exact ox_perm (fun W hW => Ext.rowsClose i hi hW) (h A' c')
end
open Go.RowKit (Below)
section
variable {κ β γ : Type} [DecidableEq κ]
variable {P : Program} {kt : TypeId} {ek : κ → Value} {ok : κ → Bool} {ev : β → Value} {z : β} {b : Nat}
theorem ownsMap_tight {W : World} {n : Nat} {D : DataW Value} (h : W.ownsMap P kt rawR b n D) : W.ownsMap P kt rawR b (Maps.size D) D:=by
 obtain ⟨es,clock,hb,F,hs,rfl⟩:=h
 exact ⟨es,clock,hb,F,by simp [Maps.size,length_sorted],rfl⟩
theorem ranges_tight {W : World} {it n cnt : Nat} {D : DataW Value} {lf : Lit → Bool} (h : W.ranges P kt rawR b it n D lf cnt) : W.ranges P kt rawR b it (Maps.size D) D lf cnt:=by
 obtain ⟨es,clock,since,seen,c0,hb,F,hs,rfl,h2⟩:=h
 exact ⟨es,clock,since,seen,c0,hb,F,by simp [Maps.size,length_sorted],rfl,h2⟩
theorem ranges_mono {W : World} {it n n' cnt : Nat} {D : DataW Value} {lf : Lit → Bool} (h : W.ranges P kt rawR b it n D lf cnt) (hn : n ≤ n') : W.ranges P kt rawR b it n' D lf cnt:=by
 obtain ⟨es,clock,since,seen,c0,hb,F,hs,hD,h2⟩:=h
 exact ⟨es,clock,since,seen,c0,hb,F,Nat.le_trans hs hn,hD,h2⟩
theorem size_le_keys {W : World} {n : Nat} {D : DataW Value} (K : KeyE P kt ek ok) (h : W.ownsMap P kt rawR b n D) {m : List (κ × β)} (h3 : ∀ x l,ok x = true → keyOf P kt (ek x) = some l → Maps.has D l = true → mhasV m x = true) (h4 : ∀ l,Maps.has D l = true → ∃ x,ok x = true ∧ keyOf P kt (ek x) = some l) : Maps.size D ≤ m.length:=by
 obtain ⟨es,rfl,hp,hk⟩:=h.entries K.keyed
 have hn : (es.map Prod.fst).Nodup:=by
  rw [List.Nodup,List.pairwise_map]
  exact hp
 have hs : ∀ l ∈ es.map Prod.fst,l ∈ (m.map Prod.fst).filterMap fun x => keyOf P kt (ek x):=fun l hl => by
  obtain ⟨p,hpm,rfl⟩:=List.mem_map.1 hl
  have hh : Maps.has (.map es) p.1 = true:=by
   rw [Maps.has_eq]
   exact List.any_eq_true.2 ⟨p,hpm,WideAt.sameKey_self (hk p hpm)⟩
  obtain ⟨x,hx,hxl⟩:=h4 _ hh
  exact List.mem_filterMap.2 ⟨x,mhas_mem.1 (h3 x _ hx hxl hh),hxl⟩
 have h1:=nodup_len hn hs
 have h2:=List.length_filterMap_le (fun x => keyOf P kt (ek x)) (m.map Prod.fst)
 rw [List.length_map] at h1 h2
 have : Maps.size (.map es) = es.length:=rfl
 omega
theorem mapV_ext {W : World} (K : KeyE P kt ek ok) {m m' : List (κ × β)} (h : (mapV P kt ek ok ev z b m).holds W) (he : ∀ q,ok q = true → mgetV z m q = mgetV z m' q ∧ mhasV m q = mhasV m' q) : (mapV P kt ek ok ev z b m').holds W:=by
 obtain ⟨D,h1,h2,h3,h4⟩:=h
 have h3' : ∀ x l,ok x = true → keyOf P kt (ek x) = some l → D.atKey l (.held (ev z)) = .held (ev (mgetV z m' x)) ∧ Maps.has D l = mhasV m' x:=fun x l hx hl => by
  rw [← (he x hx).1,← (he x hx).2]
  exact h3 x l hx hl
 exact ⟨D,(ownsMap_tight h1).mono (size_le_keys K h1 (fun x l hx hl hh => by rw [← (h3' x l hx hl).2]; exact hh) h4),h2,h3',h4⟩
end
section
variable {r : Option Nat} {n : Nat} {P : Program} {ρ : Operand → Value} {w0 : World} {L : List Res}
variable {ty : TypeId} {pos : String} {af : Array Edge} {g : Option (Nat × Bool)}
variable {κ β : Type} [DecidableEq κ] {kt : TypeId} {ek : κ → Value} {ok : κ → Bool} {ev : β → Value} {z : β}
theorem del_facts {D : DataW Value} (K : KeyE P kt ek ok) {m : List (κ × β)} {k : κ} {kl : Lit} (hk : ok k = true) (hkl : keyOf P kt (ek k) = some kl)
  (h3 : ∀ x l,ok x = true → keyOf P kt (ek x) = some l → D.atKey l (.held (ev z)) = .held (ev (mgetV z m x)) ∧ Maps.has D l = mhasV m x) (h4 : ∀ l,Maps.has D l = true → ∃ x,ok x = true ∧ keyOf P kt (ek x) = some l) :
  (∀ x l,ok x = true → keyOf P kt (ek x) = some l → (D.del kl).atKey l (.held (ev z)) = .held (ev (mgetV z (mdelV m k) x)) ∧ Maps.has (D.del kl) l = mhasV (mdelV m k) x) ∧ ∀ l,Maps.has (D.del kl) l = true → ∃ x,ok x = true ∧ keyOf P kt (ek x) = some l:=by
 refine ⟨fun x l hx hl => ?_,fun l hl => ?_⟩
 ·rw [mget_del,mhas_del]
  by_cases e : x = k
  ·subst e
   have e2 : l = kl:=by rw [hl] at hkl; exact Option.some.inj hkl
   subst e2
   rw [Maps.atKey_del_same,Maps.has_del_same]
   simp
  ·have hne : l ≠ kl:=fun e2 => e (K.inj x k (K.keyed.inj hl (e2 ▸ hkl)))
   rw [Maps.atKey_del_other hne,Maps.has_del_other hne,(h3 x l hx hl).1,(h3 x l hx hl).2]
   simp [e]
 ·by_cases e : l = kl
  ·subst e; rw [Maps.has_del_same] at hl; cases hl
  ·rw [Maps.has_del_other e] at hl
   exact h4 l hl
theorem y_deleteV (i : Nat) {et mt b : Nat} {m : List (κ × β)} {x y : Operand} {k : κ} (hL : L[i]? = some (mapV P kt ek ok ev z b m)) (K : KeyE P kt ek ok) (hm : P.underlying mt = some (.map kt et)) (hx : ρ x = .map (some b)) (hy : ρ y = ek k) (hr : ok k = true) :
  OpY r n P ⟨none,.call ⟨.builtin .delete,#[x,y],#[mt,kt]⟩,ty,pos,af,g⟩ ρ (fun W => Ext w0 W L) (fun W => Ext w0 W (L.set i (mapV P kt ek ok ev z b (mdelV m k)))) (.tuple #[]):=fun W hW => by
 obtain ⟨D,h1,h2,h3,h4⟩:=hW.mem hL
 obtain ⟨l,hl⟩:=K.tot k hr
 obtain ⟨W',hrun,hown,htn⟩:=h1.drop K.keyed hm hl ty
 obtain ⟨f3,f4⟩:=del_facts K hr hl h3 h4
 have hg:=htn.grown
 have e1 : (execOp ρ ⟨none,.call ⟨.builtin .delete,#[x,y],#[mt,kt]⟩,ty,pos,af,g⟩).run P W = .ok (.value (.tuple #[])) W':=by
  simp only [execOp,resolve,invoke,builtin]
  simp [hx,hy,hrun]
 rw [semAt_exec (by intro c h; cases h),e1]
 refine ⟨rfl,hW.set hL _ ⟨_,(ownsMap_tight hown).mono (size_le_keys K hown (fun x l hx hl hh => by rw [← (f3 x l hx hl).2]; exact hh) f4),h2.del _,f3,f4⟩ hg.os hg.tape hg.output hg.size (fun c hc hn => hg.block c hc (fun e => hn (by cases e; rfl))) (fun c hc => .inl hc)⟩
end
section
variable {r : Option Nat} {n : Nat} {P : Program} {ops : Array Oper} {Q : Exit → Act → World → Prop} {w0 : World} {L : List Res} {m : Nat} {tm : Nat → Value} {d : List Deferred}
variable {ty : TypeId} {pos : String} {af : Array Edge} {g : Option (Nat × Bool)} {rest : List Oper} {e : Exit}
variable {κ β : Type} [DecidableEq κ] {kt : TypeId} {ek : κ → Value} {ok : κ → Bool} {ev : β → Value} {z : β}
theorem ox_deleteR (i : Nat) {et mt b it c : Nat} {M : List (κ × β)} {left : κ → Bool} {cur : Option (Value × Value)} {x y : Operand} {k : κ} (hL : L[i]? = some (rngV P kt ek ok ev z b it M left c cur)) (K : KeyE P kt ek ok) (hm : P.underlying mt = some (.map kt et)) (hx : opv m tm x = .map (some b)) (hy : opv m tm y = ek k) (hr : ok k = true) (hlk : left k = false)
  (hw : seesB ops m tm ⟨none,.call ⟨.builtin .delete,#[x,y],#[mt,kt]⟩,ty,pos,af,g⟩ = true)
  (h : ∀ c',c' ≤ c → OX r n P ops Q w0 (L.set i (rngV P kt ek ok ev z b it (mdelV M k) left c' none)) rest m tm d) :
  OX r n P ops Q w0 L (⟨none,.call ⟨.builtin .delete,#[x,y],#[mt,kt]⟩,ty,pos,af,g⟩ :: rest) m tm d:=fun W hW => by
 obtain ⟨⟨D,lf,h1,h2,h3,h4,h5,h6⟩,_⟩:=hW.mem hL
 obtain ⟨kl,hkl⟩:=K.tot k hr
 obtain ⟨W',c',hrun,hown,hc',htn⟩:=h1.drop K.keyed hm hkl ty
 obtain ⟨f3,f4⟩:=del_facts K hr hkl h3 h4
 have hg:=htn.grown
 have e1 : (execOp (opv m tm) ⟨none,.call ⟨.builtin .delete,#[x,y],#[mt,kt]⟩,ty,pos,af,g⟩).run P W = .ok (.value (.tuple #[])) W':=by
  simp only [execOp,resolve,invoke,builtin]
  simp [hx,hy,hrun]
 have hlf : ∀ l,(lf l && !l.sameKey kl) = lf l:=fun l => by
  by_cases hh : Maps.has D l = true
  ·obtain ⟨q,hq,hql⟩:=h4 l hh
   cases hs : l.sameKey kl with
   | false => simp
   | true =>
    have e4:=WideAt.sameKey_eq hs
    have e5 : q = k:=K.inj q k (K.keyed.inj hql (e4 ▸ hkl))
    subst e5
    rw [h5 q l hq hql,hlk]
    rfl
  ·cases hf : lf l with
   | false => rfl
   | true => exact absurd (h6 l hf) hh
 have hown2 : W'.ranges P kt rawR b it M.length (D.del kl) lf c':=by
  have e6 : (fun x => lf x && !x.sameKey kl) = lf:=funext hlf
  rw [e6] at hown
  exact hown
 have h8 : (rngV P kt ek ok ev z b it (mdelV M k) left c' none).holds W':=by
  refine ⟨⟨_,lf,ranges_mono (ranges_tight hown2) (size_le_keys K hown2.owns (fun x l hx hl hh => by rw [← (f3 x l hx hl).2]; exact hh) f4),h2.del _,f3,f4,h5,fun l hl => ?_⟩,fun q hq => by cases hq⟩
  have h9:=h6 l hl
  by_cases e7 : l = kl
  ·subst e7
   have h10:=hlf l
   rw [hl,WideAt.sameKey_self (K.keyed.key hkl)] at h10
   cases h10
  ·rw [Maps.has_del_other e7]
   exact h9
 have hE : Ext w0 W' (L.set i (rngV P kt ek ok ev z b it (mdelV M k) left c' none)) :=
  hW.set hL _ h8 hg.os hg.tape hg.output hg.size (fun c hc hn => hg.block c hc (fun e => hn (.inl (by cases e; rfl)))) (fun c hc => .inl hc)
 unfold OL
 rw [wanted_act,if_pos hw]
 refine ⟨fun _ _ => trivial,?_⟩
 show Oper.uponIn (Fw r) n P _ _ _ Q ((Oper.semAt r (act m tm d).eval _).run P W)
 rw [semAt_exec (by intro c h; cases h),eval_act,e1]
 exact h c' hc' W' hE
theorem ex_rngNone (i : Nat) {b it c : Nat} {M : List (κ × β)} {left : κ → Bool} {cur : Option (Value × Value)} (hL : L[i]? = some (rngV P kt ek ok ev z b it M left c cur)) (h : EX Q e w0 (L.set i (rngV P kt ek ok ev z b it M left c none)) m tm d) : EX Q e w0 L m tm d:=fun W hW =>
 h W (hW.tell i hL (fun hh => ⟨hh.1,fun q hq => by cases hq⟩) (fun b hb => hb))
theorem ex_rngEnd (i : Nat) {b it c : Nat} {M : List (κ × β)} {left : κ → Bool} {cur : Option (Value × Value)} (hL : L[i]? = some (rngV P kt ek ok ev z b it M left c cur)) (h : EX Q e w0 (L.set i (mapV P kt ek ok ev z b M)) m tm d) : EX Q e w0 L m tm d:=fun W hW => h W (hW.rangeEnd i hL)
theorem ex_mapExt (i : Nat) {b : Nat} {M : List (κ × β)} (M' : List (κ × β)) (K : KeyE P kt ek ok) (hL : L[i]? = some (mapV P kt ek ok ev z b M)) (he : ∀ q,ok q = true → mgetV z M q = mgetV z M' q ∧ mhasV M q = mhasV M' q) (h : EX Q e w0 (L.set i (mapV P kt ek ok ev z b M')) m tm d) : EX Q e w0 L m tm d:=fun W hW =>
 h W (hW.tell i hL (fun hh => mapV_ext K hh he) (fun b hb => hb))
end
section
variable {P : Program} {κ β : Type} [DecidableEq κ] {kt : TypeId} {ek : κ → Value} {ok : κ → Bool} {ev : β → Value} {z : β}
theorem rngV_at {W W' : World} {b it c : Nat} {M : List (κ × β)} {left : κ → Bool} {cur : Option (Value × Value)} (hh : (rngV P kt ek ok ev z b it M left c cur).holds W) (hb : W'.heap[b]? = W.heap[b]?) (hi : W'.heap[it]? = W.heap[it]?) : (rngV P kt ek ok ev z b it M left c cur).holds W':=by
 obtain ⟨⟨D,lf,⟨es,clock,since,seen,c0,hb0,F,hs,hD,hr,rest⟩,h2⟩,h3⟩:=hh
 exact ⟨⟨D,lf,⟨es,clock,since,seen,c0,hb.trans hb0,F,hs,hD,hi.trans hr,rest⟩,h2⟩,fun q hq => entry_at hr hb0 (hi.trans hr) (hb.trans hb0) (h3 q hq)⟩
theorem rngV_next {W : World} {b it c : Nat} {M : List (κ × β)} {left : κ → Bool} {cur : Option (Value × Value)} (K : KeyE P kt ek ok) (hh : (rngV P kt ek ok ev z b it M left c cur).holds W) (ty : TypeId) :
  ((∀ y,ok y = true → left y = false) ∧ (Instr.next (.pointer (some ⟨it,0,none⟩)) false ty).run P W = .ok (.tuple #[.bool false]) W) ∨
  ∃ y W' c',ok y = true ∧ left y = true ∧ mhasV M y = true ∧ c' < c ∧ (Instr.next (.pointer (some ⟨it,0,none⟩)) false ty).run P W = .ok (.tuple #[.bool true,ek y,ev (mgetV z M y)]) W' ∧ (rngV P kt ek ok ev z b it M (fun q => left q && !decide (q = y)) c' (some (ek y,ev (mgetV z M y)))).holds W' ∧ W.grownBy W' (some it):=by
 obtain ⟨⟨D,lf,hr,h2,h3,h4,h5,h6⟩,_⟩:=hh
 rcases hr.next K.keyed ty with ⟨_,hl,hrun⟩ | ⟨key,v,kl,y0,W',k',hkey,hlk,hv,hat,hrun,hr',hk',hg,hs,hen⟩
 ·refine .inl ⟨fun y hy => ?_,hrun⟩
  obtain ⟨l,hl'⟩:=K.tot y hy
  rw [← h5 y l hy hl']
  exact hl l
 ·obtain ⟨y,hy,hyl⟩:=h4 kl (h6 kl hlk)
  have hke : key = ek y:=K.keyed.inj hkey hyl
  have hva : v = ev (mgetV z M y):=by
   have e1:=(h3 y kl hy hyl).1
   rw [hat] at e1
   have e2 : y0 = (.held v,[]):=(Option.some.inj hv).symm
   rw [e2] at e1
   simp only [DataW.held.injEq] at e1
   exact e1
  subst hke hva
  refine .inr ⟨y,W',k',hy,by rw [← h5 y kl hy hyl]; exact hlk,by rw [← (h3 y kl hy hyl).2]; exact h6 kl hlk,hk',hrun,⟨⟨D,_,hr',h2,h3,h4,fun q l hq hl => ?_,fun l hl => ?_⟩,fun q hq => by cases hq; exact hen⟩,hg⟩
  ·show (lf l && !l.sameKey kl) = (left q && !decide (q = y))
   rw [h5 q l hq hl]
   by_cases e : q = y
   ·subst e
    have e3 : l = kl:=by rw [hl] at hyl; exact Option.some.inj hyl
    rw [e3,WideAt.sameKey_self (K.keyed.key hyl)]
    simp
   ·have e3 : l.sameKey kl = false:=by
     cases hsk : l.sameKey kl with
     | false => rfl
     | true =>
      have e4:=WideAt.sameKey_eq hsk
      exact absurd (K.inj q y (K.keyed.inj hl (e4 ▸ hyl))) e
    rw [e3]
    simp [e]
  ·have hl2 : (lf l && !l.sameKey kl) = true:=hl
   rw [Bool.and_eq_true] at hl2
   exact h6 l hl2.1
def rngA (w0 : World) (P : Program) (kt : TypeId) (ek : κ → Value) (ok : κ → Bool) (ev : β → Value) (z : β) (b it : Nat) (M : List (κ × β)) (left : κ → Bool) (c : Nat) (cur : Option (Value × Value)) : Res where
 dom x:=x = it
 holds W:=it < W.heap.size ∧ ∀ W',W'.heap[it]? = W.heap[it]? → W'.heap[b]? = w0.heap[b]? → (rngV P kt ek ok ev z b it M left c cur).holds W'
 loc W W' h hs hh:=⟨Nat.lt_of_lt_of_le hh.1 hs,fun W2 h1 h2 => hh.2 W2 (h1.trans (h it rfl)) h2⟩
 inb W hh x hx:=by
  have hx' : x = it:=hx
  rw [hx']
  exact hh.1
theorem Cy.rngA {B : Nat} {w0 : World} {b it c : Nat} {M : List (κ × β)} {left : κ → Bool} {cur : Option (Value × Value)} (h : it < B) : Cy B (rngA w0 P kt ek ok ev z b it M left c cur):=fun W x _ hx => by
 have hx' : x = it:=hx
 exact .inl (by omega)
end
section
variable {r : Option Nat} {n : Nat} {P : Program} {ops : Array Oper} {Q : Exit → Act → World → Prop} {w0 : World} {L : List Res} {m : Nat} {tm : Nat → Value} {d : List Deferred}
variable {t : Tmp} {ty : TypeId} {pos : String} {af : Array Edge} {g : Option (Nat × Bool)} {rest : List Oper} {e : Exit}
variable {κ β : Type} [DecidableEq κ] {kt : TypeId} {ek : κ → Value} {ok : κ → Bool} {ev : β → Value} {z : β}
theorem ox_rangeA {mt et b : Nat} {M : List (κ × β)} {x : Operand} (hM : (mapV P kt ek ok ev z b M).holds w0) (K : KeyE P kt ek ok) (hm : P.underlying mt = some (.map kt et)) (hx : opv m tm x = .map (some b))
  (hw : seesB ops m tm ⟨some t,.range mt x,ty,pos,af,g⟩ = true)
  (h : ∀ it k,k ≤ M.length → OX r n P ops Q w0 (L ++ [rngA w0 P kt ek ok ev z b it M (fun y => mhasV M y) k none]) rest m (upd tm t (.pointer (some ⟨it,0,none⟩))) d) :
  OX r n P ops Q w0 L (⟨some t,.range mt x,ty,pos,af,g⟩ :: rest) m tm d :=
 ox_step hw (by intro c h; cases h) fun W hW => by
  have hb0 : b < w0.heap.size:=(mapV P kt ek ok ev z b M).inb w0 hM b rfl
  have hMW:=mapV.later hM hW.below
  obtain ⟨D,h1,h2,h3,h4⟩:=hMW
  obtain ⟨W',hrun,hr,hg,hs⟩:=h1.range K.keyed hm
  have hsz:=hW.size
  have hbW : W'.heap[b]? = w0.heap[b]?:=by rw [hg.block b (by omega) (by simp),hW.below.block b hb0]
  have hrv : (rngV P kt ek ok ev z b W.heap.size M (fun y => mhasV M y) (Maps.size D) none).holds W':=⟨⟨D,Maps.has D,hr,h2,h3,h4,fun y l hy hl => (h3 y l hy hl).2,fun _ h => h⟩,fun q hq => by cases hq⟩
  refine ⟨_,W',_,by simp [execOp,hx,hrun],?_,h W.heap.size (Maps.size D) h1.size_le⟩
  have h7 : Ext w0 W' L:=hW.keep (hW.below.trans ⟨hg.os,hg.tape,hg.output,hg.size,fun c hc => hg.block c (by omega) (by simp)⟩) hg.size (fun i p hp c hd => hg.block c (p.inb W (hW.all i p hp) c hd) (by simp))
  refine h7.snoc ⟨by rw [hs]; exact Nat.lt_succ_self _,fun W2 e1 e2 => rngV_at hrv (e2.trans hbW.symm) e1⟩ (fun c hc => ?_) (fun i q hq c hc hc' => ?_)
  ·have hc' : c = W.heap.size:=hc
   omega
  ·have hc'' : c = W.heap.size:=hc'
   have:=q.inb W (hW.all i q hq) c hc
   omega
theorem ox_nextA (i : Nat) {b it k : Nat} {M : List (κ × β)} {left : κ → Bool} {cur : Option (Value × Value)} {x : Operand} (hb0 : b < w0.heap.size) (hL : L[i]? = some (rngA w0 P kt ek ok ev z b it M left k cur)) (K : KeyE P kt ek ok) (hx : opv m tm x = .pointer (some ⟨it,0,none⟩))
  (hw : seesB ops m tm ⟨some t,.next x false,ty,pos,af,g⟩ = true)
  (h0 : (∀ y,ok y = true → left y = false) → OX r n P ops Q w0 L rest m (upd tm t (.tuple #[.bool false])) d)
  (h1 : ∀ y k',ok y = true → left y = true → mhasV M y = true → k' < k → OX r n P ops Q w0 (L.set i (rngA w0 P kt ek ok ev z b it M (fun q => left q && !decide (q = y)) k' (some (ek y,ev (mgetV z M y))))) rest m (upd tm t (.tuple #[.bool true,ek y,ev (mgetV z M y)])) d) :
  OX r n P ops Q w0 L (⟨some t,.next x false,ty,pos,af,g⟩ :: rest) m tm d :=
 ox_step hw (by intro c h; cases h) fun W hW => by
  have hh:=hW.mem hL
  have hbW : W.heap[b]? = w0.heap[b]?:=hW.below.block b hb0
  rcases rngV_next K (hh.2 W rfl hbW) ty with ⟨hno,hrun⟩ | ⟨y,W',k',hy,hly,hM,hk',hrun,hrv,hg⟩
  ·exact ⟨_,W,L,by simp [execOp,hx,hrun],hW,h0 hno⟩
  ·have hne : b ≠ it:=fun e => by
    have:=hW.new i _ hL it rfl
    omega
   have hbW' : W'.heap[b]? = w0.heap[b]?:=by rw [hg.block b (by have:=hW.size; omega) (by simpa using fun e => hne e),hbW]
   refine ⟨_,W',_,by simp [execOp,hx,hrun],?_,h1 y k' hy hly hM hk'⟩
   exact hW.set hL _ ⟨Nat.lt_of_lt_of_le hh.1 hg.size,fun W2 e1 e2 => rngV_at hrv (e2.trans hbW'.symm) e1⟩ hg.os hg.tape hg.output hg.size (fun c hc hn => hg.block c hc (fun e => hn (by cases e; rfl))) (fun c hc => .inl hc)
theorem ex_rngNoneA (i : Nat) {b it c : Nat} {M : List (κ × β)} {left : κ → Bool} {cur : Option (Value × Value)} (hL : L[i]? = some (rngA w0 P kt ek ok ev z b it M left c cur)) (h : EX Q e w0 (L.set i (rngA w0 P kt ek ok ev z b it M left c none)) m tm d) : EX Q e w0 L m tm d:=fun W hW =>
 h W (hW.tell i hL (fun hh => ⟨hh.1,fun W2 e1 e2 => ⟨(hh.2 W2 e1 e2).1,fun q hq => by cases hq⟩⟩) (fun b hb => hb))
end
section
variable {r : Option Nat} {n : Nat} {P : Program} {ρ : Operand → Value} {w0 : World} {L : List Res}
variable {t : Option Tmp} {ty : TypeId} {pos : String} {af : Array Edge} {g : Option (Nat × Bool)}
variable {κ β : Type} [DecidableEq κ] {kt : TypeId} {ek : κ → Value} {ok : κ → Bool} {ev : β → Value} {z : β}
theorem y_entryA (i : Nat) {b it k : Nat} {M : List (κ × β)} {left : κ → Bool} {a c : Value} {x : Operand} (hb0 : b < w0.heap.size) (hL : L[i]? = some (rngA w0 P kt ek ok ev z b it M left k (some (a,c)))) (hx : ρ x = .pointer (some ⟨it,0,none⟩)) :
  OpY r n P ⟨t,.entry x,ty,pos,af,g⟩ ρ (fun W => Ext w0 W L) (fun W => Ext w0 W L) (.tuple #[a,c]) :=
 opY_val (by intro c h; cases h) (fun W hW => by
  obtain ⟨_,h⟩:=(hW.mem hL).2 W rfl (hW.below.block b hb0)
  simp [execOp,hx,h _ rfl])
end
section
variable {κ β γ : Type} [DecidableEq κ] {ok : κ → Bool}
structure UnionI (ok : κ → Bool) (z v : γ) (M : List (κ × β)) (m0 : List (κ × γ)) (s : Nat × (κ → Bool) × List (κ × γ)) : Prop where
 len : s.2.2.length + s.1 ≤ m0.length + M.length
 val : ∀ q,ok q = true → mgetV z s.2.2 q = (if (mhasV M q && !s.2.1 q) = true then v else mgetV z m0 q) ∧ mhasV s.2.2 q = (mhasV M q && !s.2.1 q || mhasV m0 q)
theorem UnionI.start {z v : γ} {M : List (κ × β)} {m0 : List (κ × γ)} {k : Nat} (hk : k ≤ M.length) : UnionI ok z v M m0 (k,(fun y => mhasV M y),m0) :=
 ⟨by simp; omega,fun q _ => by simp⟩
theorem UnionI.step {z v : γ} {M : List (κ × β)} {m0 : List (κ × γ)} {s : Nat × (κ → Bool) × List (κ × γ)} (h : UnionI ok z v M m0 s) {y : κ} {k : Nat} (hy : ok y = true) (hM : mhasV M y = true) (hk : k < s.1) :
  UnionI ok z v M m0 (k,(fun q => s.2.1 q && !decide (q = y)),(y,v) :: s.2.2):=by
 refine ⟨by have:=h.len; simp only [List.length_cons]; omega,fun q hq => ?_⟩
 obtain ⟨h1,h2⟩:=h.val q hq
 simp only [mget_cons,mhas_cons,h1,h2]
 by_cases e : y = q
 ·subst e
  simp [hM]
 ·have e' : ¬ q = y:=fun h => e h.symm
  simp [e,e']
theorem UnionI.room {z v : γ} {M : List (κ × β)} {m0 : List (κ × γ)} {s : Nat × (κ → Bool) × List (κ × γ)} (h : UnionI ok z v M m0 s) {k : Nat} (hk : k < s.1) (hg : m0.length + M.length ≤ 1000000) : s.2.2.length < 1000000:=by have:=h.len; omega
theorem UnionI.done {z v : γ} {M : List (κ × β)} {m0 : List (κ × γ)} {s : Nat × (κ → Bool) × List (κ × γ)} (h : UnionI ok z v M m0 s) (hno : ∀ y,ok y = true → s.2.1 y = false) : ∀ q,ok q = true → mgetV z s.2.2 q = mgetV z (unionV v M m0) q ∧ mhasV s.2.2 q = mhasV (unionV v M m0) q:=fun q hq => by
 obtain ⟨h1,h2⟩:=h.val q hq
 rw [mget_union,mhas_union,h1,h2,hno q hq]
 simp
structure DiffI (ok : κ → Bool) (z : γ) (M : List (κ × β)) (m0 : List (κ × γ)) (s : Nat × (κ → Bool) × List (κ × γ)) : Prop where
 val : ∀ q,ok q = true → mgetV z s.2.2 q = (if (mhasV M q && !s.2.1 q) = true then z else mgetV z m0 q) ∧ mhasV s.2.2 q = (!(mhasV M q && !s.2.1 q) && mhasV m0 q)
theorem DiffI.start {z : γ} {M : List (κ × β)} {m0 : List (κ × γ)} {k : Nat} : DiffI ok z M m0 (k,(fun y => mhasV M y),m0):=⟨fun q _ => by simp⟩
theorem DiffI.step {z : γ} {M : List (κ × β)} {m0 : List (κ × γ)} {s : Nat × (κ → Bool) × List (κ × γ)} (h : DiffI ok z M m0 s) {y : κ} {k : Nat} (hy : ok y = true) (hM : mhasV M y = true) :
  DiffI ok z M m0 (k,(fun q => s.2.1 q && !decide (q = y)),mdelV s.2.2 y):=by
 refine ⟨fun q hq => ?_⟩
 obtain ⟨h1,h2⟩:=h.val q hq
 simp only [mget_del,mhas_del,h1,h2]
 by_cases e : q = y
 ·subst e; simp [hM]
 ·simp [e]
theorem DiffI.done {z : γ} {M : List (κ × β)} {m0 : List (κ × γ)} {s : Nat × (κ → Bool) × List (κ × γ)} (h : DiffI ok z M m0 s) (hno : ∀ y,ok y = true → s.2.1 y = false) : ∀ q,ok q = true → mgetV z s.2.2 q = mgetV z (diffV M m0) q ∧ mhasV s.2.2 q = mhasV (diffV M m0) q:=fun q hq => by
 obtain ⟨h1,h2⟩:=h.val q hq
 unfold diffV
 rw [mget_filter z (fun x => !mhasV M x),mhas_filter (fun x => !mhasV M x),h1,h2,hno q hq]
 cases mhasV M q <;> simp
structure DropI (ok : κ → Bool) (z : β) (c : κ → Bool) (M : List (κ × β)) (s : Nat × (κ → Bool) × List (κ × β)) : Prop where
 val : ∀ q,ok q = true → mgetV z s.2.2 q = (if (mhasV M q && !s.2.1 q && c q) = true then z else mgetV z M q) ∧ mhasV s.2.2 q = (!(mhasV M q && !s.2.1 q && c q) && mhasV M q)
theorem DropI.start {z : β} {c : κ → Bool} {M : List (κ × β)} {k : Nat} : DropI ok z c M (k,(fun y => mhasV M y),M):=⟨fun q _ => by simp⟩
theorem DropI.keep {z : β} {c : κ → Bool} {M : List (κ × β)} {s : Nat × (κ → Bool) × List (κ × β)} (h : DropI ok z c M s) {y : κ} {k : Nat} (hc : c y = false) : DropI ok z c M (k,(fun q => s.2.1 q && !decide (q = y)),s.2.2):=by
 refine ⟨fun q hq => ?_⟩
 obtain ⟨h1,h2⟩:=h.val q hq
 simp only [h1,h2]
 by_cases e : q = y
 ·subst e; simp [hc]
 ·simp [e]
theorem DropI.del {z : β} {c : κ → Bool} {M : List (κ × β)} {s : Nat × (κ → Bool) × List (κ × β)} (h : DropI ok z c M s) {y : κ} {k : Nat} (hc : c y = true) (hM : mhasV s.2.2 y = true) : DropI ok z c M (k,(fun q => s.2.1 q && !decide (q = y)),mdelV s.2.2 y):=by
 refine ⟨fun q hq => ?_⟩
 obtain ⟨h1,h2⟩:=h.val q hq
 have hMy : q = y → mhasV M q = true:=fun e => by
  subst e
  rw [hM] at h2
  have:=h2.symm
  rw [Bool.and_eq_true] at this
  exact this.2
 simp only [mget_del,mhas_del,h1,h2]
 by_cases e : q = y
 ·have:=hMy e
  subst e; simp [hc,this]
 ·simp [e]
theorem DropI.done {z : β} {c : κ → Bool} {M : List (κ × β)} {s : Nat × (κ → Bool) × List (κ × β)} (h : DropI ok z c M s) (hno : ∀ y,ok y = true → s.2.1 y = false) : ∀ q,ok q = true → mgetV z s.2.2 q = mgetV z (M.filter fun p => !c p.1) q ∧ mhasV s.2.2 q = mhasV (M.filter fun p => !c p.1) q:=fun q hq => by
 obtain ⟨h1,h2⟩:=h.val q hq
 rw [mget_filter z (fun x => !c x),mhas_filter (fun x => !c x),h1,h2,hno q hq]
 cases hm : mhasV M q with
 | true => cases c q <;> simp
 | false => rw [mget_none hm]; cases c q <;> simp
structure CollI (ok : κ → Bool) (M : List (κ × Bool)) (s : Nat × (κ → Bool) × List κ) : Prop where
 len : s.2.2.length + s.1 ≤ M.length
 nd : s.2.2.Nodup
 val : ∀ q,q ∈ s.2.2 ↔ ok q = true ∧ mhasV M q = true ∧ s.2.1 q = false ∧ mgetV false M q = true
theorem CollI.start {M : List (κ × Bool)} {k : Nat} (hk : k ≤ M.length) : CollI ok M (k,(fun y => mhasV M y),[]) :=
 ⟨by simpa using hk,List.Pairwise.nil,fun q => by
  simp only [List.not_mem_nil,false_iff]
  intro h
  rw [h.2.1] at h
  exact absurd h.2.2.1 (by simp)⟩
theorem CollI.keep {M : List (κ × Bool)} {s : Nat × (κ → Bool) × List κ} (h : CollI ok M s) {y : κ} {k : Nat} (hk : k < s.1) (hv : mgetV false M y = false) : CollI ok M (k,(fun q => s.2.1 q && !decide (q = y)),s.2.2):=by
 refine ⟨by have:=h.len; simp only; omega,h.nd,fun q => ?_⟩
 rw [h.val q]
 by_cases e : q = y
 ·subst e; simp [hv]
 ·simp [e]
theorem CollI.app {M : List (κ × Bool)} {s : Nat × (κ → Bool) × List κ} (h : CollI ok M s) {y : κ} {k : Nat} (hy : ok y = true) (hly : s.2.1 y = true) (hM : mhasV M y = true) (hk : k < s.1) (hv : mgetV false M y = true) : CollI ok M (k,(fun q => s.2.1 q && !decide (q = y)),s.2.2 ++ [y]):=by
 refine ⟨by have:=h.len; simp only [List.length_append,List.length_cons,List.length_nil]; omega,?_,fun q => ?_⟩
 ·rw [List.nodup_append]
  refine ⟨h.nd,by simp,fun a ha b hb => ?_⟩
  rw [List.mem_singleton.1 hb]
  intro e
  subst e
  have:=((h.val a).1 ha).2.2.1
  rw [hly] at this
  cases this
 ·rw [List.mem_append,h.val q,List.mem_singleton]
  by_cases e : q = y
  ·subst e; simp [hy,hM,hv]
  ·simp [e]
end
open Go.RowKit (Below)
section
variable {β γ : Type} {sel : β → List γ} {ic : γ → List Value} {wb : World} {Hb Hb' : World → Prop}
def Pv (ic : γ → List Value) (wb : World) (Hb : World → Prop) (h : Hd) (cs : List γ) : Prop:=∀ W,Below wb.heap.size wb W → Hb W → Rd W h.1 h.2.1 h.2.2 (encL ic cs)
def PvL (sel : β → List γ) (ic : γ → List Value) (wb : World) (Hb : World → Prop) (ys : List (Hd × β)) : Prop:=∀ y ∈ ys,Pv ic wb Hb y.1 (sel y.2)
theorem Pv.nil {cs : List γ} (h : cs = []) : Pv ic wb Hb (none,0,0) cs:=fun _ _ _ => Rd.nil (by subst h; rfl)
theorem Pv.cut {cells : γ → List Value} {sz : Nat} (hc : ∀ x,(cells x).length = sz) {A : Option Addr} {n c : Nat} {xs : List γ} {lo hi : Int} (_h0 : 0 ≤ lo) (h1 : lo ≤ hi) (h2 : hi ≤ (n : Int)) (_hn : n = xs.length) (hp : Pv cells wb Hb (A,n,c) xs) :
  Pv cells wb Hb ((if c = lo.toNat then A else A.map (fun x => x.add (lo.toNat * sz))),hi.toNat - lo.toNat,c - lo.toNat) ((xs.drop lo.toNat).take (hi.toNat - lo.toNat)):=fun W hb hh => by
 have:=(hp W hb hh).cut (sz:=sz) (l:=lo.toNat) (h:=hi.toNat) (by omega) (by show hi.toNat ≤ n; omega)
 rw [encL_drop hc,encL_take hc] at this
 exact this
theorem Pv.mono {h : Hd} {cs : List γ} (hp : Pv ic wb Hb h cs) (hi : ∀ W,Below wb.heap.size wb W → Hb' W → Hb W) : Pv ic wb Hb' h cs:=fun W hb hh => hp W hb (hi W hb hh)
theorem PvL.of_nest {W : World} {ys : List (Hd × β)} {xs : List β} (h : NestW W sel ic ys xs) : PvL sel ic W (fun _ => True) ys:=fun y hy W' hb _ => (h.inn y hy).later hb
theorem PvL.mono {ys : List (Hd × β)} (hp : PvL sel ic wb Hb ys) (hi : ∀ W,Below wb.heap.size wb W → Hb' W → Hb W) : PvL sel ic wb Hb' ys:=fun y hy => (hp y hy).mono hi
theorem PvL.nil : PvL sel ic wb Hb []:=fun y hy => by cases hy
theorem PvL.cons {y : Hd × β} {ys : List (Hd × β)} (h1 : Pv ic wb Hb y.1 (sel y.2)) (h2 : PvL sel ic wb Hb ys) : PvL sel ic wb Hb (y :: ys):=fun z hz => by
 rcases List.mem_cons.1 hz with rfl | hz
 ·exact h1
 ·exact h2 z hz
theorem PvL.app {ys zs : List (Hd × β)} (h1 : PvL sel ic wb Hb ys) (h2 : PvL sel ic wb Hb zs) : PvL sel ic wb Hb (ys ++ zs):=fun z hz => by
 rcases List.mem_append.1 hz with hz | hz
 ·exact h1 z hz
 ·exact h2 z hz
theorem PvL.set {y : Hd × β} {ys : List (Hd × β)} (j : Nat) (h : PvL sel ic wb Hb ys) (hv : Pv ic wb Hb y.1 (sel y.2)) : PvL sel ic wb Hb (ys.set j y):=fun z hz => by
 rcases List.mem_or_eq_of_mem_set hz with hz | rfl
 ·exact h z hz
 ·exact hv
theorem NestP.nil : NestP sel ([] : List (Hd × β)) []:=⟨rfl,fun y hy => by cases hy⟩
theorem NestP.zip {ys : List (Hd × β)} {xs : List β} (h : NestP sel ys xs) : ys = (ys.map Prod.fst).zip xs:=by
 rw [← h.eq]
 clear h
 induction ys with
 | nil => rfl
 | cons y ys ih =>
  rw [List.map_cons,List.map_cons,List.zip_cons_cons,← ih]
theorem NestP.cons {y : Hd × β} {ys : List (Hd × β)} {xs : List β} (h1 : y.1.2.1 = (sel y.2).length) (h2 : NestP sel ys xs) : NestP sel (y :: ys) (y.2 :: xs):=⟨by simp [h2.eq],fun z hz => by
 rcases List.mem_cons.1 hz with rfl | hz
 ·exact h1
 ·exact h2.ln z hz⟩
theorem NestP.app {ys zs : List (Hd × β)} {xs us : List β} (h1 : NestP sel ys xs) (h2 : NestP sel zs us) : NestP sel (ys ++ zs) (xs ++ us):=⟨by rw [List.map_append,h1.eq,h2.eq],fun z hz => by
 rcases List.mem_append.1 hz with hz | hz
 ·exact h1.ln z hz
 ·exact h2.ln z hz⟩
theorem NestP.set {y : Hd × β} {ys : List (Hd × β)} {xs : List β} (j : Nat) (h : NestP sel ys xs) (hv : y.1.2.1 = (sel y.2).length) {x : β} (hx : y.2 = x) : NestP sel (ys.set j y) (xs.set j x):=⟨by rw [List.map_set,h.eq,hx],fun z hz => by
 rcases List.mem_or_eq_of_mem_set hz with hz | rfl
 ·exact h.ln z hz
 ·exact hv⟩
theorem PvL.nestL {w0 : World} {L : List Res} {ys : List (Hd × β)} {xs : List β} (hP : NestP sel ys xs) (hv : PvL sel ic wb Hb ys) (hB : ∀ W,Ext w0 W L → Below wb.heap.size wb W ∧ Hb W) : NestL w0 L sel ic ys xs:=⟨hP,fun y hy W hW => hv y hy W (hB W hW).1 (hB W hW).2⟩
variable [Inhabited β] [Inhabited γ]
omit [Inhabited γ] in
theorem PvL.get {ys : List (Hd × β)} {xs : List β} (h : PvL sel ic wb Hb ys) (hP : NestP sel ys xs) {i : Int} (h0 : 0 ≤ i) (h1 : i < (xs.length : Int)) : Pv ic wb Hb ((rdL ys i).1.1,(sel (rdL xs i)).length,(rdL ys i).1.2.2) (sel (rdL xs i)):=by
 have hl : xs.length = ys.length:=hP.hn rfl
 have h2:=hP.len h0 h1
 have h3:=h _ (rdL_mem (xs:=ys) h0 (by omega))
 rw [hP.snd i] at h3
 intro W hb hh
 have h4:=h3 W hb hh
 rw [h2] at h4
 exact h4
end
section
variable {w0 : World} {L : List Res}
def andR (p q : Res) : Res where
 dom b:=p.dom b ∨ q.dom b
 holds W:=p.holds W ∧ q.holds W ∧ ∀ b,p.dom b → ¬ q.dom b
 loc W W' h hs hh:=⟨p.loc W W' (fun b hb => h b (.inl hb)) hs hh.1,q.loc W W' (fun b hb => h b (.inr hb)) hs hh.2.1,hh.2.2⟩
 inb W hh b hb:=by
  rcases hb with hb | hb
  ·exact p.inb W hh.1 b hb
  ·exact q.inb W hh.2.1 b hb
theorem Ext.joinF {W : World} (h : Ext w0 W L) (i j : Nat) (hij : i ≠ j) {p q : Res} (hp : L[i]? = some p) (hq : L[j]? = some q) : Ext w0 W ((L.set j noR).set i (andR p q)):=by
 have hget : ∀ (k : Nat) (s : Res),((L.set j noR).set i (andR p q))[k]? = some s → (k = i ∧ s = andR p q) ∨ s = noR ∨ (k ≠ i ∧ k ≠ j ∧ L[k]? = some s):=by
  intro k s hk
  by_cases e : i = k
  ·subst e
   have hi : i < (L.set j noR).length:=by rw [List.length_set]; exact (List.getElem?_eq_some_iff.1 hp).1
   rw [List.getElem?_set_self hi] at hk
   cases hk
   exact .inl ⟨rfl,rfl⟩
  ·rw [List.getElem?_set_ne e] at hk
   by_cases e2 : j = k
   ·subst e2
    rw [List.getElem?_set_self (List.getElem?_eq_some_iff.1 hq).1] at hk
    cases hk
    exact .inr (.inl rfl)
   ·rw [List.getElem?_set_ne e2] at hk
    exact .inr (.inr ⟨fun h => e h.symm,fun h => e2 h.symm,hk⟩)
 refine ⟨h.below,fun k s hk => ?_,fun k s hk b hb => ?_,fun k l s s' hk hl hne b hb hb' => ?_⟩
 ·rcases hget k s hk with ⟨_,rfl⟩ | rfl | ⟨_,_,h3⟩
  ·exact ⟨h.all i p hp,h.all j q hq,h.sep i j p q hp hq hij⟩
  ·trivial
  ·exact h.all k _ h3
 ·rcases hget k s hk with ⟨_,rfl⟩ | rfl | ⟨_,_,h3⟩
  ·rcases hb with hb | hb
   ·exact h.new i p hp b hb
   ·exact h.new j q hq b hb
  ·exact hb.elim
  ·exact h.new k _ h3 b hb
 ·rcases hget k s hk with ⟨a1,rfl⟩ | rfl | ⟨a1,a2,a3⟩
  ·rcases hget l s' hl with ⟨b1,rfl⟩ | rfl | ⟨b1,b2,b3⟩
   ·exact hne (a1.trans b1.symm)
   ·exact hb'.elim
   ·rcases hb with hb | hb
    ·exact h.sep i l p s' hp b3 (fun e => b1 e.symm) b hb hb'
    ·exact h.sep j l q s' hq b3 (fun e => b2 e.symm) b hb hb'
  ·exact hb.elim
  ·rcases hget l s' hl with ⟨b1,rfl⟩ | rfl | ⟨b1,b2,b3⟩
   ·rcases hb' with hb' | hb'
    ·exact h.sep k i s p a3 hp a1 b hb hb'
    ·exact h.sep k j s q a3 hq a2 b hb hb'
   ·exact hb'.elim
   ·exact h.sep k l s s' a3 b3 hne b hb hb'
theorem Ext.addNo {W : World} (h : Ext w0 W L) : Ext w0 W (L ++ [noR]):=h.snoc (p:=noR) trivial (fun b hb => hb.elim) (fun i q _ b _ hb => hb.elim)
theorem Ext.pickL {W : World} (h : Ext w0 W L) (is : List Nat) {ps : List Res} (hnd : decide is.Nodup = true) (hp : is.map (fun i => L[i]?) = ps.map some) : Ext w0 W ps:=by
 have hnd:=of_decide_eq_true hnd
 have hget : ∀ (k : Nat) (s : Res),ps[k]? = some s → ∃ i,is[k]? = some i ∧ L[i]? = some s:=by
  intro k s hk
  have h1 : (ps.map some)[k]? = some (some s):=by rw [List.getElem?_map,hk]; rfl
  rw [← hp,List.getElem?_map] at h1
  cases hi : is[k]? with
  | none => rw [hi] at h1; cases h1
  | some i => rw [hi] at h1; exact ⟨i,rfl,by simpa using h1⟩
 refine ⟨h.below,fun k s hk => ?_,fun k s hk => ?_,fun k l s s' hk hl hne => ?_⟩
 ·obtain ⟨i,_,h2⟩:=hget k s hk; exact h.all i s h2
 ·obtain ⟨i,_,h2⟩:=hget k s hk; exact h.new i s h2
 ·obtain ⟨i,h1,h2⟩:=hget k s hk
  obtain ⟨j,h3,h4⟩:=hget l s' hl
  refine h.sep i j s s' h2 h4 (fun e => ?_)
  subst e
  obtain ⟨a1,a2⟩:=List.getElem?_eq_some_iff.1 h1
  obtain ⟨b1,b2⟩:=List.getElem?_eq_some_iff.1 h3
  have hpw:=List.pairwise_iff_getElem.1 hnd
  rcases Nat.lt_trichotomy k l with h5 | h5 | h5
  ·exact hpw k l a1 b1 h5 (a2.trans b2.symm)
  ·exact hne h5
  ·exact hpw l k b1 a1 h5 (b2.trans a2.symm)
end
section
variable {r : Option Nat} {n : Nat} {P : Program} {ops : Array Oper} {Q : Exit → Act → World → Prop} {w0 : World} {L : List Res} {m : Nat} {tm : Nat → Value} {d : List Deferred} {l : List Oper} {e : Exit}
theorem ox_addNo (h : OX r n P ops Q w0 (L ++ [noR]) l m tm d) : OX r n P ops Q w0 L l m tm d:=fun W hW => h W hW.addNo
theorem cx_addNo {c : Code} (h : CX r n P c Q w0 (L ++ [noR]) m tm d) : CX r n P c Q w0 L m tm d:=fun W hW => h W hW.addNo
theorem ox_joinF (i j : Nat) (hij : i ≠ j) {p q : Res} (hp : L[i]? = some p) (hq : L[j]? = some q) (h : OX r n P ops Q w0 ((L.set j noR).set i (andR p q)) l m tm d) : OX r n P ops Q w0 L l m tm d:=fun W hW => h W (hW.joinF i j hij hp hq)
end
section
variable {r : Option Nat} {n : Nat} {P : Program} {ρ : Operand → Value} {w0 : World} {L : List Res}
variable {t : Option Tmp} {ty : TypeId} {pos : String} {af : Array Edge} {g : Option (Nat × Bool)}
variable {A : Option Addr} {k c : Nat} {cs : List Value}
theorem y_cut3 {x a b d : Operand} {u e : TypeId} {sz : Nat} {q q' q2 : IntKind} {lo hi mx : Int} (hs : slOf P u = some (e,sz)) (h0 : 0 ≤ lo) (h1 : lo ≤ hi) (h2 : hi ≤ mx) (h3 : mx ≤ k) (hR : RdL w0 L A k c cs) (hx : ρ x = .slice A k c) (ha : ρ a = .int q lo) (hb : ρ b = .int q' hi) (hd : ρ d = .int q2 mx) :
  OpY r n P ⟨t,.slice u x (some a) (some b) (some d),ty,pos,af,g⟩ ρ (fun W => Ext w0 W L) (fun W => Ext w0 W L) (.slice (if mx.toNat = lo.toNat then A else A.map (·.add (lo.toNat * sz))) (hi.toNat - lo.toNat) (mx.toNat - lo.toNat)) :=
 opY_val (by intro c h; cases h) (fun W hW => by
  obtain ⟨hu',hsz⟩:=slOf_inv hs
  have hcap:=(hR W hW).cap
  have h4 : mx ≤ (c : Int):=by omega
  simp only [execOp,hx,ha,hb,hd,Option.map_some,Sem.run_bind,run_sliceAt_slice W u _ _ _ _ hu',run_slice_lhm W u A k c hu' q q' q2 lo hi mx h0 h1 h2 h4,hsz,Result.andThen_ok,sliced]
  rfl)
theorem Rd.cut3 {W : World} {l h m sz : Nat} (hr : Rd W A k c cs) (h1 : l ≤ h) (h2 : h ≤ m) (h3 : m ≤ k) : Rd W (if m = l then A else A.map (·.add (l * sz))) (h - l) (m - l) ((cs.drop (l * sz)).take ((h - l) * sz)):=by
 have hc:=hr.cut (sz:=sz) h1 (Nat.le_trans h2 h3)
 have hcap:=hr.cap
 refine ⟨fun j v hj => ?_,by omega⟩
 by_cases hm : m = l
 ·have hh : h - l = 0:=by omega
  rw [hh,Nat.zero_mul,List.take_zero] at hj
  simp at hj
 ·rw [if_neg hm]
  have:=hc.cell j v hj
  by_cases hcl : c = l
  ·omega
  ·rw [if_neg hcl] at this
   exact this
theorem RdL.cut3 {α : Type} {cells : α → List Value} {sz : Nat} (hc : ∀ x,(cells x).length = sz) {xs : List α} {lo hi mx : Int} (h : RdL w0 L A k c (encL cells xs)) (h0 : 0 ≤ lo) (h1 : lo ≤ hi) (h2 : hi ≤ mx) (h3 : mx ≤ (k : Int)) :
  RdL w0 L (if mx.toNat = lo.toNat then A else A.map (fun x => x.add (lo.toNat * sz))) (hi.toNat - lo.toNat) (mx.toNat - lo.toNat) (encL cells ((xs.drop lo.toNat).take (hi.toNat - lo.toNat))):=fun W hW => by
 have:=(h W hW).cut3 (sz:=sz) (l:=lo.toNat) (h:=hi.toNat) (m:=mx.toNat) (by omega) (by omega) (by omega)
 rw [encL_drop hc,encL_take hc] at this
 exact this
theorem cut3_len {α : Type} {xs : List α} {n : Nat} {lo hi mx : Int} (h0 : 0 ≤ lo) (h1 : lo ≤ hi) (h2 : hi ≤ mx) (h3 : mx ≤ (n : Int)) (hn : n = xs.length) : hi.toNat - lo.toNat = ((xs.drop lo.toNat).take (hi.toNat - lo.toNat)).length:=cut_len h0 h1 (by omega) hn
end
section
variable {β γ : Type} {sel : β → List γ} {ic : γ → List Value} {wb : World} {Hb : World → Prop}
theorem PvL.sub {ys zs : List (Hd × β)} (h : PvL sel ic wb Hb ys) (hs : ∀ y ∈ zs,y ∈ ys) : PvL sel ic wb Hb zs:=fun y hy => h y (hs y hy)
theorem NestP.take {ys : List (Hd × β)} {xs : List β} (k : Nat) (h : NestP sel ys xs) : NestP sel (ys.take k) (xs.take k):=⟨by rw [List.map_take,h.eq],fun y hy => h.ln y (List.mem_of_mem_take hy)⟩
theorem NestP.drop {ys : List (Hd × β)} {xs : List β} (k : Nat) (h : NestP sel ys xs) : NestP sel (ys.drop k) (xs.drop k):=⟨by rw [List.map_drop,h.eq],fun y hy => h.ln y (List.mem_of_mem_drop hy)⟩
end
section
variable {r : Option Nat} {n : Nat} {P : Program} {ops : Array Oper} {Q : Exit → Act → World → Prop} {w0 : World} {L : List Res} {m : Nat} {tm : Nat → Value} {d : List Deferred}
variable {t : Tmp} {ty : TypeId} {pos : String} {af : Array Edge} {g : Option (Nat × Bool)} {rest : List Oper}
end
section
variable {r : Option Nat} {n : Nat} {P : Program} {ρ : Operand → Value} {w0 : World} {L : List Res}
variable {t : Option Tmp} {ty : TypeId} {pos : String} {af : Array Edge} {g : Option (Nat × Bool)}
end
section
variable {r : Option Nat} {n : Nat} {P : Program} {ops : Array Oper} {Q : Exit → Act → World → Prop}
def QWa (ops : Array Oper) (Y : Oper → Act → Value → Prop) (K : Act → Prop) : List Oper → Act → Prop
 | [],a => K a
 | o :: rest,a => if Region.wanted o (yielded ops a.tmps) then ∃ v,Y o a v ∧ QWa ops Y K rest (a.put o.dst v) else QWa ops Y K rest (a.put o.dst undef)
theorem qwa_vals {Y : Oper → Act → Value → Prop} {K : Act → Prop} : ∀ (l : List Oper) (i0 : Nat) (a : Act),(∀ j,j < l.length → l[j]? = ops[i0 + j]?) → QWa ops Y K l a →
  ∃ (vals : Nat → Value) (acts : Nat → Act),acts 0 = a ∧ (∀ j,acts (j + 1) = (acts j).put (dstA ops (i0 + j)) (vals j)) ∧
   (∀ j o,j < l.length → ops[i0 + j]? = some o → (Region.wanted o (yielded ops (acts j).tmps) = true ∧ Y o (acts j) (vals j)) ∨ (Region.wanted o (yielded ops (acts j).tmps) = false ∧ vals j = undef)) ∧
   K (acts l.length)
 | [],i0,a,_,h => by
  have hK : K a:=h
  exact ⟨fun _ => undef,fun j => Nat.rec a (fun j b => b.put (dstA ops (i0 + j)) undef) j,rfl,fun _ => rfl,(fun j o hj => by simp at hj),hK⟩
 | o :: rest,i0,a,hl,h => by
  have ho : ops[i0]? = some o:=by simpa using (hl 0 (by simp)).symm
  have hl' : ∀ j,j < rest.length → rest[j]? = ops[i0 + 1 + j]?:=fun j hj => by
   have:=hl (j + 1) (by simp; omega)
   simpa [Nat.add_assoc,Nat.add_comm 1 j] using this
  have hdst : dstA ops i0 = o.dst:=by simp [dstA,ho]
  have key : ∃ v,((Region.wanted o (yielded ops a.tmps) = true ∧ Y o a v) ∨ (Region.wanted o (yielded ops a.tmps) = false ∧ v = undef)) ∧ QWa ops Y K rest (a.put o.dst v):=by
   unfold QWa at h
   by_cases hw : Region.wanted o (yielded ops a.tmps) = true
   ·rw [if_pos hw] at h
    obtain ⟨v,h1,h2⟩:=h
    exact ⟨v,.inl ⟨hw,h1⟩,h2⟩
   ·rw [if_neg hw] at h
    exact ⟨undef,.inr ⟨by simpa using hw,rfl⟩,h⟩
  obtain ⟨v,hv,hq⟩:=key
  obtain ⟨vals,acts,h0,h1,h2,h3⟩:=qwa_vals rest (i0 + 1) _ hl' hq
  refine ⟨fun | 0 => v | j + 1 => vals j,fun | 0 => a | j + 1 => acts j,rfl,?_,?_,h3⟩
  ·intro j
   cases j with
   | zero => show acts 0 = a.put (dstA ops (i0 + 0)) v; rw [h0,Nat.add_zero,hdst]
   | succ j => show acts (j + 1) = (acts j).put (dstA ops (i0 + (j + 1))) (vals j); rw [h1 j]; simp [Nat.add_assoc,Nat.add_comm 1 j]
  ·intro j o' hj ho'
   cases j with
   | zero =>
    have : o' = o:=by rw [Nat.add_zero,ho] at ho'; cases ho'; rfl
    subst this
    exact hv
   | succ j => exact h2 j o' (by simpa using hj) (by simpa [Nat.add_assoc,Nat.add_comm 1 j] using ho')
def QWd (r : Option Nat) (n : Nat) (P : Program) (ops : Array Oper) (w0 : World) (L : List Res) (G : Value → List Res → Prop) (Y : Oper → Act → Value → Prop) (K : Act → Prop) : Nat → List Oper → Act → Prop
 | _,[],a => K a
 | 0,o :: rest,a => Region.wanted o (yielded ops a.tmps) = true ∧ (∀ W,Ext w0 W L → o.wpIn (Fw r) n P a W (fun a' W' => capQ w0 L a o.dst G .normal a' W') (capQ w0 L a o.dst G)) ∧ QWa ops Y K rest (a.put o.dst undef)
 | q + 1,o :: rest,a => if Region.wanted o (yielded ops a.tmps) then ∃ v,(∀ L2,OpY r n P o a.eval (fun W => Ext w0 W (L ++ L2)) (fun W => Ext w0 W (L ++ L2)) v) ∧ QWd r n P ops w0 L G Y K q rest (a.put o.dst v) else QWd r n P ops w0 L G Y K q rest (a.put o.dst undef)
theorem qwd_vals {w0 : World} {L : List Res} {G : Value → List Res → Prop} {Y : Oper → Act → Value → Prop} {K : Act → Prop} : ∀ (q : Nat) (l : List Oper) (i0 : Nat) (a : Act),q < l.length → (∀ j,j < l.length → l[j]? = ops[i0 + j]?) → QWd r n P ops w0 L G Y K q l a →
  ∃ (vals : Nat → Value) (acts : Nat → Act),acts 0 = a ∧ (∀ j,acts (j + 1) = (acts j).put (dstA ops (i0 + j)) (vals j)) ∧ vals q = undef ∧
   (∀ o,ops[i0 + q]? = some o → Region.wanted o (yielded ops (acts q).tmps) = true ∧ ∀ W,Ext w0 W L → o.wpIn (Fw r) n P (acts q) W (fun a' W' => capQ w0 L (acts q) o.dst G .normal a' W') (capQ w0 L (acts q) o.dst G)) ∧
   (∀ j o,j < q → ops[i0 + j]? = some o → (Region.wanted o (yielded ops (acts j).tmps) = true ∧ ∀ L2,OpY r n P o (acts j).eval (fun W => Ext w0 W (L ++ L2)) (fun W => Ext w0 W (L ++ L2)) (vals j)) ∨ (Region.wanted o (yielded ops (acts j).tmps) = false ∧ vals j = undef)) ∧
   (∀ j o,j < l.length → q < j → ops[i0 + j]? = some o → (Region.wanted o (yielded ops (acts j).tmps) = true ∧ Y o (acts j) (vals j)) ∨ (Region.wanted o (yielded ops (acts j).tmps) = false ∧ vals j = undef)) ∧
   K (acts l.length):=by
 intro q
 induction q with
 | zero =>
  intro l i0 a hq hl h
  cases l with
  | nil => simp at hq
  | cons o rest =>
   obtain ⟨hw,hop,hrest⟩:=h
   have ho : ops[i0]? = some o:=by simpa using (hl 0 (by simp)).symm
   have hdst : dstA ops i0 = o.dst:=by simp [dstA,ho]
   obtain ⟨vals,acts,h0,h1,h2,h3⟩:=qwa_vals rest (i0 + 1) _ (fun j hj => by
    have:=hl (j + 1) (by simp; omega)
    simpa [Nat.add_assoc,Nat.add_comm 1 j] using this) hrest
   refine ⟨fun | 0 => undef | j + 1 => vals j,fun | 0 => a | j + 1 => acts j,rfl,?_,rfl,?_,(fun j _ hj => absurd hj (Nat.not_lt_zero j)),?_,h3⟩
   ·intro j
    cases j with
    | zero => show acts 0 = a.put (dstA ops (i0 + 0)) undef; rw [h0,Nat.add_zero,hdst]
    | succ j => show acts (j + 1) = (acts j).put (dstA ops (i0 + (j + 1))) (vals j); rw [h1 j]; simp [Nat.add_assoc,Nat.add_comm 1 j]
   ·intro o' ho'
    rw [Nat.add_zero,ho] at ho'; cases ho'
    exact ⟨hw,hop⟩
   ·intro j o' hj hne ho'
    cases j with
    | zero => exact absurd hne (Nat.lt_irrefl 0)
    | succ j => exact h2 j o' (by simpa using hj) (by simpa [Nat.add_assoc,Nat.add_comm 1 j] using ho')
 | succ q ih =>
  intro l i0 a hq hl h
  cases l with
  | nil => simp at hq
  | cons o rest =>
   have ho : ops[i0]? = some o:=by simpa using (hl 0 (by simp)).symm
   have hdst : dstA ops i0 = o.dst:=by simp [dstA,ho]
   have hl' : ∀ j,j < rest.length → rest[j]? = ops[i0 + 1 + j]?:=fun j hj => by
    have:=hl (j + 1) (by simp; omega)
    simpa [Nat.add_assoc,Nat.add_comm 1 j] using this
   have key : ∃ v,((Region.wanted o (yielded ops a.tmps) = true ∧ ∀ L2,OpY r n P o a.eval (fun W => Ext w0 W (L ++ L2)) (fun W => Ext w0 W (L ++ L2)) v) ∨ (Region.wanted o (yielded ops a.tmps) = false ∧ v = undef)) ∧ QWd r n P ops w0 L G Y K q rest (a.put o.dst v):=by
    unfold QWd at h
    by_cases hw : Region.wanted o (yielded ops a.tmps) = true
    ·rw [if_pos hw] at h
     obtain ⟨v,h1,h2⟩:=h
     exact ⟨v,.inl ⟨hw,h1⟩,h2⟩
    ·rw [if_neg hw] at h
     exact ⟨undef,.inr ⟨by simpa using hw,rfl⟩,h⟩
   obtain ⟨v,hv,hqq⟩:=key
   obtain ⟨vals,acts,h0,h1,hu,hop,h2,h2',h3⟩:=ih rest (i0 + 1) _ (by simpa using hq) hl' hqq
   refine ⟨fun | 0 => v | j + 1 => vals j,fun | 0 => a | j + 1 => acts j,rfl,?_,hu,?_,?_,?_,h3⟩
   ·intro j
    cases j with
    | zero => show acts 0 = a.put (dstA ops (i0 + 0)) v; rw [h0,Nat.add_zero,hdst]
    | succ j => show acts (j + 1) = (acts j).put (dstA ops (i0 + (j + 1))) (vals j); rw [h1 j]; simp [Nat.add_assoc,Nat.add_comm 1 j]
   ·intro o' ho'
    exact hop o' (by simpa [Nat.add_assoc,Nat.add_comm 1 q] using ho')
   ·intro j o' hj ho'
    cases j with
    | zero =>
     have : o' = o:=by rw [Nat.add_zero,ho] at ho'; cases ho'; rfl
     subst this
     exact hv
    | succ j => exact h2 j o' (by omega) (by simpa [Nat.add_assoc,Nat.add_comm 1 j] using ho')
   ·intro j o' hj hne ho'
    cases j with
    | zero => exact absurd hne (Nat.not_lt_zero _)
    | succ j => exact h2' j o' (by simpa using hj) (by omega) (by simpa [Nat.add_assoc,Nat.add_comm 1 j] using ho')
def depB (_ops : Array Oper) (q : Nat) (o : Oper) : Bool:=o.after.any fun e => Region.binds .any e && e.on == q
theorem depB_spec {q : Nat} {o : Oper} (h : depB ops q o = true) : ∃ e ∈ o.after,Region.binds .any e = true ∧ e.on = q:=by
 unfold depB at h
 rw [Array.any_eq_true] at h
 obtain ⟨i,hi,he⟩:=h
 simp only [Bool.and_eq_true,beq_iff_eq] at he
 exact ⟨o.after[i],Array.getElem_mem hi,he.1,he.2⟩
def obD (r : Option Nat) (n : Nat) (P : Program) (ops : Array Oper) (w0 : World) (L : List Res) (G : Value → List Res → Prop) (q : Nat) (o : Oper) (a : Act) (v : Value) : Prop :=
 (depB ops q o = false → ∀ L2,OpY r n P o a.eval (fun W => Ext w0 W (L ++ L2)) (fun W => Ext w0 W (L ++ L2)) v) ∧
 (depB ops q o = true → ∀ v1 L1,G v1 L1 → OpY r n P o (a.put (dstA ops q) v1).eval (fun W => Ext w0 W (L ++ L1)) (fun W => Ext w0 W (L ++ L1)) v)
def floatD (ops : Array Oper) (q k : Nat) : Bool:=decide (q < k) && (List.range k).all fun j => decide (j ≤ q) || (match ops[q]?,ops[j]? with
 | some oq,some oj => if depB ops q oj then oj.guard.isNone && (match oq.dst,oj.dst with
  | some a,some b => a != b
  | _,_ => false) else oq.apart ops oj
 | _,_ => false)
theorem wp_drawsD {l : List Oper} (q k : Nat) (G : Value → List Res → Prop) (hm : P.follows .mixedOrders = true) (hO : orderB l.toArray = true) (hT : tailB l.toArray k = true) (hF : floatD l.toArray q k = true) {id : Nat} {a0 : Act} {W0 w0 : World} {L : List Res}
  (h0 : Ext w0 { W0 with drawn:=W0.drawn + 1 } L)
  (hq : QWd r n P l.toArray w0 L G (obD r n P l.toArray w0 L G q) (fun a' => ∀ v L1 W,G v L1 → Ext w0 W (L ++ L1) → OL r n P l.toArray (onlyN Q) (l.drop k) (a'.put ((l[q]?).bind (·.dst)) v) W) q (l.take k) a0) : (Code.region id l.toArray true).wpIn (Fw r) n P Q a0 W0:=by
 refine wpIn_mono (Q:=onlyN Q) ?_ (fun e a w h => by obtain ⟨rfl,h⟩:=h; exact h)
 refine wpIn_region_any hm ?_
 obtain ⟨ops,hops⟩ : ∃ ops,ops = l.toArray:=⟨_,rfl⟩
 rw [← hops] at hO hT hF hq ⊢
 unfold tailB at hT
 simp only [Bool.and_eq_true,Bool.or_eq_true,decide_eq_true_eq] at hT
 obtain ⟨hkN,hT⟩:=hT
 unfold floatD at hF
 simp only [Bool.and_eq_true,decide_eq_true_eq] at hF
 obtain ⟨hqk,hF⟩:=hF
 have hqN : q < ops.size:=by omega
 obtain ⟨oq,hoq⟩ : ∃ o,ops[q]? = some o:=⟨_,Array.getElem?_eq_some_iff.2 ⟨hqN,rfl⟩⟩
 have hfar0 : ∀ j oj,q < j → j < k → ops[j]? = some oj → (depB ops q oj = true ∧ oj.guard = none ∧ ∀ d,oq.dst = some d → oj.dst = some d → False) ∨ (depB ops q oj = false ∧ oq.apart ops oj = true):=fun j oj h1 h2 hoj => by
  have:=List.all_eq_true.1 hF j (List.mem_range.2 h2)
  simp only [Bool.or_eq_true,decide_eq_true_eq,hoq,hoj] at this
  rcases this with h | h
  ·omega
  ·by_cases hd : depB ops q oj = true
   ·rw [if_pos hd] at h
    simp only [Bool.and_eq_true,Option.isNone_iff_eq_none] at h
    refine .inl ⟨hd,h.1,fun d e1 e2 => ?_⟩
    have:=h.2
    rw [e1,e2] at this
    simp at this
   ·rw [if_neg hd] at h
    exact .inr ⟨by simpa using hd,h⟩
 have hdd : ∀ j oj,q < j → j < k → ops[j]? = some oj → ∀ d,oq.dst = some d → oj.dst = some d → False:=fun j oj h1 h2 hoj d e1 e2 => by
  rcases hfar0 j oj h1 h2 hoj with h | h
  ·exact h.2.2 d e1 e2
  ·exact (Oper.apart_spec h.2).2.1 d e1 e2
 have hlen : (l.take k).length = k:=by rw [hops] at hkN; simp at hkN; simp; omega
 obtain ⟨vals,acts,ha0,hacts,hvq,hopq,hvalsB,hvalsA,hK⟩:=qwd_vals q (l.take k) 0 a0 (by rw [hlen]; exact hqk) (fun j hj => by
  rw [hlen] at hj
  rw [hops]; simp [hj]) hq
 rw [hlen] at hvalsA hK
 simp only [Nat.zero_add] at hacts hvalsB hvalsA hopq
 have hlq : (l[q]?).bind (·.dst) = oq.dst:=by
  rw [hops] at hoq
  have : l[q]? = some oq:=by simpa using hoq
  rw [this]; rfl
 rw [hlq] at hK
 have hst : ∀ m,acts m = stA ops vals a0 (fun _ => true) m:=by
  intro m
  induction m with
  | zero => exact ha0
  | succ m ih => rw [hacts m,ih]; simp [stA]
 have hdq : dstA ops q = oq.dst:=by simp [dstA,hoq]
 have hfr0 : k = ops.size ∨ (List.range k).all (fun i => [q].contains i || (List.range (k + 1)).any fun j => decide (i < j) && tailB.Region.waitsB ops j i) = true ∧ ((List.range ops.size).all fun t => decide (t ≤ k) || tailB.Region.waitsB ops t (t - 1)) = true:=by
  rcases hT with h | h
  ·exact .inl h
  ·refine .inr ⟨?_,h.2⟩
   rw [List.all_eq_true] at *
   intro i hi
   rw [h.1 i hi,Bool.or_true]
 have hfr1 : k = ops.size ∨ (List.range k).all (fun i => ([] : List Nat).contains i || (List.range (k + 1)).any fun j => decide (i < j) && tailB.Region.waitsB ops j i) = true ∧ ((List.range ops.size).all fun t => decide (t ≤ k) || tailB.Region.waitsB ops t (t - 1)) = true:=by
  rcases hT with h | h
  ·exact .inl h
  ·refine .inr ⟨?_,h.2⟩
   rw [List.all_eq_true] at *
   intro i hi
   rw [h.1 i hi,Bool.or_true]
 have hsink:=sink (fr:=[]) hkN hfr1
 have main : ∀ (c : Nat) (listed : Array Bool) (W : World),Ext w0 W L → listed.size = ops.size → left listed k = c + 1 → listed.getD q false = false →
   (∀ j oj,ops[j]? = some oj → listed.getD j false = true → ∀ e ∈ oj.after,Region.binds .any e = true → listed.getD e.on false = true) →
   (∀ t,k ≤ t → t < ops.size → listed.getD t false = false) →
   wpAnyIn (Fw r) n P .any ops (onlyN Q) (c + 1 + (ops.size - k)) listed (stA ops vals a0 (fun j => listed.getD j false) k) W:=by
  intro c
  induction c using Nat.strongRecOn with
  | _ c ih =>
  intro listed W hC hsz hc hunq hcl htl
  rw [show c + 1 + (ops.size - k) = (c + (ops.size - k)) + 1 by omega]
  have hrdy : ∀ j,j < ops.size → listed.getD j false = false → ∃ i,i ∈ Region.ready .any ops listed:=by
   intro j
   induction j using Nat.strongRecOn with
   | _ j ihj =>
    intro hj hun
    obtain ⟨o,ho⟩ : ∃ o,ops[j]? = some o:=⟨_,Array.getElem?_eq_some_iff.2 ⟨hj,rfl⟩⟩
    by_cases hall : ∀ e ∈ o.after,Region.binds .any e = true → listed.getD e.on false = true
    ·exact ⟨j,mem_ready.2 ⟨by rw [getD_bool (by omega) true false]; exact hun,o,ho,hall⟩⟩
    ·have : ∃ e ∈ o.after,Region.binds .any e = true ∧ listed.getD e.on false = false:=by
      apply Classical.byContradiction
      intro hno
      exact hall fun e he hb => by
       cases hl : listed.getD e.on false with
       | true => rfl
       | false => exact absurd ⟨e,he,hb,hl⟩ hno
     obtain ⟨e,he,hb,hf⟩:=this
     have hlt:=(orderB_spec hO ho).2.2.1 e he hb
     exact ihj e.on hlt (by omega) hf
  obtain ⟨i1,hi1⟩:=hrdy q hqN hunq
  refine ⟨fun h => (by rw [h] at hi1; cases hi1),fun i hi => ?_⟩
  obtain ⟨hun,o,ho,hall⟩:=mem_ready.1 hi
  have hiN : i < ops.size:=(Array.getElem?_eq_some_iff.1 ho).1
  have hun':=hun
  rw [getD_bool (by omega) true false] at hun'
  have hik : i < k:=by
   rcases Nat.lt_or_ge i k with h | h
   ·exact h
   ·exact absurd hi (hsink listed hsz hcl htl (fun i hi => absurd hi List.not_mem_nil) _ q rfl hqk hunq i h)
  have hl:=left_set (by omega) hun' k hik
  have hcl' : ∀ j oj,ops[j]? = some oj → (listed.setIfInBounds i true).getD j false = true → ∀ e ∈ oj.after,Region.binds .any e = true → (listed.setIfInBounds i true).getD e.on false = true:=fun j oj hoj hlj e he hb => by
   rw [getD_set (by omega)] at hlj ⊢
   by_cases e' : j = i
   ·subst e'
    rw [ho] at hoj; cases hoj
    rw [hall e he hb]; rfl
   ·have : (j == i) = false:=by simpa using e'
    rw [this,Bool.or_false] at hlj
    rw [hcl j oj hoj hlj e he hb]; rfl
  have htl' : ∀ t,k ≤ t → t < ops.size → (listed.setIfInBounds i true).getD t false = false:=fun t h1 h2 => by
   rw [getD_set (by omega),htl t h1 h2]
   simp; omega
  by_cases hiq : i = q
  ·subst hiq
   rw [hoq] at ho; cases ho
   obtain ⟨hwq,hwp⟩:=hopq oq hoq
   -- the frame as in the text's order
   have hlook : ∀ j,j < k → (listed.getD j false) ≠ decide (j < i) → ∀ d,dstA ops j = some d → ¬ d ∈ oq.looksAt ops:=by
    intro j hj hne d hd hmem
    obtain ⟨oj,hoj⟩ : ∃ oj,ops[j]? = some oj:=⟨_,Array.getElem?_eq_some_iff.2 ⟨by omega,rfl⟩⟩
    have hdj : oj.dst = some d:=by simpa [dstA,hoj] using hd
    rcases Nat.lt_trichotomy j i with h | h | h
    ·have hl : listed.getD j false = false:=by
      cases hl : listed.getD j false with
      | false => rfl
      | true => exact absurd (by rw [hl]; simp [h]) hne
     rcases (orderB_spec hO hoq).2.2.2 j oj h hoj with hap | ⟨e,he,hb,hon⟩
     ·exact (Oper.apart_spec hap).1 d hdj hmem
     ·have:=hall e he hb
      rw [hon,hl] at this; cases this
    ·subst h
     exact absurd (by rw [hun']; simp) hne
    ·rcases hfar0 j oj h hj hoj with h9 | h9
     ·have hl : listed.getD j false = true:=by
       cases hl : listed.getD j false with
       | true => rfl
       | false => exact absurd (by rw [hl]; simp; omega) hne
      obtain ⟨e,he,hb,hon⟩:=depB_spec h9.1
      have:=hcl j oj hoj hl e he hb
      rw [hon,hun'] at this; cases this
     ·exact (Oper.apart_spec h9.2).2.2 d hdj hmem
   have hag:=stA_agree (ops:=ops) vals a0 (fun x => x ∈ oq.looksAt ops) (fun j => listed.getD j false) (fun j => decide (j < i)) k hlook
   have hlex : stA ops vals a0 (fun j => decide (j < i)) k = acts i:=by
    rw [hst i]
    have h1 : ∀ m,m ≤ i → stA ops vals a0 (fun j => decide (j < i)) m = stA ops vals a0 (fun _ => true) m:=by
     intro m
     induction m with
     | zero => intro _; rfl
     | succ m ih => intro hm; simp only [stA]; rw [ih (by omega)]; simp; omega
    have h2 : ∀ m,i ≤ m → stA ops vals a0 (fun j => decide (j < i)) m = stA ops vals a0 (fun j => decide (j < i)) i:=by
     intro m
     induction m with
     | zero =>
      intro h
      have : i = 0:=by omega
      subst this; rfl
     | succ m ih =>
      intro hm
      by_cases e : i = m + 1
      ·rw [e]
      ·simp only [stA]
       rw [if_neg (by simp; omega)]
       exact ih (by omega)
    rw [h2 k (by omega),h1 i (Nat.le_refl _)]
   rw [hlex] at hag
   obtain ⟨hev,hwa⟩:=looks_same (ops:=ops) (o:=oq) (a:=stA ops vals a0 (fun j => listed.getD j false) k) (b:=acts i) hag.1
   obtain ⟨hsel,hdef,_,_⟩:=orderB_spec hO hoq
   unfold wpOpIn
   simp only [hoq]
   rw [hwa,if_pos hwq]
   refine wpIn_move (a:=acts i) hsel hdef (fun x hx => (hev x hx).symm) (by rw [hst i,stA_size,stA_size]) (by rw [hst i,stA_defs,stA_defs]) (hwp W hC) ?_
   intro v L1 W' hG hE
   -- behind it
   have hvb : ∀ m,stA ops (fun j => if j = i then v else vals j) a0 (fun _ => true) m = if m ≤ i then acts m else stA ops (fun j => if j = i then v else vals j) a0 (fun _ => true) m:=by
    intro m
    split
    ·rename_i hm
     induction m with
     | zero => exact ha0.symm
     | succ m ihm => rw [hacts m,← ihm (by omega)]; simp [stA]; rw [if_neg (by omega)]
    ·rfl
   have hfin2 : ∀ m,i < m → m ≤ k → stA ops (fun j => if j = i then v else vals j) a0 (fun _ => true) m = (acts m).put oq.dst v:=by
    intro m
    induction m with
    | zero => intro h; omega
    | succ m ihm =>
     intro h1 h2
     by_cases e : m = i
     ·subst e
      have:=hvb m
      rw [if_pos (Nat.le_refl _)] at this
      simp only [stA,if_true]
      rw [this,hdq,hacts m,hdq,hvq]
      exact (put_put _ _ _ _).symm
     ·have:=ihm (by omega) (by omega)
      simp only [stA,if_true]
      rw [this,if_neg e,hacts m]
      refine Act.put_comm _ _ _ (fun d hd hd' => ?_)
      obtain ⟨om,hom⟩ : ∃ om,ops[m]? = some om:=⟨_,Array.getElem?_eq_some_iff.2 ⟨by omega,rfl⟩⟩
      have hdm : om.dst = some d:=by simpa [dstA,hom] using hd'
      exact hdd m om (by omega) (by omega) hom d hd hdm
   have hvl : ∀ m,m ≤ k → stA ops (fun j => if j = i then v else vals j) a0 (fun j => (listed.setIfInBounds i true).getD j false) m = if m ≤ i then stA ops vals a0 (fun j => listed.getD j false) m else (stA ops vals a0 (fun j => listed.getD j false) m).put oq.dst v:=by
    intro m
    induction m with
    | zero => intro _; simp; rfl
    | succ m ihm =>
     intro hm
     simp only [stA]
     rw [ihm (by omega),getD_set (by omega)]
     rcases Nat.lt_trichotomy m i with h | h | h
     ·rw [if_pos (show m ≤ i by omega),if_pos (show m + 1 ≤ i by omega),if_neg (show ¬ m = i by omega)]
      have : (m == i) = false:=by simp; omega
      rw [this,Bool.or_false]
     ·subst h
      rw [if_pos (Nat.le_refl m),if_neg (show ¬ (m + 1 ≤ m) by omega)]
      simp [hun',hdq]
     ·rw [if_neg (show ¬ m ≤ i by omega),if_neg (show ¬ m + 1 ≤ i by omega),if_neg (show ¬ m = i by omega)]
      have : (m == i) = false:=by simp; omega
      rw [this,Bool.or_false]
      split
      ·refine Act.put_comm _ _ _ (fun d hd hd' => ?_)
       obtain ⟨om,hom⟩ : ∃ om,ops[m]? = some om:=⟨_,Array.getElem?_eq_some_iff.2 ⟨by omega,rfl⟩⟩
       have hdm : om.dst = some d:=by simpa [dstA,hom] using hd'
       exact hdd m om (by omega) (by omega) hom d hd hdm
      ·rfl
   have hli : (listed.setIfInBounds i true).getD i false = true:=by rw [getD_set (by omega)]; simp
   have:=any_quiet (r:=r) (n:=n) (P:=P) (Q:=Q) hops [i] (k:=k) hO hkN hfr0 (a0:=a0) (vals:=fun j => if j = i then v else vals j)
    (acts:=stA ops (fun j => if j = i then v else vals j) a0 (fun _ => true)) (C:=fun W => Ext w0 W (L ++ L1)) (fun _ => rfl)
    (fun j o hj hne ho => by
     have hji : j ≠ i:=fun h => hne (by simp [h])
     simp only [if_neg hji]
     rcases Nat.lt_or_ge i j with h | h
     ·rw [hfin2 j h (by omega)]
      rcases hfar0 j o h hj ho with h9 | h9
      ·have hw9 : ∀ y,Region.wanted o y = true:=fun y => by unfold Region.wanted; rw [h9.2.1]
       rcases hvalsA j o hj h ho with ⟨h1,h2⟩ | h1
       ·refine .inl ⟨hw9 _,?_⟩
        have:=h2.2 h9.1 v L1 hG
        rw [hdq] at this
        exact this
       ·rw [hw9] at h1
        cases h1.1
      ·have hsame:=looks_same (ops:=ops) (o:=o) (a:=acts j) (b:=(acts j).put oq.dst v) (fun y hy => (put_get (acts j) oq.dst _ y (fun hc => (Oper.apart_spec h9.2).1 y hc hy)).symm)
       obtain ⟨hsel,hdef,_,_⟩:=orderB_spec hO ho
       rw [← hsame.2]
       rcases hvalsA j o hj h ho with ⟨h1,h2⟩ | h1
       ·exact .inl ⟨h1,opY_congr hsel hdef (fun x hx => hsame.1 x hx) (h2.1 h9.1 L1)⟩
       ·exact .inr h1
     ·have:=hvb j
      rw [if_pos h] at this
      rw [this]
      rcases hvalsB j o (by omega) ho with ⟨h1,h2⟩ | h1
      ·exact .inl ⟨h1,h2 L1⟩
      ·exact .inr h1)
    (fun W' hW' => by
     rw [hfin2 k hqk (Nat.le_refl _)]
     exact hK v L1 W' hG hW')
    c (listed.setIfInBounds i true) W' hE (by simpa using hsz) (by omega) hcl' htl' (fun j hj => by rw [List.mem_singleton.1 hj]; exact hli)
   rw [hvl k (Nat.le_refl _),if_neg (by omega)] at this
   exact this
  ·have hlq : (listed.setIfInBounds i true).getD q false = false:=by
    rw [getD_set (by omega),hunq]
    simp; omega
   obtain ⟨c',rfl⟩ : ∃ c',c = c' + 1:=by
    have : left (listed.setIfInBounds i true) k ≠ 0:=fun h0 => by
     have:=left_zero h0 q hqk
     rw [hlq] at this; cases this
    exact ⟨c - 1,by omega⟩
   refine quiet_step (r:=r) (C:=fun W => Ext w0 W L) hO hkN hst hC hsz hcl hik hun ho hall ?_ (fun W' hC' => ?_)
   ·rcases Nat.lt_or_ge i q with hlt | hge
    ·rcases hvalsB i o hlt ho with ⟨h1,h2⟩ | h1
     ·refine .inl ⟨h1,?_⟩
      have:=h2 []
      rw [List.append_nil] at this
      exact this
     ·exact .inr h1
    ·have hnd : depB ops q o = false:=by
      cases hd : depB ops q o with
      | false => rfl
      | true =>
       obtain ⟨e,he,hb,hon⟩:=depB_spec hd
       have:=hall e he hb
       rw [hon,hunq] at this; cases this
     rcases hvalsA i o hik (by omega) ho with ⟨h1,h2⟩ | h1
     ·refine .inl ⟨h1,?_⟩
      have:=h2.1 hnd []
      rw [List.append_nil] at this
      exact this
     ·exact .inr h1
   ·exact ih c' (by omega) (listed.setIfInBounds i true) W' hC' (by simpa using hsz) (by omega) hlq hcl' htl'
 have e1 : left (Array.replicate ops.size false) k = k:=by
  unfold left
  rw [List.filter_eq_self.2 fun j hj => ?_]
  ·simp
  ·have:=List.mem_range.1 hj
   simp [show j < ops.size by omega]
 have hfin:=main (k - 1) (Array.replicate ops.size false) _ h0 (by simp) (by rw [e1]; omega) (by simp [hqN]) (fun j oj hoj hl => by
  have : j < ops.size:=(Array.getElem?_eq_some_iff.1 hoj).1
  simp [this] at hl) (fun t _ h => by simp [h])
 have e2 : stA ops vals a0 (fun j => (Array.replicate ops.size false).getD j false) k = a0:=by
  have : ∀ m,m ≤ k → stA ops vals a0 (fun j => (Array.replicate ops.size false).getD j false) m = a0:=by
   intro m
   induction m with
   | zero => intro _; rfl
   | succ m ih => intro hm; simp only [stA]; rw [ih (by omega)]; simp [show m < ops.size by omega]
  exact this k (Nat.le_refl _)
 rw [show k - 1 + 1 + (ops.size - k) = ops.size by omega,e2] at hfin
 exact hfin
end
section
variable {r : Option Nat} {n : Nat} {P : Program} {ops : Array Oper} {Q : Exit → Act → World → Prop} {w0 : World} {L : List Res} {m : Nat} {tm : Nat → Value} {d : List Deferred}
variable {t : Tmp} {ty : TypeId} {pos : String} {af : Array Edge} {g : Option (Nat × Bool)} {l rest : List Oper} {G : Value → List Res → Prop} {q k : Nat} {all : List Oper}
def BD (r : Option Nat) (n : Nat) (P : Program) (ops : Array Oper) (Q : Exit → Act → World → Prop) (w0 : World) (L : List Res) (G : Value → List Res → Prop) (q k : Nat) (all : List Oper) (i : Nat) (l : List Oper) (m : Nat) (tm : Nat → Value) (d : List Deferred) : Prop :=
 QWd r n P ops w0 L G (obD r n P ops w0 L G q) (fun a' => ∀ v L1 W,G v L1 → Ext w0 W (L ++ L1) → OL r n P ops (onlyN Q) (all.drop k) (a'.put ((all[q]?).bind (·.dst)) v) W) i l (act m tm d)
def KD (r : Option Nat) (n : Nat) (P : Program) (ops : Array Oper) (Q : Exit → Act → World → Prop) (w0 : World) (L : List Res) (G : Value → List Res → Prop) (q k : Nat) (all : List Oper) (l : List Oper) (m : Nat) (tm : Nat → Value) (d : List Deferred) : Prop :=
 QWa ops (obD r n P ops w0 L G q) (fun a' => ∀ v L1 W,G v L1 → Ext w0 W (L ++ L1) → OL r n P ops (onlyN Q) (all.drop k) (a'.put ((all[q]?).bind (·.dst)) v) W) l (act m tm d)
theorem cx_drawsD (q k : Nat) (G : Value → List Res → Prop) {id : Nat} {l : List Oper} (hm : P.follows .mixedOrders = true) (hO : orderB l.toArray = true) (hT : tailB l.toArray k = true) (hF : floatD l.toArray q k = true)
  (h : BD r n P l.toArray Q w0 L G q k l q (l.take k) m tm d) : CX r n P (.region id l.toArray true) Q w0 L m tm d :=
 fun _ hW => wp_drawsD q k G hm hO hT hF hW.drawn h
theorem bdx_y {i : Nat} {op : Op} {v : Value} (hw : seesB ops m tm ⟨some t,op,ty,pos,af,g⟩ = true) (hy : ∀ L2,OpY r n P ⟨some t,op,ty,pos,af,g⟩ (opv m tm) (fun W => Ext w0 W (L ++ L2)) (fun W => Ext w0 W (L ++ L2)) v)
  (h : BD r n P ops Q w0 L G q k all i rest m (upd tm t v) d) : BD r n P ops Q w0 L G q k all (i + 1) (⟨some t,op,ty,pos,af,g⟩ :: rest) m tm d:=by
 unfold BD QWd
 rw [wanted_act,if_pos hw,eval_act]
 refine ⟨v,hy,?_⟩
 rw [put_act]
 exact h
theorem bdx_q {op : Op} (hw : seesB ops m tm ⟨some t,op,ty,pos,af,g⟩ = true) (hop : OX r n P ops (capQ w0 L (act m tm d) (some t) G) w0 L [⟨some t,op,ty,pos,af,g⟩] m tm d)
  (h : KD r n P ops Q w0 L G q k all rest m (upd tm t undef) d) : BD r n P ops Q w0 L G q k all 0 (⟨some t,op,ty,pos,af,g⟩ :: rest) m tm d:=by
 unfold BD QWd
 refine ⟨by rw [wanted_act]; exact hw,fun W hW => ?_,?_⟩
 ·have h1:=hop W hW
  unfold OL at h1
  rw [wanted_act,if_pos hw] at h1
  exact Oper.wpIn_mono (fun a w h => h) h1
 ·rw [put_act]
  exact h
theorem kdx_y {op : Op} {v : Value} (hw : seesB ops m tm ⟨some t,op,ty,pos,af,g⟩ = true) (hn : depB ops q ⟨some t,op,ty,pos,af,g⟩ = false) (hy : ∀ L2,OpY r n P ⟨some t,op,ty,pos,af,g⟩ (opv m tm) (fun W => Ext w0 W (L ++ L2)) (fun W => Ext w0 W (L ++ L2)) v)
  (h : KD r n P ops Q w0 L G q k all rest m (upd tm t v) d) : KD r n P ops Q w0 L G q k all (⟨some t,op,ty,pos,af,g⟩ :: rest) m tm d:=by
 unfold KD QWa
 rw [wanted_act,if_pos hw]
 refine ⟨v,⟨fun _ => ?_,fun h9 => ?_⟩,?_⟩
 ·rw [eval_act]; exact hy
 ·rw [hn] at h9; cases h9
 ·rw [put_act]
  exact h
theorem kdx_dep {op : Op} {v : Value} {tq : Tmp} (hw : seesB ops m tm ⟨some t,op,ty,pos,af,g⟩ = true) (hn : depB ops q ⟨some t,op,ty,pos,af,g⟩ = true) (hd : dstA ops q = some tq) (hy : ∀ v1 L1,G v1 L1 → OpY r n P ⟨some t,op,ty,pos,af,g⟩ (opv m (upd tm tq v1)) (fun W => Ext w0 W (L ++ L1)) (fun W => Ext w0 W (L ++ L1)) v)
  (h : KD r n P ops Q w0 L G q k all rest m (upd tm t v) d) : KD r n P ops Q w0 L G q k all (⟨some t,op,ty,pos,af,g⟩ :: rest) m tm d:=by
 unfold KD QWa
 rw [wanted_act,if_pos hw]
 refine ⟨v,⟨fun h9 => ?_,fun _ v1 L1 hG => ?_⟩,?_⟩
 ·rw [hn] at h9; cases h9
 ·rw [hd,put_act,eval_act]; exact hy v1 L1 hG
 ·rw [put_act]
  exact h
theorem kdx_nil (hd : (all[q]?).bind (·.dst) = some t) (h : ∀ v L1,G v L1 → OX r n P ops (onlyN Q) w0 (L ++ L1) (all.drop k) m (upd tm t v) d) : KD r n P ops Q w0 L G q k all [] m tm d:=by
 unfold KD QWa
 intro v L1 W hG hW
 rw [hd,put_act]
 exact h v L1 hG W hW
end
end Go.Proofs.YtbblpokfbmekfaaGreat
