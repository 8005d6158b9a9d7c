import Derived.Test.YtbblpokfbmekfaaGreatG6
import Derived.Test.YtbblpokfbmekfaaGreatGt
set_option linter.unusedVariables false
namespace Go.Proofs.YtbblpokfbmekfaaGreat
open Go.RowKit (Below)
section
variable {κ β γ : Type} [DecidableEq κ]
variable {P : Program} {kt : TypeId} {ek : κ → Value} {ok : κ → Bool} {ev : β → Value} {z : β} {b : Nat}
theorem ownsMap_tight {W : World} {n : Nat} {D : DataW Value} (h : W.ownsMap P kt rawR b n D) : W.ownsMap P kt rawR b (Maps.size D) D:=by
 obtain ⟨es,clock,hb,F,hs,rfl⟩:=h
 exact ⟨es,clock,hb,F,by simp [Maps.size,length_sorted],rfl⟩
theorem ranges_tight {W : World} {it n cnt : Nat} {D : DataW Value} {lf : Lit → Bool} (h : W.ranges P kt rawR b it n D lf cnt) : W.ranges P kt rawR b it (Maps.size D) D lf cnt:=by
 obtain ⟨es,clock,since,seen,c0,hb,F,hs,rfl,h2⟩:=h
 exact ⟨es,clock,since,seen,c0,hb,F,by simp [Maps.size,length_sorted],rfl,h2⟩
theorem ranges_mono {W : World} {it n n' cnt : Nat} {D : DataW Value} {lf : Lit → Bool} (h : W.ranges P kt rawR b it n D lf cnt) (hn : n ≤ n') : W.ranges P kt rawR b it n' D lf cnt:=by
 obtain ⟨es,clock,since,seen,c0,hb,F,hs,hD,h2⟩:=h
 exact ⟨es,clock,since,seen,c0,hb,F,Nat.le_trans hs hn,hD,h2⟩
theorem size_le_keys {W : World} {n : Nat} {D : DataW Value} (K : KeyE P kt ek ok) (h : W.ownsMap P kt rawR b n D) {m : List (κ × β)} (h3 : ∀ x l,ok x = true → keyOf P kt (ek x) = some l → Maps.has D l = true → mhasV m x = true) (h4 : ∀ l,Maps.has D l = true → ∃ x,ok x = true ∧ keyOf P kt (ek x) = some l) : Maps.size D ≤ m.length:=by
 obtain ⟨es,rfl,hp,hk⟩:=h.entries K.keyed
 have hn : (es.map Prod.fst).Nodup:=by
  rw [List.Nodup,List.pairwise_map]
  exact hp
 have hs : ∀ l ∈ es.map Prod.fst,l ∈ (m.map Prod.fst).filterMap fun x => keyOf P kt (ek x):=fun l hl => by
  obtain ⟨p,hpm,rfl⟩:=List.mem_map.1 hl
  have hh : Maps.has (.map es) p.1 = true:=by
   rw [Maps.has_eq]
   exact List.any_eq_true.2 ⟨p,hpm,WideAt.sameKey_self (hk p hpm)⟩
  obtain ⟨x,hx,hxl⟩:=h4 _ hh
  exact List.mem_filterMap.2 ⟨x,mhas_mem.1 (h3 x _ hx hxl hh),hxl⟩
 have h1:=nodup_len hn hs
 have h2:=List.length_filterMap_le (fun x => keyOf P kt (ek x)) (m.map Prod.fst)
 rw [List.length_map] at h1 h2
 have : Maps.size (.map es) = es.length:=rfl
 omega
theorem mapV_ext {W : World} (K : KeyE P kt ek ok) {m m' : List (κ × β)} (h : (mapV P kt ek ok ev z b m).holds W) (he : ∀ q,ok q = true → mgetV z m q = mgetV z m' q ∧ mhasV m q = mhasV m' q) : (mapV P kt ek ok ev z b m').holds W:=by
 obtain ⟨D,h1,h2,h3,h4⟩:=h
 have h3' : ∀ x l,ok x = true → keyOf P kt (ek x) = some l → D.atKey l (.held (ev z)) = .held (ev (mgetV z m' x)) ∧ Maps.has D l = mhasV m' x:=fun x l hx hl => by
  rw [← (he x hx).1,← (he x hx).2]
  exact h3 x l hx hl
 exact ⟨D,(ownsMap_tight h1).mono (size_le_keys K h1 (fun x l hx hl hh => by rw [← (h3' x l hx hl).2]; exact hh) h4),h2,h3',h4⟩
end
section
variable {r : Option Nat} {n : Nat} {P : Program} {ρ : Operand → Value} {w0 : World} {L : List Res}
variable {ty : TypeId} {pos : String} {af : Array Edge} {g : Option (Nat × Bool)}
variable {κ β : Type} [DecidableEq κ] {kt : TypeId} {ek : κ → Value} {ok : κ → Bool} {ev : β → Value} {z : β}
theorem del_facts {D : DataW Value} (K : KeyE P kt ek ok) {m : List (κ × β)} {k : κ} {kl : Lit} (hk : ok k = true) (hkl : keyOf P kt (ek k) = some kl)
  (h3 : ∀ x l,ok x = true → keyOf P kt (ek x) = some l → D.atKey l (.held (ev z)) = .held (ev (mgetV z m x)) ∧ Maps.has D l = mhasV m x) (h4 : ∀ l,Maps.has D l = true → ∃ x,ok x = true ∧ keyOf P kt (ek x) = some l) :
  (∀ x l,ok x = true → keyOf P kt (ek x) = some l → (D.del kl).atKey l (.held (ev z)) = .held (ev (mgetV z (mdelV m k) x)) ∧ Maps.has (D.del kl) l = mhasV (mdelV m k) x) ∧ ∀ l,Maps.has (D.del kl) l = true → ∃ x,ok x = true ∧ keyOf P kt (ek x) = some l:=by
 refine ⟨fun x l hx hl => ?_,fun l hl => ?_⟩
 ·rw [mget_del,mhas_del]
  by_cases e : x = k
  ·subst e
   have e2 : l = kl:=by rw [hl] at hkl; exact Option.some.inj hkl
   subst e2
   rw [Maps.atKey_del_same,Maps.has_del_same]
   simp
  ·have hne : l ≠ kl:=fun e2 => e (K.inj x k (K.keyed.inj hl (e2 ▸ hkl)))
   rw [Maps.atKey_del_other hne,Maps.has_del_other hne,(h3 x l hx hl).1,(h3 x l hx hl).2]
   simp [e]
 ·by_cases e : l = kl
  ·subst e; rw [Maps.has_del_same] at hl; cases hl
  ·rw [Maps.has_del_other e] at hl
   exact h4 l hl
theorem y_deleteV (i : Nat) {et mt b : Nat} {m : List (κ × β)} {x y : Operand} {k : κ} (hL : L[i]? = some (mapV P kt ek ok ev z b m)) (K : KeyE P kt ek ok) (hm : P.underlying mt = some (.map kt et)) (hx : ρ x = .map (some b)) (hy : ρ y = ek k) (hr : ok k = true) :
  OpY r n P ⟨none,.call ⟨.builtin .delete,#[x,y],#[mt,kt]⟩,ty,pos,af,g⟩ ρ (fun W => Ext w0 W L) (fun W => Ext w0 W (L.set i (mapV P kt ek ok ev z b (mdelV m k)))) (.tuple #[]):=fun W hW => by
 obtain ⟨D,h1,h2,h3,h4⟩:=hW.mem hL
 obtain ⟨l,hl⟩:=K.tot k hr
 obtain ⟨W',hrun,hown,htn⟩:=h1.drop K.keyed hm hl ty
 obtain ⟨f3,f4⟩:=del_facts K hr hl h3 h4
 have hg:=htn.grown
 have e1 : (execOp ρ ⟨none,.call ⟨.builtin .delete,#[x,y],#[mt,kt]⟩,ty,pos,af,g⟩).run P W = .ok (.value (.tuple #[])) W':=by
  simp only [execOp,resolve,invoke,builtin]
  simp [hx,hy,hrun]
 rw [semAt_exec (by intro c h; cases h),e1]
 refine ⟨rfl,hW.set hL _ ⟨_,(ownsMap_tight hown).mono (size_le_keys K hown (fun x l hx hl hh => by rw [← (f3 x l hx hl).2]; exact hh) f4),h2.del _,f3,f4⟩ hg.os hg.tape hg.output hg.size (fun c hc hn => hg.block c hc (fun e => hn (by cases e; rfl))) (fun c hc => .inl hc)⟩
end
section
variable {r : Option Nat} {n : Nat} {P : Program} {ops : Array Oper} {Q : Exit → Act → World → Prop} {w0 : World} {L : List Res} {m : Nat} {tm : Nat → Value} {d : List Deferred}
variable {ty : TypeId} {pos : String} {af : Array Edge} {g : Option (Nat × Bool)} {rest : List Oper} {e : Exit}
variable {κ β : Type} [DecidableEq κ] {kt : TypeId} {ek : κ → Value} {ok : κ → Bool} {ev : β → Value} {z : β}
theorem ox_deleteR (i : Nat) {et mt b it c : Nat} {M : List (κ × β)} {left : κ → Bool} {cur : Option (Value × Value)} {x y : Operand} {k : κ} (hL : L[i]? = some (rngV P kt ek ok ev z b it M left c cur)) (K : KeyE P kt ek ok) (hm : P.underlying mt = some (.map kt et)) (hx : opv m tm x = .map (some b)) (hy : opv m tm y = ek k) (hr : ok k = true) (hlk : left k = false)
  (hw : seesB ops m tm ⟨none,.call ⟨.builtin .delete,#[x,y],#[mt,kt]⟩,ty,pos,af,g⟩ = true)
  (h : ∀ c',c' ≤ c → OX r n P ops Q w0 (L.set i (rngV P kt ek ok ev z b it (mdelV M k) left c' none)) rest m tm d) :
  OX r n P ops Q w0 L (⟨none,.call ⟨.builtin .delete,#[x,y],#[mt,kt]⟩,ty,pos,af,g⟩ :: rest) m tm d:=fun W hW => by
 obtain ⟨⟨D,lf,h1,h2,h3,h4,h5,h6⟩,_⟩:=hW.mem hL
 obtain ⟨kl,hkl⟩:=K.tot k hr
 obtain ⟨W',c',hrun,hown,hc',htn⟩:=h1.drop K.keyed hm hkl ty
 obtain ⟨f3,f4⟩:=del_facts K hr hkl h3 h4
 have hg:=htn.grown
 have e1 : (execOp (opv m tm) ⟨none,.call ⟨.builtin .delete,#[x,y],#[mt,kt]⟩,ty,pos,af,g⟩).run P W = .ok (.value (.tuple #[])) W':=by
  simp only [execOp,resolve,invoke,builtin]
  simp [hx,hy,hrun]
 have hlf : ∀ l,(lf l && !l.sameKey kl) = lf l:=fun l => by
  by_cases hh : Maps.has D l = true
  ·obtain ⟨q,hq,hql⟩:=h4 l hh
   cases hs : l.sameKey kl with
   | false => simp
   | true =>
    have e4:=WideAt.sameKey_eq hs
    have e5 : q = k:=K.inj q k (K.keyed.inj hql (e4 ▸ hkl))
    subst e5
    rw [h5 q l hq hql,hlk]
    rfl
  ·cases hf : lf l with
   | false => rfl
   | true => exact absurd (h6 l hf) hh
 have hown2 : W'.ranges P kt rawR b it M.length (D.del kl) lf c':=by
  have e6 : (fun x => lf x && !x.sameKey kl) = lf:=funext hlf
  rw [e6] at hown
  exact hown
 have h8 : (rngV P kt ek ok ev z b it (mdelV M k) left c' none).holds W':=by
  refine ⟨⟨_,lf,ranges_mono (ranges_tight hown2) (size_le_keys K hown2.owns (fun x l hx hl hh => by rw [← (f3 x l hx hl).2]; exact hh) f4),h2.del _,f3,f4,h5,fun l hl => ?_⟩,fun q hq => by cases hq⟩
  have h9:=h6 l hl
  by_cases e7 : l = kl
  ·subst e7
   have h10:=hlf l
   rw [hl,WideAt.sameKey_self (K.keyed.key hkl)] at h10
   cases h10
  ·rw [Maps.has_del_other e7]
   exact h9
 have hE : Ext w0 W' (L.set i (rngV P kt ek ok ev z b it (mdelV M k) left c' none)) :=
  hW.set hL _ h8 hg.os hg.tape hg.output hg.size (fun c hc hn => hg.block c hc (fun e => hn (.inl (by cases e; rfl)))) (fun c hc => .inl hc)
 unfold OL
 rw [wanted_act,if_pos hw]
 refine ⟨fun _ _ => trivial,?_⟩
 show Oper.uponIn (Fw r) n P _ _ _ Q ((Oper.semAt r (act m tm d).eval _).run P W)
 rw [semAt_exec (by intro c h; cases h),eval_act,e1]
 exact h c' hc' W' hE
theorem ex_rngNone (i : Nat) {b it c : Nat} {M : List (κ × β)} {left : κ → Bool} {cur : Option (Value × Value)} (hL : L[i]? = some (rngV P kt ek ok ev z b it M left c cur)) (h : EX Q e w0 (L.set i (rngV P kt ek ok ev z b it M left c none)) m tm d) : EX Q e w0 L m tm d:=fun W hW =>
 h W (hW.tell i hL (fun hh => ⟨hh.1,fun q hq => by cases hq⟩) (fun b hb => hb))
theorem ex_rngEnd (i : Nat) {b it c : Nat} {M : List (κ × β)} {left : κ → Bool} {cur : Option (Value × Value)} (hL : L[i]? = some (rngV P kt ek ok ev z b it M left c cur)) (h : EX Q e w0 (L.set i (mapV P kt ek ok ev z b M)) m tm d) : EX Q e w0 L m tm d:=fun W hW => h W (hW.rangeEnd i hL)
theorem ex_mapExt (i : Nat) {b : Nat} {M : List (κ × β)} (M' : List (κ × β)) (K : KeyE P kt ek ok) (hL : L[i]? = some (mapV P kt ek ok ev z b M)) (he : ∀ q,ok q = true → mgetV z M q = mgetV z M' q ∧ mhasV M q = mhasV M' q) (h : EX Q e w0 (L.set i (mapV P kt ek ok ev z b M')) m tm d) : EX Q e w0 L m tm d:=fun W hW =>
 h W (hW.tell i hL (fun hh => mapV_ext K hh he) (fun b hb => hb))
end
section
variable {P : Program} {κ β : Type} [DecidableEq κ] {kt : TypeId} {ek : κ → Value} {ok : κ → Bool} {ev : β → Value} {z : β}
theorem rngV_at {W W' : World} {b it c : Nat} {M : List (κ × β)} {left : κ → Bool} {cur : Option (Value × Value)} (hh : (rngV P kt ek ok ev z b it M left c cur).holds W) (hb : W'.heap[b]? = W.heap[b]?) (hi : W'.heap[it]? = W.heap[it]?) : (rngV P kt ek ok ev z b it M left c cur).holds W':=by
 obtain ⟨⟨D,lf,⟨es,clock,since,seen,c0,hb0,F,hs,hD,hr,rest⟩,h2⟩,h3⟩:=hh
 exact ⟨⟨D,lf,⟨es,clock,since,seen,c0,hb.trans hb0,F,hs,hD,hi.trans hr,rest⟩,h2⟩,fun q hq => entry_at hr hb0 (hi.trans hr) (hb.trans hb0) (h3 q hq)⟩
theorem rngV_next {W : World} {b it c : Nat} {M : List (κ × β)} {left : κ → Bool} {cur : Option (Value × Value)} (K : KeyE P kt ek ok) (hh : (rngV P kt ek ok ev z b it M left c cur).holds W) (ty : TypeId) :
  ((∀ y,ok y = true → left y = false) ∧ (Instr.next (.pointer (some ⟨it,0,none⟩)) false ty).run P W = .ok (.tuple #[.bool false]) W) ∨
  ∃ y W' c',ok y = true ∧ left y = true ∧ mhasV M y = true ∧ c' < c ∧ (Instr.next (.pointer (some ⟨it,0,none⟩)) false ty).run P W = .ok (.tuple #[.bool true,ek y,ev (mgetV z M y)]) W' ∧ (rngV P kt ek ok ev z b it M (fun q => left q && !decide (q = y)) c' (some (ek y,ev (mgetV z M y)))).holds W' ∧ W.grownBy W' (some it):=by
 obtain ⟨⟨D,lf,hr,h2,h3,h4,h5,h6⟩,_⟩:=hh
 rcases hr.next K.keyed ty with ⟨_,hl,hrun⟩ | ⟨key,v,kl,y0,W',k',hkey,hlk,hv,hat,hrun,hr',hk',hg,hs,hen⟩
 ·refine .inl ⟨fun y hy => ?_,hrun⟩
  obtain ⟨l,hl'⟩:=K.tot y hy
  rw [← h5 y l hy hl']
  exact hl l
 ·obtain ⟨y,hy,hyl⟩:=h4 kl (h6 kl hlk)
  have hke : key = ek y:=K.keyed.inj hkey hyl
  have hva : v = ev (mgetV z M y):=by
   have e1:=(h3 y kl hy hyl).1
   rw [hat] at e1
   have e2 : y0 = (.held v,[]):=(Option.some.inj hv).symm
   rw [e2] at e1
   simp only [DataW.held.injEq] at e1
   exact e1
  subst hke hva
  refine .inr ⟨y,W',k',hy,by rw [← h5 y kl hy hyl]; exact hlk,by rw [← (h3 y kl hy hyl).2]; exact h6 kl hlk,hk',hrun,⟨⟨D,_,hr',h2,h3,h4,fun q l hq hl => ?_,fun l hl => ?_⟩,fun q hq => by cases hq; exact hen⟩,hg⟩
  ·show (lf l && !l.sameKey kl) = (left q && !decide (q = y))
   rw [h5 q l hq hl]
   by_cases e : q = y
   ·subst e
    have e3 : l = kl:=by rw [hl] at hyl; exact Option.some.inj hyl
    rw [e3,WideAt.sameKey_self (K.keyed.key hyl)]
    simp
   ·have e3 : l.sameKey kl = false:=by
     cases hsk : l.sameKey kl with
     | false => rfl
     | true =>
      have e4:=WideAt.sameKey_eq hsk
      exact absurd (K.inj q y (K.keyed.inj hl (e4 ▸ hyl))) e
    rw [e3]
    simp [e]
  ·have hl2 : (lf l && !l.sameKey kl) = true:=hl
   rw [Bool.and_eq_true] at hl2
   exact h6 l hl2.1
def rngA (w0 : World) (P : Program) (kt : TypeId) (ek : κ → Value) (ok : κ → Bool) (ev : β → Value) (z : β) (b it : Nat) (M : List (κ × β)) (left : κ → Bool) (c : Nat) (cur : Option (Value × Value)) : Res where
 dom x:=x = it
 holds W:=it < W.heap.size ∧ ∀ W',W'.heap[it]? = W.heap[it]? → W'.heap[b]? = w0.heap[b]? → (rngV P kt ek ok ev z b it M left c cur).holds W'
 loc W W' h hs hh:=⟨Nat.lt_of_lt_of_le hh.1 hs,fun W2 h1 h2 => hh.2 W2 (h1.trans (h it rfl)) h2⟩
 inb W hh x hx:=by
  have hx' : x = it:=hx
  rw [hx']
  exact hh.1
theorem Cy.rngA {B : Nat} {w0 : World} {b it c : Nat} {M : List (κ × β)} {left : κ → Bool} {cur : Option (Value × Value)} (h : it < B) : Cy B (rngA w0 P kt ek ok ev z b it M left c cur):=fun W x _ hx => by
 have hx' : x = it:=hx
 exact .inl (by omega)
end
section
variable {r : Option Nat} {n : Nat} {P : Program} {ops : Array Oper} {Q : Exit → Act → World → Prop} {w0 : World} {L : List Res} {m : Nat} {tm : Nat → Value} {d : List Deferred}
variable {t : Tmp} {ty : TypeId} {pos : String} {af : Array Edge} {g : Option (Nat × Bool)} {rest : List Oper} {e : Exit}
variable {κ β : Type} [DecidableEq κ] {kt : TypeId} {ek : κ → Value} {ok : κ → Bool} {ev : β → Value} {z : β}
theorem ox_rangeA {mt et b : Nat} {M : List (κ × β)} {x : Operand} (hM : (mapV P kt ek ok ev z b M).holds w0) (K : KeyE P kt ek ok) (hm : P.underlying mt = some (.map kt et)) (hx : opv m tm x = .map (some b))
  (hw : seesB ops m tm ⟨some t,.range mt x,ty,pos,af,g⟩ = true)
  (h : ∀ it k,k ≤ M.length → OX r n P ops Q w0 (L ++ [rngA w0 P kt ek ok ev z b it M (fun y => mhasV M y) k none]) rest m (upd tm t (.pointer (some ⟨it,0,none⟩))) d) :
  OX r n P ops Q w0 L (⟨some t,.range mt x,ty,pos,af,g⟩ :: rest) m tm d :=
 ox_step hw (by intro c h; cases h) fun W hW => by
  have hb0 : b < w0.heap.size:=(mapV P kt ek ok ev z b M).inb w0 hM b rfl
  have hMW:=mapV.later hM hW.below
  obtain ⟨D,h1,h2,h3,h4⟩:=hMW
  obtain ⟨W',hrun,hr,hg,hs⟩:=h1.range K.keyed hm
  have hsz:=hW.size
  have hbW : W'.heap[b]? = w0.heap[b]?:=by rw [hg.block b (by omega) (by simp),hW.below.block b hb0]
  have hrv : (rngV P kt ek ok ev z b W.heap.size M (fun y => mhasV M y) (Maps.size D) none).holds W':=⟨⟨D,Maps.has D,hr,h2,h3,h4,fun y l hy hl => (h3 y l hy hl).2,fun _ h => h⟩,fun q hq => by cases hq⟩
  refine ⟨_,W',_,by simp [execOp,hx,hrun],?_,h W.heap.size (Maps.size D) h1.size_le⟩
  have h7 : Ext w0 W' L:=hW.keep (hW.below.trans ⟨hg.os,hg.tape,hg.output,hg.size,fun c hc => hg.block c (by omega) (by simp)⟩) hg.size (fun i p hp c hd => hg.block c (p.inb W (hW.all i p hp) c hd) (by simp))
  refine h7.snoc ⟨by rw [hs]; exact Nat.lt_succ_self _,fun W2 e1 e2 => rngV_at hrv (e2.trans hbW.symm) e1⟩ (fun c hc => ?_) (fun i q hq c hc hc' => ?_)
  ·have hc' : c = W.heap.size:=hc
   omega
  ·have hc'' : c = W.heap.size:=hc'
   have:=q.inb W (hW.all i q hq) c hc
   omega
theorem ox_nextA (i : Nat) {b it k : Nat} {M : List (κ × β)} {left : κ → Bool} {cur : Option (Value × Value)} {x : Operand} (hb0 : b < w0.heap.size) (hL : L[i]? = some (rngA w0 P kt ek ok ev z b it M left k cur)) (K : KeyE P kt ek ok) (hx : opv m tm x = .pointer (some ⟨it,0,none⟩))
  (hw : seesB ops m tm ⟨some t,.next x false,ty,pos,af,g⟩ = true)
  (h0 : (∀ y,ok y = true → left y = false) → OX r n P ops Q w0 L rest m (upd tm t (.tuple #[.bool false])) d)
  (h1 : ∀ y k',ok y = true → left y = true → mhasV M y = true → k' < k → OX r n P ops Q w0 (L.set i (rngA w0 P kt ek ok ev z b it M (fun q => left q && !decide (q = y)) k' (some (ek y,ev (mgetV z M y))))) rest m (upd tm t (.tuple #[.bool true,ek y,ev (mgetV z M y)])) d) :
  OX r n P ops Q w0 L (⟨some t,.next x false,ty,pos,af,g⟩ :: rest) m tm d :=
 ox_step hw (by intro c h; cases h) fun W hW => by
  have hh:=hW.mem hL
  have hbW : W.heap[b]? = w0.heap[b]?:=hW.below.block b hb0
  rcases rngV_next K (hh.2 W rfl hbW) ty with ⟨hno,hrun⟩ | ⟨y,W',k',hy,hly,hM,hk',hrun,hrv,hg⟩
  ·exact ⟨_,W,L,by simp [execOp,hx,hrun],hW,h0 hno⟩
  ·have hne : b ≠ it:=fun e => by
    have:=hW.new i _ hL it rfl
    omega
   have hbW' : W'.heap[b]? = w0.heap[b]?:=by rw [hg.block b (by have:=hW.size; omega) (by simpa using fun e => hne e),hbW]
   refine ⟨_,W',_,by simp [execOp,hx,hrun],?_,h1 y k' hy hly hM hk'⟩
   exact hW.set hL _ ⟨Nat.lt_of_lt_of_le hh.1 hg.size,fun W2 e1 e2 => rngV_at hrv (e2.trans hbW'.symm) e1⟩ hg.os hg.tape hg.output hg.size (fun c hc hn => hg.block c hc (fun e => hn (by cases e; rfl))) (fun c hc => .inl hc)
theorem ex_rngNoneA (i : Nat) {b it c : Nat} {M : List (κ × β)} {left : κ → Bool} {cur : Option (Value × Value)} (hL : L[i]? = some (rngA w0 P kt ek ok ev z b it M left c cur)) (h : EX Q e w0 (L.set i (rngA w0 P kt ek ok ev z b it M left c none)) m tm d) : EX Q e w0 L m tm d:=fun W hW =>
 h W (hW.tell i hL (fun hh => ⟨hh.1,fun W2 e1 e2 => ⟨(hh.2 W2 e1 e2).1,fun q hq => by cases hq⟩⟩) (fun b hb => hb))
end
section
variable {r : Option Nat} {n : Nat} {P : Program} {ρ : Operand → Value} {w0 : World} {L : List Res}
variable {t : Option Tmp} {ty : TypeId} {pos : String} {af : Array Edge} {g : Option (Nat × Bool)}
variable {κ β : Type} [DecidableEq κ] {kt : TypeId} {ek : κ → Value} {ok : κ → Bool} {ev : β → Value} {z : β}
theorem y_entryA (i : Nat) {b it k : Nat} {M : List (κ × β)} {left : κ → Bool} {a c : Value} {x : Operand} (hb0 : b < w0.heap.size) (hL : L[i]? = some (rngA w0 P kt ek ok ev z b it M left k (some (a,c)))) (hx : ρ x = .pointer (some ⟨it,0,none⟩)) :
  OpY r n P ⟨t,.entry x,ty,pos,af,g⟩ ρ (fun W => Ext w0 W L) (fun W => Ext w0 W L) (.tuple #[a,c]) :=
 opY_val (by intro c h; cases h) (fun W hW => by
  obtain ⟨_,h⟩:=(hW.mem hL).2 W rfl (hW.below.block b hb0)
  simp [execOp,hx,h _ rfl])
end
section
variable {κ β γ : Type} [DecidableEq κ] {ok : κ → Bool}
structure UnionI (ok : κ → Bool) (z v : γ) (M : List (κ × β)) (m0 : List (κ × γ)) (s : Nat × (κ → Bool) × List (κ × γ)) : Prop where
 len : s.2.2.length + s.1 ≤ m0.length + M.length
 val : ∀ q,ok q = true → mgetV z s.2.2 q = (if (mhasV M q && !s.2.1 q) = true then v else mgetV z m0 q) ∧ mhasV s.2.2 q = (mhasV M q && !s.2.1 q || mhasV m0 q)
theorem UnionI.start {z v : γ} {M : List (κ × β)} {m0 : List (κ × γ)} {k : Nat} (hk : k ≤ M.length) : UnionI ok z v M m0 (k,(fun y => mhasV M y),m0) :=
 ⟨by simp; omega,fun q _ => by simp⟩
theorem UnionI.step {z v : γ} {M : List (κ × β)} {m0 : List (κ × γ)} {s : Nat × (κ → Bool) × List (κ × γ)} (h : UnionI ok z v M m0 s) {y : κ} {k : Nat} (hy : ok y = true) (hM : mhasV M y = true) (hk : k < s.1) :
  UnionI ok z v M m0 (k,(fun q => s.2.1 q && !decide (q = y)),(y,v) :: s.2.2):=by
 refine ⟨by have:=h.len; simp only [List.length_cons]; omega,fun q hq => ?_⟩
 obtain ⟨h1,h2⟩:=h.val q hq
 simp only [mget_cons,mhas_cons,h1,h2]
 by_cases e : y = q
 ·subst e
  simp [hM]
 ·have e' : ¬ q = y:=fun h => e h.symm
  simp [e,e']
theorem UnionI.room {z v : γ} {M : List (κ × β)} {m0 : List (κ × γ)} {s : Nat × (κ → Bool) × List (κ × γ)} (h : UnionI ok z v M m0 s) {k : Nat} (hk : k < s.1) (hg : m0.length + M.length ≤ 1000000) : s.2.2.length < 1000000:=by have:=h.len; omega
theorem UnionI.done {z v : γ} {M : List (κ × β)} {m0 : List (κ × γ)} {s : Nat × (κ → Bool) × List (κ × γ)} (h : UnionI ok z v M m0 s) (hno : ∀ y,ok y = true → s.2.1 y = false) : ∀ q,ok q = true → mgetV z s.2.2 q = mgetV z (unionV v M m0) q ∧ mhasV s.2.2 q = mhasV (unionV v M m0) q:=fun q hq => by
 obtain ⟨h1,h2⟩:=h.val q hq
 rw [mget_union,mhas_union,h1,h2,hno q hq]
 simp
structure DiffI (ok : κ → Bool) (z : γ) (M : List (κ × β)) (m0 : List (κ × γ)) (s : Nat × (κ → Bool) × List (κ × γ)) : Prop where
 val : ∀ q,ok q = true → mgetV z s.2.2 q = (if (mhasV M q && !s.2.1 q) = true then z else mgetV z m0 q) ∧ mhasV s.2.2 q = (!(mhasV M q && !s.2.1 q) && mhasV m0 q)
theorem DiffI.start {z : γ} {M : List (κ × β)} {m0 : List (κ × γ)} {k : Nat} : DiffI ok z M m0 (k,(fun y => mhasV M y),m0):=⟨fun q _ => by simp⟩
theorem DiffI.step {z : γ} {M : List (κ × β)} {m0 : List (κ × γ)} {s : Nat × (κ → Bool) × List (κ × γ)} (h : DiffI ok z M m0 s) {y : κ} {k : Nat} (hy : ok y = true) (hM : mhasV M y = true) :
  DiffI ok z M m0 (k,(fun q => s.2.1 q && !decide (q = y)),mdelV s.2.2 y):=by
 refine ⟨fun q hq => ?_⟩
 obtain ⟨h1,h2⟩:=h.val q hq
 simp only [mget_del,mhas_del,h1,h2]
 by_cases e : q = y
 ·subst e; simp [hM]
 ·simp [e]
theorem DiffI.done {z : γ} {M : List (κ × β)} {m0 : List (κ × γ)} {s : Nat × (κ → Bool) × List (κ × γ)} (h : DiffI ok z M m0 s) (hno : ∀ y,ok y = true → s.2.1 y = false) : ∀ q,ok q = true → mgetV z s.2.2 q = mgetV z (diffV M m0) q ∧ mhasV s.2.2 q = mhasV (diffV M m0) q:=fun q hq => by
 obtain ⟨h1,h2⟩:=h.val q hq
 unfold diffV
 rw [mget_filter z (fun x => !mhasV M x),mhas_filter (fun x => !mhasV M x),h1,h2,hno q hq]
 cases mhasV M q <;> simp
structure DropI (ok : κ → Bool) (z : β) (c : κ → Bool) (M : List (κ × β)) (s : Nat × (κ → Bool) × List (κ × β)) : Prop where
 val : ∀ q,ok q = true → mgetV z s.2.2 q = (if (mhasV M q && !s.2.1 q && c q) = true then z else mgetV z M q) ∧ mhasV s.2.2 q = (!(mhasV M q && !s.2.1 q && c q) && mhasV M q)
theorem DropI.start {z : β} {c : κ → Bool} {M : List (κ × β)} {k : Nat} : DropI ok z c M (k,(fun y => mhasV M y),M):=⟨fun q _ => by simp⟩
theorem DropI.keep {z : β} {c : κ → Bool} {M : List (κ × β)} {s : Nat × (κ → Bool) × List (κ × β)} (h : DropI ok z c M s) {y : κ} {k : Nat} (hc : c y = false) : DropI ok z c M (k,(fun q => s.2.1 q && !decide (q = y)),s.2.2):=by
 refine ⟨fun q hq => ?_⟩
 obtain ⟨h1,h2⟩:=h.val q hq
 simp only [h1,h2]
 by_cases e : q = y
 ·subst e; simp [hc]
 ·simp [e]
theorem DropI.del {z : β} {c : κ → Bool} {M : List (κ × β)} {s : Nat × (κ → Bool) × List (κ × β)} (h : DropI ok z c M s) {y : κ} {k : Nat} (hc : c y = true) (hM : mhasV s.2.2 y = true) : DropI ok z c M (k,(fun q => s.2.1 q && !decide (q = y)),mdelV s.2.2 y):=by
 refine ⟨fun q hq => ?_⟩
 obtain ⟨h1,h2⟩:=h.val q hq
 have hMy : q = y → mhasV M q = true:=fun e => by
  subst e
  rw [hM] at h2
  have:=h2.symm
  rw [Bool.and_eq_true] at this
  exact this.2
 simp only [mget_del,mhas_del,h1,h2]
 by_cases e : q = y
 ·have:=hMy e
  subst e; simp [hc,this]
 ·simp [e]
theorem DropI.done {z : β} {c : κ → Bool} {M : List (κ × β)} {s : Nat × (κ → Bool) × List (κ × β)} (h : DropI ok z c M s) (hno : ∀ y,ok y = true → s.2.1 y = false) : ∀ q,ok q = true → mgetV z s.2.2 q = mgetV z (M.filter fun p => !c p.1) q ∧ mhasV s.2.2 q = mhasV (M.filter fun p => !c p.1) q:=fun q hq => by
 obtain ⟨h1,h2⟩:=h.val q hq
 rw [mget_filter z (fun x => !c x),mhas_filter (fun x => !c x),h1,h2,hno q hq]
 cases hm : mhasV M q with
 | true => cases c q <;> simp
 | false => rw [mget_none hm]; cases c q <;> simp
structure CollI (ok : κ → Bool) (M : List (κ × Bool)) (s : Nat × (κ → Bool) × List κ) : Prop where
 len : s.2.2.length + s.1 ≤ M.length
 nd : s.2.2.Nodup
 val : ∀ q,q ∈ s.2.2 ↔ ok q = true ∧ mhasV M q = true ∧ s.2.1 q = false ∧ mgetV false M q = true
theorem CollI.start {M : List (κ × Bool)} {k : Nat} (hk : k ≤ M.length) : CollI ok M (k,(fun y => mhasV M y),[]) :=
 ⟨by simpa using hk,List.Pairwise.nil,fun q => by
  simp only [List.not_mem_nil,false_iff]
  intro h
  rw [h.2.1] at h
  exact absurd h.2.2.1 (by simp)⟩
theorem CollI.keep {M : List (κ × Bool)} {s : Nat × (κ → Bool) × List κ} (h : CollI ok M s) {y : κ} {k : Nat} (hk : k < s.1) (hv : mgetV false M y = false) : CollI ok M (k,(fun q => s.2.1 q && !decide (q = y)),s.2.2):=by
 refine ⟨by have:=h.len; simp only; omega,h.nd,fun q => ?_⟩
 rw [h.val q]
 by_cases e : q = y
 ·subst e; simp [hv]
 ·simp [e]
theorem CollI.app {M : List (κ × Bool)} {s : Nat × (κ → Bool) × List κ} (h : CollI ok M s) {y : κ} {k : Nat} (hy : ok y = true) (hly : s.2.1 y = true) (hM : mhasV M y = true) (hk : k < s.1) (hv : mgetV false M y = true) : CollI ok M (k,(fun q => s.2.1 q && !decide (q = y)),s.2.2 ++ [y]):=by
 refine ⟨by have:=h.len; simp only [List.length_append,List.length_cons,List.length_nil]; omega,?_,fun q => ?_⟩
 ·rw [List.nodup_append]
  refine ⟨h.nd,by simp,fun a ha b hb => ?_⟩
  rw [List.mem_singleton.1 hb]
  intro e
  subst e
  have:=((h.val a).1 ha).2.2.1
  rw [hly] at this
  cases this
 ·rw [List.mem_append,h.val q,List.mem_singleton]
  by_cases e : q = y
  ·subst e; simp [hy,hM,hv]
  ·simp [e]
end
open Go.RowKit (Below)
section
variable {β γ : Type} {sel : β → List γ} {ic : γ → List Value} {wb : World} {Hb Hb' : World → Prop}
def Pv (ic : γ → List Value) (wb : World) (Hb : World → Prop) (h : Hd) (cs : List γ) : Prop:=∀ W,Below wb.heap.size wb W → Hb W → Rd W h.1 h.2.1 h.2.2 (encL ic cs)
def PvL (sel : β → List γ) (ic : γ → List Value) (wb : World) (Hb : World → Prop) (ys : List (Hd × β)) : Prop:=∀ y ∈ ys,Pv ic wb Hb y.1 (sel y.2)
theorem Pv.nil {cs : List γ} (h : cs = []) : Pv ic wb Hb (none,0,0) cs:=fun _ _ _ => Rd.nil (by subst h; rfl)
theorem Pv.cut {cells : γ → List Value} {sz : Nat} (hc : ∀ x,(cells x).length = sz) {A : Option Addr} {n c : Nat} {xs : List γ} {lo hi : Int} (_h0 : 0 ≤ lo) (h1 : lo ≤ hi) (h2 : hi ≤ (n : Int)) (_hn : n = xs.length) (hp : Pv cells wb Hb (A,n,c) xs) :
  Pv cells wb Hb ((if c = lo.toNat then A else A.map (fun x => x.add (lo.toNat * sz))),hi.toNat - lo.toNat,c - lo.toNat) ((xs.drop lo.toNat).take (hi.toNat - lo.toNat)):=fun W hb hh => by
 have:=(hp W hb hh).cut (sz:=sz) (l:=lo.toNat) (h:=hi.toNat) (by omega) (by show hi.toNat ≤ n; omega)
 rw [encL_drop hc,encL_take hc] at this
 exact this
theorem Pv.mono {h : Hd} {cs : List γ} (hp : Pv ic wb Hb h cs) (hi : ∀ W,Below wb.heap.size wb W → Hb' W → Hb W) : Pv ic wb Hb' h cs:=fun W hb hh => hp W hb (hi W hb hh)
theorem PvL.of_nest {W : World} {ys : List (Hd × β)} {xs : List β} (h : NestW W sel ic ys xs) : PvL sel ic W (fun _ => True) ys:=fun y hy W' hb _ => (h.inn y hy).later hb
theorem PvL.mono {ys : List (Hd × β)} (hp : PvL sel ic wb Hb ys) (hi : ∀ W,Below wb.heap.size wb W → Hb' W → Hb W) : PvL sel ic wb Hb' ys:=fun y hy => (hp y hy).mono hi
theorem PvL.nil : PvL sel ic wb Hb []:=fun y hy => by cases hy
theorem PvL.cons {y : Hd × β} {ys : List (Hd × β)} (h1 : Pv ic wb Hb y.1 (sel y.2)) (h2 : PvL sel ic wb Hb ys) : PvL sel ic wb Hb (y :: ys):=fun z hz => by
 rcases List.mem_cons.1 hz with rfl | hz
 ·exact h1
 ·exact h2 z hz
theorem PvL.app {ys zs : List (Hd × β)} (h1 : PvL sel ic wb Hb ys) (h2 : PvL sel ic wb Hb zs) : PvL sel ic wb Hb (ys ++ zs):=fun z hz => by
 rcases List.mem_append.1 hz with hz | hz
 ·exact h1 z hz
 ·exact h2 z hz
theorem PvL.set {y : Hd × β} {ys : List (Hd × β)} (j : Nat) (h : PvL sel ic wb Hb ys) (hv : Pv ic wb Hb y.1 (sel y.2)) : PvL sel ic wb Hb (ys.set j y):=fun z hz => by
 rcases List.mem_or_eq_of_mem_set hz with hz | rfl
 ·exact h z hz
 ·exact hv
theorem NestP.nil : NestP sel ([] : List (Hd × β)) []:=⟨rfl,fun y hy => by cases hy⟩
theorem NestP.cons {y : Hd × β} {ys : List (Hd × β)} {xs : List β} (h1 : y.1.2.1 = (sel y.2).length) (h2 : NestP sel ys xs) : NestP sel (y :: ys) (y.2 :: xs):=⟨by simp [h2.eq],fun z hz => by
 rcases List.mem_cons.1 hz with rfl | hz
 ·exact h1
 ·exact h2.ln z hz⟩
theorem NestP.app {ys zs : List (Hd × β)} {xs us : List β} (h1 : NestP sel ys xs) (h2 : NestP sel zs us) : NestP sel (ys ++ zs) (xs ++ us):=⟨by rw [List.map_append,h1.eq,h2.eq],fun z hz => by
 rcases List.mem_append.1 hz with hz | hz
 ·exact h1.ln z hz
 ·exact h2.ln z hz⟩
theorem NestP.set {y : Hd × β} {ys : List (Hd × β)} {xs : List β} (j : Nat) (h : NestP sel ys xs) (hv : y.1.2.1 = (sel y.2).length) {x : β} (hx : y.2 = x) : NestP sel (ys.set j y) (xs.set j x):=⟨by rw [List.map_set,h.eq,hx],fun z hz => by
 rcases List.mem_or_eq_of_mem_set hz with hz | rfl
 ·exact h.ln z hz
 ·exact hv⟩
theorem PvL.nestL {w0 : World} {L : List Res} {ys : List (Hd × β)} {xs : List β} (hP : NestP sel ys xs) (hv : PvL sel ic wb Hb ys) (hB : ∀ W,Ext w0 W L → Below wb.heap.size wb W ∧ Hb W) : NestL w0 L sel ic ys xs:=⟨hP,fun y hy W hW => hv y hy W (hB W hW).1 (hB W hW).2⟩
variable [Inhabited β] [Inhabited γ]
omit [Inhabited γ] in
theorem PvL.get {ys : List (Hd × β)} {xs : List β} (h : PvL sel ic wb Hb ys) (hP : NestP sel ys xs) {i : Int} (h0 : 0 ≤ i) (h1 : i < (xs.length : Int)) : Pv ic wb Hb ((rdL ys i).1.1,(sel (rdL xs i)).length,(rdL ys i).1.2.2) (sel (rdL xs i)):=by
 have hl : xs.length = ys.length:=hP.hn rfl
 have h2:=hP.len h0 h1
 have h3:=h _ (rdL_mem (xs:=ys) h0 (by omega))
 rw [hP.snd i] at h3
 intro W hb hh
 have h4:=h3 W hb hh
 rw [h2] at h4
 exact h4
end
section
variable {w0 : World} {L : List Res}
def andR (p q : Res) : Res where
 dom b:=p.dom b ∨ q.dom b
 holds W:=p.holds W ∧ q.holds W ∧ ∀ b,p.dom b → ¬ q.dom b
 loc W W' h hs hh:=⟨p.loc W W' (fun b hb => h b (.inl hb)) hs hh.1,q.loc W W' (fun b hb => h b (.inr hb)) hs hh.2.1,hh.2.2⟩
 inb W hh b hb:=by
  rcases hb with hb | hb
  ·exact p.inb W hh.1 b hb
  ·exact q.inb W hh.2.1 b hb
theorem Ext.joinF {W : World} (h : Ext w0 W L) (i j : Nat) (hij : i ≠ j) {p q : Res} (hp : L[i]? = some p) (hq : L[j]? = some q) : Ext w0 W ((L.set j noR).set i (andR p q)):=by
 have hget : ∀ (k : Nat) (s : Res),((L.set j noR).set i (andR p q))[k]? = some s → (k = i ∧ s = andR p q) ∨ s = noR ∨ (k ≠ i ∧ k ≠ j ∧ L[k]? = some s):=by
  intro k s hk
  by_cases e : i = k
  ·subst e
   have hi : i < (L.set j noR).length:=by rw [List.length_set]; exact (List.getElem?_eq_some_iff.1 hp).1
   rw [List.getElem?_set_self hi] at hk
   cases hk
   exact .inl ⟨rfl,rfl⟩
  ·rw [List.getElem?_set_ne e] at hk
   by_cases e2 : j = k
   ·subst e2
    rw [List.getElem?_set_self (List.getElem?_eq_some_iff.1 hq).1] at hk
    cases hk
    exact .inr (.inl rfl)
   ·rw [List.getElem?_set_ne e2] at hk
    exact .inr (.inr ⟨fun h => e h.symm,fun h => e2 h.symm,hk⟩)
 refine ⟨h.below,fun k s hk => ?_,fun k s hk b hb => ?_,fun k l s s' hk hl hne b hb hb' => ?_⟩
 ·rcases hget k s hk with ⟨_,rfl⟩ | rfl | ⟨_,_,h3⟩
  ·exact ⟨h.all i p hp,h.all j q hq,h.sep i j p q hp hq hij⟩
  ·trivial
  ·exact h.all k _ h3
 ·rcases hget k s hk with ⟨_,rfl⟩ | rfl | ⟨_,_,h3⟩
  ·rcases hb with hb | hb
   ·exact h.new i p hp b hb
   ·exact h.new j q hq b hb
  ·exact hb.elim
  ·exact h.new k _ h3 b hb
 ·rcases hget k s hk with ⟨a1,rfl⟩ | rfl | ⟨a1,a2,a3⟩
  ·rcases hget l s' hl with ⟨b1,rfl⟩ | rfl | ⟨b1,b2,b3⟩
   ·exact hne (a1.trans b1.symm)
   ·exact hb'.elim
   ·rcases hb with hb | hb
    ·exact h.sep i l p s' hp b3 (fun e => b1 e.symm) b hb hb'
    ·exact h.sep j l q s' hq b3 (fun e => b2 e.symm) b hb hb'
  ·exact hb.elim
  ·rcases hget l s' hl with ⟨b1,rfl⟩ | rfl | ⟨b1,b2,b3⟩
   ·rcases hb' with hb' | hb'
    ·exact h.sep k i s p a3 hp a1 b hb hb'
    ·exact h.sep k j s q a3 hq a2 b hb hb'
   ·exact hb'.elim
   ·exact h.sep k l s s' a3 b3 hne b hb hb'
theorem Ext.addNo {W : World} (h : Ext w0 W L) : Ext w0 W (L ++ [noR]):=h.snoc (p:=noR) trivial (fun b hb => hb.elim) (fun i q _ b _ hb => hb.elim)
theorem Ext.pickL {W : World} (h : Ext w0 W L) (is : List Nat) {ps : List Res} (hnd : decide is.Nodup = true) (hp : is.map (fun i => L[i]?) = ps.map some) : Ext w0 W ps:=by
 have hnd:=of_decide_eq_true hnd
 have hget : ∀ (k : Nat) (s : Res),ps[k]? = some s → ∃ i,is[k]? = some i ∧ L[i]? = some s:=by
  intro k s hk
  have h1 : (ps.map some)[k]? = some (some s):=by rw [List.getElem?_map,hk]; rfl
  rw [← hp,List.getElem?_map] at h1
  cases hi : is[k]? with
  | none => rw [hi] at h1; cases h1
  | some i => rw [hi] at h1; exact ⟨i,rfl,by simpa using h1⟩
 refine ⟨h.below,fun k s hk => ?_,fun k s hk => ?_,fun k l s s' hk hl hne => ?_⟩
 ·obtain ⟨i,_,h2⟩:=hget k s hk; exact h.all i s h2
 ·obtain ⟨i,_,h2⟩:=hget k s hk; exact h.new i s h2
 ·obtain ⟨i,h1,h2⟩:=hget k s hk
  obtain ⟨j,h3,h4⟩:=hget l s' hl
  refine h.sep i j s s' h2 h4 (fun e => ?_)
  subst e
  obtain ⟨a1,a2⟩:=List.getElem?_eq_some_iff.1 h1
  obtain ⟨b1,b2⟩:=List.getElem?_eq_some_iff.1 h3
  have hpw:=List.pairwise_iff_getElem.1 hnd
  rcases Nat.lt_trichotomy k l with h5 | h5 | h5
  ·exact hpw k l a1 b1 h5 (a2.trans b2.symm)
  ·exact hne h5
  ·exact hpw l k b1 a1 h5 (b2.trans a2.symm)
end
section
variable {r : Option Nat} {n : Nat} {P : Program} {ops : Array Oper} {Q : Exit → Act → World → Prop} {w0 : World} {L : List Res} {m : Nat} {tm : Nat → Value} {d : List Deferred} {l : List Oper} {e : Exit}
theorem ox_addNo (h : OX r n P ops Q w0 (L ++ [noR]) l m tm d) : OX r n P ops Q w0 L l m tm d:=fun W hW => h W hW.addNo
theorem cx_addNo {c : Code} (h : CX r n P c Q w0 (L ++ [noR]) m tm d) : CX r n P c Q w0 L m tm d:=fun W hW => h W hW.addNo
theorem ox_joinF (i j : Nat) (hij : i ≠ j) {p q : Res} (hp : L[i]? = some p) (hq : L[j]? = some q) (h : OX r n P ops Q w0 ((L.set j noR).set i (andR p q)) l m tm d) : OX r n P ops Q w0 L l m tm d:=fun W hW => h W (hW.joinF i j hij hp hq)
end
section
variable {r : Option Nat} {n : Nat} {P : Program} {ρ : Operand → Value} {w0 : World} {L : List Res}
variable {t : Option Tmp} {ty : TypeId} {pos : String} {af : Array Edge} {g : Option (Nat × Bool)}
variable {A : Option Addr} {k c : Nat} {cs : List Value}
theorem y_cut3 {x a b d : Operand} {u e : TypeId} {sz : Nat} {q q' q2 : IntKind} {lo hi mx : Int} (hs : slOf P u = some (e,sz)) (h0 : 0 ≤ lo) (h1 : lo ≤ hi) (h2 : hi ≤ mx) (h3 : mx ≤ k) (hR : RdL w0 L A k c cs) (hx : ρ x = .slice A k c) (ha : ρ a = .int q lo) (hb : ρ b = .int q' hi) (hd : ρ d = .int q2 mx) :
  OpY r n P ⟨t,.slice u x (some a) (some b) (some d),ty,pos,af,g⟩ ρ (fun W => Ext w0 W L) (fun W => Ext w0 W L) (.slice (if mx.toNat = lo.toNat then A else A.map (·.add (lo.toNat * sz))) (hi.toNat - lo.toNat) (mx.toNat - lo.toNat)) :=
 opY_val (by intro c h; cases h) (fun W hW => by
  obtain ⟨hu',hsz⟩:=slOf_inv hs
  have hcap:=(hR W hW).cap
  have h4 : mx ≤ (c : Int):=by omega
  simp only [execOp,hx,ha,hb,hd,Option.map_some,Sem.run_bind,run_sliceAt_slice W u _ _ _ _ hu',run_slice_lhm W u A k c hu' q q' q2 lo hi mx h0 h1 h2 h4,hsz,Result.andThen_ok,sliced]
  rfl)
theorem Rd.cut3 {W : World} {l h m sz : Nat} (hr : Rd W A k c cs) (h1 : l ≤ h) (h2 : h ≤ m) (h3 : m ≤ k) : Rd W (if m = l then A else A.map (·.add (l * sz))) (h - l) (m - l) ((cs.drop (l * sz)).take ((h - l) * sz)):=by
 have hc:=hr.cut (sz:=sz) h1 (Nat.le_trans h2 h3)
 have hcap:=hr.cap
 refine ⟨fun j v hj => ?_,by omega⟩
 by_cases hm : m = l
 ·have hh : h - l = 0:=by omega
  rw [hh,Nat.zero_mul,List.take_zero] at hj
  simp at hj
 ·rw [if_neg hm]
  have:=hc.cell j v hj
  by_cases hcl : c = l
  ·omega
  ·rw [if_neg hcl] at this
   exact this
theorem RdL.cut3 {α : Type} {cells : α → List Value} {sz : Nat} (hc : ∀ x,(cells x).length = sz) {xs : List α} {lo hi mx : Int} (h : RdL w0 L A k c (encL cells xs)) (h0 : 0 ≤ lo) (h1 : lo ≤ hi) (h2 : hi ≤ mx) (h3 : mx ≤ (k : Int)) :
  RdL w0 L (if mx.toNat = lo.toNat then A else A.map (fun x => x.add (lo.toNat * sz))) (hi.toNat - lo.toNat) (mx.toNat - lo.toNat) (encL cells ((xs.drop lo.toNat).take (hi.toNat - lo.toNat))):=fun W hW => by
 have:=(h W hW).cut3 (sz:=sz) (l:=lo.toNat) (h:=hi.toNat) (m:=mx.toNat) (by omega) (by omega) (by omega)
 rw [encL_drop hc,encL_take hc] at this
 exact this
theorem cut3_len {α : Type} {xs : List α} {n : Nat} {lo hi mx : Int} (h0 : 0 ≤ lo) (h1 : lo ≤ hi) (h2 : hi ≤ mx) (h3 : mx ≤ (n : Int)) (hn : n = xs.length) : hi.toNat - lo.toNat = ((xs.drop lo.toNat).take (hi.toNat - lo.toNat)).length:=cut_len h0 h1 (by omega) hn
end
section
variable {β γ : Type} {sel : β → List γ} {ic : γ → List Value} {wb : World} {Hb : World → Prop}
theorem PvL.sub {ys zs : List (Hd × β)} (h : PvL sel ic wb Hb ys) (hs : ∀ y ∈ zs,y ∈ ys) : PvL sel ic wb Hb zs:=fun y hy => h y (hs y hy)
theorem NestP.take {ys : List (Hd × β)} {xs : List β} (k : Nat) (h : NestP sel ys xs) : NestP sel (ys.take k) (xs.take k):=⟨by rw [List.map_take,h.eq],fun y hy => h.ln y (List.mem_of_mem_take hy)⟩
theorem NestP.drop {ys : List (Hd × β)} {xs : List β} (k : Nat) (h : NestP sel ys xs) : NestP sel (ys.drop k) (xs.drop k):=⟨by rw [List.map_drop,h.eq],fun y hy => h.ln y (List.mem_of_mem_drop hy)⟩
end
section
variable {r : Option Nat} {n : Nat} {P : Program} {ops : Array Oper} {Q : Exit → Act → World → Prop} {w0 : World} {L : List Res} {m : Nat} {tm : Nat → Value} {d : List Deferred}
variable {t : Tmp} {ty : TypeId} {pos : String} {af : Array Edge} {g : Option (Nat × Bool)} {rest : List Oper}
end
section
variable {r : Option Nat} {n : Nat} {P : Program} {ρ : Operand → Value} {w0 : World} {L : List Res}
variable {t : Option Tmp} {ty : TypeId} {pos : String} {af : Array Edge} {g : Option (Nat × Bool)}
end
open Go.RowKit (Below)
theorem put_sizeU (a : Act) (d : Option Tmp) (v : Value) : (a.put d v).tmps.size = a.tmps.size:=by
 cases d with
 | none => rfl
 | some i => simp [Act.put]
theorem stA_sizeU {ops : Array Oper} (vals : Nat → Value) (a0 : Act) (S : Nat → Bool) : ∀ m,(stA ops vals a0 S m).tmps.size = a0.tmps.size
 | 0 => rfl
 | m + 1 => by
  unfold stA
  split
  ·rw [put_sizeU,stA_sizeU vals a0 S m]
  ·exact stA_sizeU vals a0 S m
theorem put_sameU {a b : Act} {d : Option Tmp} {u v : Value} (hs : a.tmps.size = b.tmps.size) (h : a.put d u = a.put d v) : b.put d u = b.put d v:=by
 cases d with
 | none => rfl
 | some i =>
  have h1 : a.tmps.setIfInBounds i u = a.tmps.setIfInBounds i v:=congrArg Act.tmps h
  show (⟨b.tmps.setIfInBounds i u,b.defers⟩ : Act) = ⟨b.tmps.setIfInBounds i v,b.defers⟩
  congr 1
  apply Array.ext_getElem?
  intro j
  have h2:=congrArg (fun t => t[j]?) h1
  simp only [Array.getElem?_setIfInBounds] at h2 ⊢
  by_cases e : i = j
  ·subst e
   by_cases hl : i < b.tmps.size
   ·simp [hl,hs] at h2 ⊢
    exact h2
   ·simp [hl]
  ·simp [e]
abbrev Xo:=Nat → Option Addr × Nat × Nat
abbrev Sd:=Option Nat × Nat × List Bool
structure Dyn where
 val : (Nat → Xo) → Value
 wp : (Nat → Xo) → Res
 made : (Nat → Xo) → List Res
instance : Inhabited Dyn:=⟨⟨fun _ => undef,fun _ => noR,fun _ => []⟩⟩
def maskL : List Res → List Bool → List Res
 | p :: L,true :: k => p :: maskL L k
 | _ :: L,false :: k => noR :: maskL L k
 | _,_ => []
def aftL (s : Sd) (d : Dyn) (ξ : Nat → Xo) (L : List Res) : List Res:=(match s.1 with | some i => L.set i (d.wp ξ) | none => L) ++ d.made ξ
def updX (ξ : Nat → Xo) (j : Nat) (x : Xo) : Nat → Xo:=fun i => if i = j then x else ξ i
def obQ (w0 : World) (j : Nat) (s : Sd) (d : Dyn) (ξ : Nat → Xo) (dst : Option Tmp) (L : List Res) (a : Act) : Exit → Act → World → Prop:=fun e a' W =>
 e = .normal ∧ ∃ x,a' = a.put dst (d.val (updX ξ j x)) ∧ Ext w0 W (aftL s d (updX ξ j x) L)
def obG (r : Option Nat) (n : Nat) (P : Program) (ops : Array Oper) (w0 : World) (ξ : Nat → Xo) (j : Nat) (o : Oper) (s : Sd) (d : Dyn) (L : List Res) (a : Act) : Prop :=
 (Region.wanted o (yielded ops a.tmps) = true ∧ ∀ (L2 : List Res) (W : World),Ext w0 W (maskL L s.2.2 ++ L2) → o.wpIn (Fw r) n P a W (fun a' W' => obQ w0 j s d ξ o.dst (maskL L s.2.2 ++ L2) a .normal a' W') (obQ w0 j s d ξ o.dst (maskL L s.2.2 ++ L2) a)) ∨
 (Region.wanted o (yielded ops a.tmps) = false ∧ (∀ ξ',d.val ξ' = undef) ∧ s.1 = none ∧ s.2.1 = 0)
def GW (r : Option Nat) (n : Nat) (P : Program) (ops : Array Oper) (w0 : World) (ξ : Nat → Xo) (K : List Res → Act → Prop) : Nat → List Oper → List Sd → List Dyn → List Res → Act → Prop
 | _,[],[],[],L,a => K L a
 | j,o :: os,s :: ss,d :: ds,L,a => obG r n P ops w0 ξ j o s d L a ∧ GW r n P ops w0 ξ K (j + 1) os ss ds (aftL s d ξ L) (a.put o.dst (d.val ξ))
 | _,_,_,_,_,_ => False
def lenG (sd : List Sd) (base : Nat) : Nat → Nat
 | 0 => base
 | j + 1 => lenG sd base j + (sd.getD j default).2.1
def wrG (sd : List Sd) (base j i : Nat) : Bool:=((sd.getD j default).1 == some i) || (decide (lenG sd base j ≤ i) && decide (i < lenG sd base (j + 1)))
def dpG (A : List (List Nat)) (j i : Nat) : Bool:=(A.getD j []).contains i
def chkG (ops : Array Oper) (A : List (List Nat)) (sd : List Sd) (base : Nat) : Bool :=
 decide (sd.length = ops.size) && (List.range ops.size).all fun j =>
  (match (sd.getD j default).1 with | none => true | some i => decide (i < lenG sd base j)) && decide ((sd.getD j default).2.2.length = lenG sd base j) &&
  ((A.getD j []).all fun i => match ops[j]? with
   | some o => o.after.any fun e => Region.binds .any e && (e.on == i || dpG A e.on i)
   | none => false) &&
  ((List.range ops.size).all fun i => decide (i = j) || (List.range (lenG sd base ops.size)).all fun q => !(wrG sd base i q) ||
   ((!(wrG sd base j q) || dpG A j i || dpG A i j) && (!((sd.getD j default).2.2.getD q false) || (if i < j then dpG A j i else dpG A i j))))
def IndA (A : List (List Nat)) : Nat → List Sd → List Dyn → Prop
 | _,[],[] => True
 | j,s :: ss,d :: ds => ((∀ ξ ξ' : Nat → Xo,(∀ i,(i = j ∨ dpG A j i = true) → ξ i = ξ' i) → d.val ξ = d.val ξ' ∧ d.wp ξ = d.wp ξ' ∧ d.made ξ = d.made ξ') ∧ ∀ ξ,(d.made ξ).length = s.2.1) ∧ IndA A (j + 1) ss ds
 | _,_,_ => False
structure ExtF (w0 W : World) (f : Nat → Option Res) : Prop where
 below : Below w0.heap.size w0 W
 all : ∀ (i : Nat) (p : Res),f i = some p → p.holds W
 new : ∀ (i : Nat) (p : Res),f i = some p → ∀ b,p.dom b → w0.heap.size ≤ b
 sep : ∀ (i j : Nat) (p q : Res),f i = some p → f j = some q → i ≠ j → ∀ b,p.dom b → ¬ q.dom b
theorem ExtF.of {w0 W : World} {L : List Res} (h : Ext w0 W L) : ExtF w0 W (fun i => L[i]?):=⟨h.below,h.all,h.new,h.sep⟩
theorem ExtF.to {w0 W : World} {L : List Res} (h : ExtF w0 W (fun i => L[i]?)) : Ext w0 W L:=⟨h.below,h.all,h.new,h.sep⟩
theorem ExtF.map {w0 W : World} {f g : Nat → Option Res} (h : ExtF w0 W f) (σ : Nat → Nat) (hg : ∀ i p,g i = some p → p = noR ∨ f (σ i) = some p)
  (hj : ∀ i j p q,g i = some p → g j = some q → i ≠ j → p = noR ∨ q = noR ∨ (f (σ i) = some p ∧ f (σ j) = some q ∧ σ i ≠ σ j)) : ExtF w0 W g where
 below:=h.below
 all i p hp:=by
  rcases hg i p hp with rfl | h1
  ·trivial
  ·exact h.all _ _ h1
 new i p hp b hb:=by
  rcases hg i p hp with rfl | h1
  ·exact hb.elim
  ·exact h.new _ _ h1 b hb
 sep i j p q hp hq hne b hb hb':=by
  rcases hj i j p q hp hq hne with rfl | rfl | ⟨h1,h2,h3⟩
  ·exact hb.elim
  ·exact hb'.elim
  ·exact h.sep _ _ _ _ h1 h2 h3 b hb hb'
theorem maskL_get : ∀ (L : List Res) (k : List Bool) (q : Nat),L.length = k.length → (maskL L k)[q]? = (L[q]?).map fun p => if k.getD q false = true then p else noR
 | [],[],q,_ => by simp [maskL]
 | p :: L,true :: k,0,_ => by simp [maskL]
 | p :: L,false :: k,0,_ => by simp [maskL]
 | p :: L,true :: k,q + 1,h => by
  have:=maskL_get L k q (by simpa using h)
  simpa [maskL] using this
 | p :: L,false :: k,q + 1,h => by
  have:=maskL_get L k q (by simpa using h)
  simpa [maskL] using this
theorem maskL_len : ∀ (L : List Res) (k : List Bool),L.length = k.length → (maskL L k).length = L.length
 | [],[],_ => rfl
 | p :: L,true :: k,h => by simp [maskL,maskL_len L k (by simpa using h)]
 | p :: L,false :: k,h => by simp [maskL,maskL_len L k (by simpa using h)]
section
variable {r : Option Nat} {n : Nat} {P : Program} {ops : Array Oper}
def lx (sd : List Sd) (dy : List Dyn) (ξ : Nat → Xo) (L0 : List Res) : Nat → List Res
 | 0 => L0
 | j + 1 => aftL (sd.getD j default) (dy.getD j default) ξ (lx sd dy ξ L0 j)
def vaG (dy : List Dyn) (ξ : Nat → Xo) (j : Nat) : Value:=(dy.getD j default).val ξ
theorem gw_spec {l : List Oper} (hops : ops = l.toArray) {sd : List Sd} {dy : List Dyn} {w0 : World} {ξ : Nat → Xo} {K : List Res → Act → Prop} {L0 : List Res} {a0 : Act} (hs : sd.length = l.length) (hd : dy.length = l.length) :
  ∀ (c j : Nat),j + c = l.length → GW r n P ops w0 ξ K j (l.drop j) (sd.drop j) (dy.drop j) (lx sd dy ξ L0 j) (stA ops (vaG dy ξ) a0 (fun _ => true) j) →
   (∀ i o,j ≤ i → ops[i]? = some o → obG r n P ops w0 ξ i o (sd.getD i default) (dy.getD i default) (lx sd dy ξ L0 i) (stA ops (vaG dy ξ) a0 (fun _ => true) i)) ∧ K (lx sd dy ξ L0 l.length) (stA ops (vaG dy ξ) a0 (fun _ => true) l.length):=by
 intro c
 induction c with
 | zero =>
  intro j hj h
  have : j = l.length:=by omega
  subst this
  rw [List.drop_length,← hs,List.drop_length,hs,← hd,List.drop_length,hd] at h
  refine ⟨fun i o hi ho => ?_,h⟩
  have : i < ops.size:=(Array.getElem?_eq_some_iff.1 ho).1
  rw [hops] at this
  simp at this
  omega
 | succ c ih =>
  intro j hj h
  have h1 : j < l.length:=by omega
  rw [List.drop_eq_getElem_cons h1,List.drop_eq_getElem_cons (show j < sd.length by omega),List.drop_eq_getElem_cons (show j < dy.length by omega)] at h
  obtain ⟨hob,hrest⟩:=h
  have e1 : sd[j]'(by omega) = sd.getD j default:=by simp [show j < sd.length by omega]
  have e2 : dy[j]'(by omega) = dy.getD j default:=by simp [show j < dy.length by omega]
  have ho : ops[j]? = some l[j]:=by rw [hops]; simp [h1]
  have e3 : dstA ops j = l[j].dst:=by simp [dstA,ho]
  rw [e1,e2] at hob hrest
  have hrest' : GW r n P ops w0 ξ K (j + 1) (l.drop (j + 1)) (sd.drop (j + 1)) (dy.drop (j + 1)) (lx sd dy ξ L0 (j + 1)) (stA ops (vaG dy ξ) a0 (fun _ => true) (j + 1)):=by
   have e4 : stA ops (vaG dy ξ) a0 (fun _ => true) (j + 1) = (stA ops (vaG dy ξ) a0 (fun _ => true) j).put (l[j]).dst ((dy.getD j default).val ξ):=by
    simp [stA,e3,vaG]
   rw [e4]
   exact hrest
  obtain ⟨h2,h3⟩:=ih (j + 1) (by omega) hrest'
  refine ⟨fun i o hi hoi => ?_,h3⟩
  by_cases e : i = j
  ·subst e
   rw [ho] at hoi; cases hoi
   exact hob
  ·exact h2 i o (by omega) hoi
theorem ind_spec {A : List (List Nat)} : ∀ (sd : List Sd) (dy : List Dyn) (j0 : Nat),IndA A j0 sd dy → dy.length = sd.length ∧ ∀ j,j < sd.length →
  (∀ ξ ξ' : Nat → Xo,(∀ i,(i = j0 + j ∨ dpG A (j0 + j) i = true) → ξ i = ξ' i) → (dy.getD j default).val ξ = (dy.getD j default).val ξ' ∧ (dy.getD j default).wp ξ = (dy.getD j default).wp ξ' ∧ (dy.getD j default).made ξ = (dy.getD j default).made ξ') ∧ ∀ ξ,((dy.getD j default).made ξ).length = (sd.getD j default).2.1
 | [],[],_,_ => ⟨rfl,fun j hj => by simp at hj⟩
 | s :: ss,d :: ds,j0,h => by
  obtain ⟨h1,h2⟩:=ind_spec ss ds (j0 + 1) h.2
  refine ⟨by simp [h1],fun j hj => ?_⟩
  cases j with
  | zero => exact ⟨h.1.1,h.1.2⟩
  | succ j =>
   have:=h2 j (by simpa using hj)
   simpa [Nat.add_assoc,Nat.add_comm 1 j] using this
 | [],_ :: _,_,h => h.elim
 | _ :: _,[],_,h => h.elim
theorem wpIn_moveG {o : Oper} {a b : Act} {W w0 : World} {j : Nat} {s : Sd} {dd : Dyn} {ξ : Nat → Xo} {L : List Res} {K : Act → World → Prop} {Q : Exit → Act → World → Prop} (hs : ∀ cs x,o.op ≠ .select cs x) (hd : ∀ c,o.op ≠ .defer c) (hev : ∀ x ∈ o.op.operands,a.eval x = b.eval x) (hsz : a.tmps.size = b.tmps.size)
  (h : o.wpIn (Fw r) n P a W (fun a' W' => obQ w0 j s dd ξ o.dst L a .normal a' W') (obQ w0 j s dd ξ o.dst L a)) (hK : ∀ x W',Ext w0 W' (aftL s dd (updX ξ j x) L) → K (b.put o.dst (dd.val (updX ξ j x))) W') : o.wpIn (Fw r) n P b W K Q:=by
 refine ⟨fun _ _ => by cases r <;> trivial,?_⟩
 have h2:=h.2
 have e : o.semAt r b.eval = o.semAt r a.eval:=by
  have e1 : execOp b.eval o = execOp a.eval o:=execOp_congr o hs (fun x hx => (hev x hx).symm)
  cases r with
  | none => rw [Oper.semAt_none,Oper.semAt_none,e1]
  | some l => rw [Oper.semAt_some l _ o hd,Oper.semAt_some l _ o hd,e1]
 have e0 : (Fw r).round = r:=by cases r <;> rfl
 rw [e0] at h2 ⊢
 rw [e]
 have key : ∀ u W',obQ w0 j s dd ξ o.dst L a .normal (a.put o.dst u) W' → K (b.put o.dst u) W':=fun u W' hc => by
  obtain ⟨_,x,hv,hE⟩:=hc
  rw [put_sameU hsz hv]
  exact hK x W' hE
 generalize (o.semAt r a.eval).run P W = res at h2 ⊢
 match res,h2 with
 | .ok (.value u) W',h2 => exact key u W' h2
 | .ok .skip W',h2 => exact key undef W' h2
 | .ok (.defer d') W',h2 =>
  obtain ⟨_,x,hv,_⟩:=h2
  have h9:=congrArg Act.defers hv
  rw [put_defs,put_defs] at h9
  exact absurd h9 (by simp)
 | .ok (.enter f args) W',h2 =>
  refine ⟨h2.1,h2.2.mono ?_⟩
  rintro (_ | _ | _) w hw
  ·exact key _ _ hw
  ·exact absurd hw.1 (by intro h; cases h)
  ·obtain ⟨a9,w9,h9⟩:=hw
   exact absurd h9.1 (by intro h; cases h)
 | .ok (.row row args) W',h2 =>
  refine ⟨h2.1,?_⟩
  exact RowsIn.mono h2.2 (fun u w hw => key u w hw)
 | .ok (.round l f tmps assign body) W',h2 =>
  refine ⟨h2.1,h2.2.mono ?_⟩
  rintro (_ | _ | _) w hw
  ·exact key _ _ hw
  ·exact absurd hw.1 (by intro h; cases h)
  ·obtain ⟨a9,w9,h9⟩:=hw
   exact absurd h9.1 (by intro h; cases h)
 | .halt (.panic u) W',h2 => exact absurd h2.1 (by intro h; cases h)
end
section
variable {r : Option Nat} {n : Nat} {P : Program} {ops : Array Oper} {Q : Exit → Act → World → Prop} {w0 : World} {sd : List Sd} {dy : List Dyn} {base : Nat} {L0 : List Res} {A : List (List Nat)} {ξ ξ' : Nat → Xo} {S S' : Nat → Bool}
def cu (sd : List Sd) (dy : List Dyn) (base : Nat) (L0 : List Res) (ξ : Nat → Xo) (S : Nat → Bool) : Nat → Nat → Option Res
 | 0,q => L0[q]?
 | j + 1,q => if S j = true ∧ (sd.getD j default).1 = some q then some ((dy.getD j default).wp ξ)
   else if S j = true ∧ lenG sd base j ≤ q ∧ q < lenG sd base (j + 1) then ((dy.getD j default).made ξ)[q - lenG sd base j]?
   else cu sd dy base L0 ξ S j q
theorem wrG_iff {j q : Nat} : wrG sd base j q = true ↔ (sd.getD j default).1 = some q ∨ (lenG sd base j ≤ q ∧ q < lenG sd base (j + 1)):=by
 unfold wrG
 simp only [Bool.or_eq_true,Bool.and_eq_true,decide_eq_true_eq,beq_iff_eq]
theorem cu_no {j q : Nat} (h : ¬ (S j = true ∧ wrG sd base j q = true)) : cu sd dy base L0 ξ S (j + 1) q = cu sd dy base L0 ξ S j q:=by
 rw [wrG_iff] at h
 simp only [cu]
 rw [if_neg (fun x => h ⟨x.1,.inl x.2⟩),if_neg (fun x => h ⟨x.1,.inr x.2⟩)]
theorem lenG_mono {j : Nat} : ∀ k,j ≤ k → lenG sd base j ≤ lenG sd base k:=fun k h => by
 induction k with
 | zero =>
  have : j = 0:=by omega
  subst this; exact Nat.le_refl _
 | succ k ih =>
  by_cases e : j = k + 1
  ·subst e; exact Nat.le_refl _
  ·have:=ih (by omega)
   simp only [lenG]
   omega
theorem lx_spec (hb : L0.length = base) {k : Nat} (hwr : ∀ j i,j < k → (sd.getD j default).1 = some i → i < lenG sd base j) (hlen : ∀ j,j < k → ((dy.getD j default).made ξ).length = (sd.getD j default).2.1) :
  ∀ j,j ≤ k → (lx sd dy ξ L0 j).length = lenG sd base j ∧ ∀ q,(lx sd dy ξ L0 j)[q]? = cu sd dy base L0 ξ (fun _ => true) j q:=by
 intro j
 induction j with
 | zero => intro _; exact ⟨hb,fun q => rfl⟩
 | succ j ih =>
  intro hj
  obtain ⟨h1,h2⟩:=ih (by omega)
  have h3:=hlen j (by omega)
  have h4:=hwr j
  have key : ∀ L : List Res,L.length = lenG sd base j → (∀ q,L[q]? = if (sd.getD j default).1 = some q then some ((dy.getD j default).wp ξ) else cu sd dy base L0 ξ (fun _ => true) j q) →
    (L ++ (dy.getD j default).made ξ).length = lenG sd base (j + 1) ∧ ∀ q,(L ++ (dy.getD j default).made ξ)[q]? = cu sd dy base L0 ξ (fun _ => true) (j + 1) q:=by
   intro L hL hq
   refine ⟨by rw [List.length_append,hL,h3]; rfl,fun q => ?_⟩
   simp only [cu,true_and]
   by_cases e : (sd.getD j default).1 = some q
   ·have:=h4 q (by omega) e
    rw [if_pos e,List.getElem?_append_left (by omega),hq q,if_pos e]
   ·rw [if_neg e]
    by_cases hlt : q < lenG sd base j
    ·rw [if_neg (by omega),List.getElem?_append_left (by omega),hq q,if_neg e]
    ·rw [List.getElem?_append_right (by omega),hL]
     by_cases hlt2 : q < lenG sd base (j + 1)
     ·rw [if_pos ⟨by omega,hlt2⟩]
     ·rw [if_neg (by omega),List.getElem?_eq_none (by rw [h3]; simp only [lenG] at hlt2; omega),← h2 q,List.getElem?_eq_none (by omega)]
  simp only [lx,aftL]
  cases hw : (sd.getD j default).1 with
  | none => exact key _ h1 (fun q => by rw [hw,if_neg (by intro h; cases h),h2 q])
  | some i =>
   have hi:=h4 i (by omega) hw
   refine key _ (by rw [List.length_set]; exact h1) (fun q => ?_)
   rw [List.getElem?_set,hw,h2 q]
   by_cases e : i = q
   ·subst e
    rw [if_pos rfl,if_pos (by omega),if_pos rfl]
   ·rw [if_neg e,if_neg (by intro h; cases h; exact e rfl)]
theorem cu_lt (hb : L0.length = base) {k : Nat} (hwr : ∀ j i,j < k → (sd.getD j default).1 = some i → i < lenG sd base j) :
  ∀ j q p,j ≤ k → cu sd dy base L0 ξ S j q = some p → q < lenG sd base j:=by
 intro j
 induction j with
 | zero =>
  intro q p _ h
  have : q < L0.length:=(List.getElem?_eq_some_iff.1 h).1
  simp only [lenG]; omega
 | succ j ih =>
  intro q p hj h
  have hm : lenG sd base j ≤ lenG sd base (j + 1):=lenG_mono _ (by omega)
  simp only [cu] at h
  split at h
  ·rename_i h1
   have:=hwr j q (by omega) h1.2
   omega
  ·split at h
   ·rename_i h1
    exact h1.2.2
   ·have:=ih q p (by omega) h
    omega
theorem cu_mask {k q : Nat} (h : ∀ i,i < k → wrG sd base i q = true → S i = S' i) : cu sd dy base L0 ξ S k q = cu sd dy base L0 ξ S' k q:=by
 induction k with
 | zero => rfl
 | succ k ih =>
  have ih:=ih (fun i hi => h i (by omega))
  by_cases hw : wrG sd base k q = true
  ·have:=h k (by omega) hw
   simp only [cu,this,ih]
  ·rw [cu_no (fun x => hw x.2),cu_no (fun x => hw x.2),ih]
theorem cu_up {j q : Nat} : ∀ k,j ≤ k → (∀ i,j ≤ i → i < k → wrG sd base i q = true → S i = false) → cu sd dy base L0 ξ S k q = cu sd dy base L0 ξ S j q:=fun k hk h => by
 induction k with
 | zero =>
  have : j = 0:=by omega
  subst this; rfl
 | succ k ih =>
  by_cases e : j = k + 1
  ·subst e; rfl
  ·rw [cu_no (fun x => by have:=h k (by omega) (by omega) x.2; rw [this] at x; cases x.1)]
   exact ih (by omega) (fun i h1 h2 => h i h1 (by omega))
theorem cu_xi {k q : Nat} (h : ∀ i,i < k → S i = true → (dy.getD i default).wp ξ = (dy.getD i default).wp ξ' ∧ (dy.getD i default).made ξ = (dy.getD i default).made ξ') : cu sd dy base L0 ξ S k q = cu sd dy base L0 ξ' S k q:=by
 induction k with
 | zero => rfl
 | succ k ih =>
  have ih:=ih (fun i hi => h i (by omega))
  simp only [cu]
  by_cases hS : S k = true
  ·obtain ⟨h1,h2⟩:=h k (by omega) hS
   rw [h1,h2,ih]
  ·rw [if_neg (fun x => hS x.1),if_neg (fun x => hS x.1),if_neg (fun x => hS x.1),if_neg (fun x => hS x.1),ih]
theorem cu_put {j k q : Nat} (hj : j < k) (hS : S j = false) (hc : ∀ i,j < i → i < k → wrG sd base j q = true → wrG sd base i q = true → S i = false) :
  cu sd dy base L0 ξ (fun i => S i || i == j) k q = if (sd.getD j default).1 = some q then some ((dy.getD j default).wp ξ)
   else if lenG sd base j ≤ q ∧ q < lenG sd base (j + 1) then ((dy.getD j default).made ξ)[q - lenG sd base j]? else cu sd dy base L0 ξ S k q:=by
 by_cases hw : wrG sd base j q = true
 ·rw [cu_up (j:=j + 1) k (by omega) (fun i h1 h2 h3 => by
   have:=hc i (by omega) h2 hw h3
   have hne : (i == j) = false:=by simp; omega
   simp [this,hne])]
  simp only [cu,beq_self_eq_true,Bool.or_true,true_and]
  rw [wrG_iff] at hw
  split
  ·rfl
  ·rename_i h1
   rw [if_pos (hw.resolve_left h1),if_pos (hw.resolve_left h1)]
 ·have h1 : cu sd dy base L0 ξ (fun i => S i || i == j) k q = cu sd dy base L0 ξ S k q:=cu_mask (fun i hi hwi => by
   have hne : (i == j) = false:=by
    simp
    intro e
    subst e
    exact hw hwi
   simp [hne])
  rw [h1]
  rw [wrG_iff] at hw
  rw [if_neg (fun x => hw (.inl x)),if_neg (fun x => hw (.inr x))]
theorem chk_spec (h : chkG ops A sd base = true) : sd.length = ops.size ∧ ∀ j,j < ops.size →
  (∀ i,(sd.getD j default).1 = some i → i < lenG sd base j) ∧ (sd.getD j default).2.2.length = lenG sd base j ∧
  (∀ i o,ops[j]? = some o → dpG A j i = true → ∃ e ∈ o.after,Region.binds .any e = true ∧ (e.on = i ∨ dpG A e.on i = true)) ∧
  ∀ i q,i < ops.size → i ≠ j → q < lenG sd base ops.size → wrG sd base i q = true → (wrG sd base j q = true → dpG A j i = true ∨ dpG A i j = true) ∧ ((sd.getD j default).2.2.getD q false = true → if i < j then dpG A j i = true else dpG A i j = true):=by
 unfold chkG at h
 simp only [Bool.and_eq_true,decide_eq_true_eq] at h
 refine ⟨h.1,fun j hj => ?_⟩
 have h1:=List.all_eq_true.1 h.2 j (List.mem_range.2 hj)
 simp only [Bool.and_eq_true,decide_eq_true_eq] at h1
 obtain ⟨⟨⟨h2,h3⟩,h4⟩,h5⟩:=h1
 refine ⟨fun i hi => ?_,h3,fun i o ho hd => ?_,fun i q hi hne hq hw => ?_⟩
 ·rw [hi] at h2
  simpa using h2
 ·unfold dpG at hd
  have hm : i ∈ A.getD j []:=by simpa using hd
  have h6:=List.all_eq_true.1 h4 i hm
  simp only [ho] at h6
  rw [Array.any_eq_true] at h6
  obtain ⟨t,ht,h7⟩:=h6
  simp only [Bool.and_eq_true,Bool.or_eq_true,beq_iff_eq] at h7
  exact ⟨o.after[t],Array.getElem_mem ht,h7.1,h7.2⟩
 ·have h6:=List.all_eq_true.1 h5 i (List.mem_range.2 hi)
  rw [Bool.or_eq_true,decide_eq_true_eq] at h6
  have h7:=List.all_eq_true.1 (h6.resolve_left hne) q (List.mem_range.2 hq)
  rw [hw] at h7
  simp only [Bool.not_true,Bool.false_or,Bool.and_eq_true,Bool.or_eq_true,Bool.not_eq_true'] at h7
  obtain ⟨h8,h9⟩:=h7
  refine ⟨fun h10 => ?_,fun h10 => ?_⟩
  ·rcases h8 with (h8 | h8) | h8
   ·rw [h10] at h8; cases h8
   ·exact .inl h8
   ·exact .inr h8
  ·have h9:=h9.resolve_left (by rw [h10]; simp)
   split
   ·rename_i hlt; rw [if_pos hlt] at h9; exact h9
   ·rename_i hlt; rw [if_neg hlt] at h9; exact h9
theorem dp_closed (hO : orderB ops = true) (hA : ∀ j i o,j < ops.size → ops[j]? = some o → dpG A j i = true → ∃ e ∈ o.after,Region.binds .any e = true ∧ (e.on = i ∨ dpG A e.on i = true))
  (hcl : ∀ j oj,ops[j]? = some oj → S j = true → ∀ e ∈ oj.after,Region.binds .any e = true → S e.on = true) : ∀ (j i : Nat),j < ops.size → S j = true → dpG A j i = true → S i = true:=by
 intro j
 induction j using Nat.strongRecOn with
 | _ j ih =>
  intro i hj hS hd
  obtain ⟨o,ho⟩ : ∃ o,ops[j]? = some o:=⟨_,Array.getElem?_eq_some_iff.2 ⟨hj,rfl⟩⟩
  obtain ⟨e,he,hb,h1⟩:=hA j i o hj ho hd
  have h2:=hcl j o ho hS e he hb
  have h3:=(orderB_spec hO ho).2.2.1 e he hb
  rcases h1 with rfl | h1
  ·exact h2
  ·exact ih e.on h3 i (by omega) h2 h1
theorem wp_drawsG {l : List Oper} (A : List (List Nat)) (sd : List Sd) (dy : List Dyn) (base : Nat) (hm : P.follows .mixedOrders = true) (hO : orderB l.toArray = true) (hC : chkG l.toArray A sd base = true) (hI : IndA A 0 sd dy) (hb : L0.length = base) {id : Nat} {a0 : Act} {W0 : World}
  (h0 : Ext w0 { W0 with drawn:=W0.drawn + 1 } L0)
  (hG : ∀ ξ,GW r n P l.toArray w0 ξ (fun L a => ∀ W,Ext w0 W L → Q .normal a W) 0 l sd dy L0 a0) : (Code.region id l.toArray true).wpIn (Fw r) n P Q a0 W0:=by
 refine wpIn_region_any hm ?_
 obtain ⟨ops,hops⟩ : ∃ ops,ops = l.toArray:=⟨_,rfl⟩
 rw [← hops] at hO hC hG ⊢
 obtain ⟨hsl,hck⟩:=chk_spec hC
 obtain ⟨hdl,hind⟩:=ind_spec sd dy 0 hI
 have hN : ops.size = l.length:=by rw [hops]; simp
 obtain ⟨k,hk⟩ : ∃ k,k = ops.size:=⟨_,rfl⟩
 have hwr : ∀ j i,j < k → (sd.getD j default).1 = some i → i < lenG sd base j:=fun j i hj => (hck j (by omega)).1 i
 have hlen : ∀ ξ j,j < k → ((dy.getD j default).made ξ).length = (sd.getD j default).2.1:=fun ξ j hj => (hind j (by omega)).2 ξ
 have hA : ∀ j i o,j < ops.size → ops[j]? = some o → dpG A j i = true → ∃ e ∈ o.after,Region.binds .any e = true ∧ (e.on = i ∨ dpG A e.on i = true):=fun j i o hj => (hck j hj).2.2.1 i o
 have hlxs:=fun ξ => lx_spec (ξ:=ξ) hb (k:=k) hwr (hlen ξ)
 have hgw:=fun ξ => gw_spec (r:=r) (n:=n) (P:=P) (w0:=w0) (ξ:=ξ) (K:=fun L a => ∀ W,Ext w0 W L → Q .normal a W) (L0:=L0) (a0:=a0) hops (sd:=sd) (dy:=dy) (by omega) (by omega) l.length 0 (by omega) (by
  rw [List.drop_zero,List.drop_zero,List.drop_zero]
  exact hG ξ)
 have main : ∀ (c : Nat) (listed : Array Bool) (ξ : Nat → Xo) (W : World),ExtF w0 W (cu sd dy base L0 ξ (fun j => listed.getD j false) k) → listed.size = k → left listed k = c →
   (∀ j oj,ops[j]? = some oj → listed.getD j false = true → ∀ e ∈ oj.after,Region.binds .any e = true → listed.getD e.on false = true) →
   wpAnyIn (Fw r) n P .any ops Q c listed (stA ops (vaG dy ξ) a0 (fun j => listed.getD j false) k) W:=by
  intro c
  induction c with
  | zero =>
   intro listed ξ W hE hsz hc hcl
   have hall:=left_zero hc
   refine ⟨?_,?_⟩
   ·apply List.eq_nil_iff_forall_not_mem.2
    intro i hi
    obtain ⟨hun,o,ho,_⟩:=mem_ready.1 hi
    have hi' : i < ops.size:=(Array.getElem?_eq_some_iff.1 ho).1
    rw [getD_bool (by omega) true false,hall i (by omega)] at hun
    cases hun
   ·have e1 : ∀ m,m ≤ k → stA ops (vaG dy ξ) a0 (fun j => listed.getD j false) m = stA ops (vaG dy ξ) a0 (fun _ => true) m:=by
     intro m
     induction m with
     | zero => intro _; rfl
     | succ m ih =>
      intro hm
      show (if listed.getD m false = true then _ else _) = (if true = true then _ else _)
      rw [if_pos (hall m (by omega)),if_pos rfl,ih (by omega)]
    rw [e1 k (Nat.le_refl _)]
    have h3:=(hgw ξ).2 W (by
     refine ExtF.to ?_
     have e2 : (fun i => (lx sd dy ξ L0 l.length)[i]?) = cu sd dy base L0 ξ (fun j => listed.getD j false) k:=funext fun q => by
      rw [← hN,← hk,(hlxs ξ k (Nat.le_refl _)).2 q]
      exact cu_mask (fun i hi _ => (hall i hi).symm)
     rw [e2]
     exact hE)
    rw [hk,hN]
    exact h3
  | succ c ih =>
   intro listed ξ W hE hsz hc hcl
   have hrdy : ∀ j,j < ops.size → listed.getD j false = false → ∃ i,i ∈ Region.ready .any ops listed:=by
    intro j
    induction j using Nat.strongRecOn with
    | _ j ihj =>
     intro hj hun
     obtain ⟨o,ho⟩ : ∃ o,ops[j]? = some o:=⟨_,Array.getElem?_eq_some_iff.2 ⟨hj,rfl⟩⟩
     by_cases hall : ∀ e ∈ o.after,Region.binds .any e = true → listed.getD e.on false = true
     ·exact ⟨j,mem_ready.2 ⟨by rw [getD_bool (by omega) true false]; exact hun,o,ho,hall⟩⟩
     ·have : ∃ e ∈ o.after,Region.binds .any e = true ∧ listed.getD e.on false = false:=by
       apply Classical.byContradiction
       intro hno
       exact hall fun e he hb => by
        cases hl : listed.getD e.on false with
        | true => rfl
        | false => exact absurd ⟨e,he,hb,hl⟩ hno
      obtain ⟨e,he,hb,hf⟩:=this
      have hlt:=(orderB_spec hO ho).2.2.1 e he hb
      exact ihj e.on hlt (by omega) hf
   have hex : ∃ j,j < k ∧ listed.getD j false = false:=by
    apply Classical.byContradiction
    intro hno
    have : left listed k = 0:=by
     unfold left
     rw [List.length_eq_zero_iff,List.filter_eq_nil_iff]
     intro j hj
     have hj':=List.mem_range.1 hj
     cases hl : listed.getD j false with
     | true => simp
     | false => exact absurd ⟨j,hj',hl⟩ hno
    omega
   obtain ⟨j1,hj1,hf1⟩:=hex
   obtain ⟨i1,hi1⟩:=hrdy j1 (by omega) hf1
   refine ⟨fun h => (by rw [h] at hi1; cases hi1),fun i hi => ?_⟩
   obtain ⟨hun,o,ho,hall⟩:=mem_ready.1 hi
   have hiN : i < k:=by rw [hk]; exact (Array.getElem?_eq_some_iff.1 ho).1
   have hun':=hun
   rw [getD_bool (by omega) true false] at hun'
   have hl:=left_set (by omega) hun' k hiN
   have hfs : (fun j => (listed.setIfInBounds i true).getD j false) = fun j => listed.getD j false || j == i:=funext fun j => getD_set (by omega)
   have hcl' : ∀ j oj,ops[j]? = some oj → (listed.setIfInBounds i true).getD j false = true → ∀ e ∈ oj.after,Region.binds .any e = true → (listed.setIfInBounds i true).getD e.on false = true:=fun j oj hoj hlj e he hb => by
    rw [getD_set (by omega)] at hlj ⊢
    by_cases e' : j = i
    ·subst e'
     rw [ho] at hoj; cases hoj
     rw [hall e he hb]; rfl
    ·have : (j == i) = false:=by simpa using e'
     rw [this,Bool.or_false] at hlj
     rw [hcl j oj hoj hlj e he hb]; rfl
   obtain ⟨hsel,hdef,haft,hord⟩:=orderB_spec hO ho
   have hclos:=dp_closed (S:=fun j => listed.getD j false) hO hA hcl
   have hready : ∀ i',dpG A i i' = true → listed.getD i' false = true:=fun i' hd => by
    obtain ⟨e,he,hbd,h1⟩:=hA i i' o (by omega) ho hd
    have h2:=hall e he hbd
    rcases h1 with rfl | h1
    ·exact h2
    ·exact hclos e.on i' (by have:=haft e he hbd; omega) h2 h1
   have hlater : ∀ j,j < k → dpG A j i = true → listed.getD j false = false:=fun j hj hd => by
    cases hs : listed.getD j false with
    | false => rfl
    | true =>
     have h9 : listed.getD i false = true:=hclos j i (by omega) hs hd
     rw [hun'] at h9; cases h9
   have hxi : ∀ x j,j < k → listed.getD j false = true → ∀ i',(i' = 0 + j ∨ dpG A (0 + j) i' = true) → ξ i' = updX ξ i x i':=fun x j hj hs i' h => by
    unfold updX
    rw [if_neg]
    intro e
    subst e
    rw [Nat.zero_add] at h
    rcases h with rfl | h
    ·rw [hun'] at hs; cases hs
    ·have:=hlater j hj h
     rw [hs] at this; cases this
   have hval : ∀ x j,j < k → listed.getD j false = true → vaG dy ξ j = vaG dy (updX ξ i x) j:=fun x j hj hs => ((hind j (by omega)).1 _ _ (hxi x j hj hs)).1
   have hcux : ∀ x q,cu sd dy base L0 ξ (fun j => listed.getD j false) k q = cu sd dy base L0 (updX ξ i x) (fun j => listed.getD j false) k q:=fun x q => cu_xi (fun j hj hs => ((hind j (by omega)).1 _ _ (hxi x j hj hs)).2)
   have hlook : ∀ j,j < k → listed.getD j false ≠ decide (j < i) → ∀ d,dstA ops j = some d → ¬ d ∈ o.looksAt ops:=by
    intro j hj hne d hd hmem
    obtain ⟨oj,hoj⟩ : ∃ oj,ops[j]? = some oj:=⟨_,Array.getElem?_eq_some_iff.2 ⟨by omega,rfl⟩⟩
    have hdj : oj.dst = some d:=by simpa [dstA,hoj] using hd
    rcases Nat.lt_trichotomy j i with h | h | h
    ·have hl : listed.getD j false = false:=by
      cases hl : listed.getD j false with
      | false => rfl
      | true => exact absurd (by rw [hl]; simp [h]) hne
     rcases hord j oj h hoj with hap | ⟨e,he,hb,hon⟩
     ·exact (Oper.apart_spec hap).1 d hdj hmem
     ·have:=hall e he hb
      rw [hon,hl] at this; cases this
    ·subst h
     exact absurd (by rw [hun']; simp) hne
    ·have hl : listed.getD j false = true:=by
      cases hl : listed.getD j false with
      | true => rfl
      | false => exact absurd (by rw [hl]; simp; omega) hne
     rcases (orderB_spec hO hoj).2.2.2 i o h ho with hap | ⟨e,he,hb,hon⟩
     ·exact (Oper.apart_spec hap).2.2 d hdj hmem
     ·have:=hcl j oj hoj hl e he hb
      rw [hon,hun'] at this; cases this
   have hag:=stA_agree (ops:=ops) (vaG dy ξ) a0 (fun x => x ∈ o.looksAt ops) (fun j => listed.getD j false) (fun j => decide (j < i)) k hlook
   have hlex : stA ops (vaG dy ξ) a0 (fun j => decide (j < i)) k = stA ops (vaG dy ξ) a0 (fun _ => true) i:=by
    have h1 : ∀ m,m ≤ i → stA ops (vaG dy ξ) a0 (fun j => decide (j < i)) m = stA ops (vaG dy ξ) a0 (fun _ => true) m:=by
     intro m
     induction m with
     | zero => intro _; rfl
     | succ m ih => intro hm; simp only [stA]; rw [ih (by omega)]; simp; omega
    have h2 : ∀ m,i ≤ m → stA ops (vaG dy ξ) a0 (fun j => decide (j < i)) m = stA ops (vaG dy ξ) a0 (fun j => decide (j < i)) i:=by
     intro m
     induction m with
     | zero =>
      intro h
      have : i = 0:=by omega
      subst this; rfl
     | succ m ih =>
      intro hm
      by_cases e : i = m + 1
      ·rw [e]
      ·simp only [stA]
       rw [if_neg (by simp; omega)]
       exact ih (by omega)
    rw [h2 k (by omega),h1 i (Nat.le_refl _)]
   rw [hlex] at hag
   obtain ⟨hev,hwa⟩:=looks_same (ops:=ops) (o:=o) (a:=stA ops (vaG dy ξ) a0 (fun j => listed.getD j false) k) (b:=stA ops (vaG dy ξ) a0 (fun _ => true) i) hag.1
   have hput : ∀ ξ',(∀ j,j < k → listed.getD j false = true → vaG dy ξ j = vaG dy ξ' j) → (stA ops (vaG dy ξ) a0 (fun j => listed.getD j false) k).put o.dst ((dy.getD i default).val ξ') = stA ops (vaG dy ξ') a0 (fun j => listed.getD j false || j == i) k:=fun ξ' h => by
    rw [stA_insert (ops:=ops) (vaG dy ξ') a0 (fun j => listed.getD j false) i hun' k hiN (fun j h1 h2 h3 d h4 h5 => by
     obtain ⟨oj,hoj⟩ : ∃ oj,ops[j]? = some oj:=⟨_,Array.getElem?_eq_some_iff.2 ⟨by omega,rfl⟩⟩
     have hdj : oj.dst = some d:=by simpa [dstA,hoj] using h4
     have hdi : o.dst = some d:=by simpa [dstA,ho] using h5
     rcases (orderB_spec hO hoj).2.2.2 i o h1 ho with hap | ⟨e,he,hb,hon⟩
     ·exact (Oper.apart_spec hap).2.1 d hdi hdj
     ·have:=hcl j oj hoj h3 e he hb
      rw [hon,hun'] at this; cases this)]
    have e9 : ∀ m,m ≤ k → stA ops (vaG dy ξ) a0 (fun j => listed.getD j false) m = stA ops (vaG dy ξ') a0 (fun j => listed.getD j false) m:=by
     intro m
     induction m with
     | zero => intro _; rfl
     | succ m ih =>
      intro hm
      simp only [stA]
      rw [ih (by omega)]
      split
      ·rename_i hs
       rw [h m (by omega) hs]
      ·rfl
    have e8 : dstA ops i = o.dst:=by simp [dstA,ho]
    rw [e9 k (Nat.le_refl _),e8]
    rfl
   have hLk : ∀ j,j ≤ k → lenG sd base j ≤ lenG sd base k:=fun j hj => lenG_mono k hj
   rcases (hgw ξ).1 i o (Nat.zero_le _) ho with ⟨hw,hob⟩ | ⟨hw,hv,hn1,hn2⟩
   ·unfold wpOpIn
    simp only [ho]
    rw [hwa,if_pos hw]
    obtain ⟨msk,hmsk⟩ : ∃ msk,msk = (sd.getD i default).2.2:=⟨_,rfl⟩
    obtain ⟨LL,hLL⟩ : ∃ LL,LL = lx sd dy ξ L0 i:=⟨_,rfl⟩
    obtain ⟨len,hlenD⟩ : ∃ len,len = lenG sd base i:=⟨_,rfl⟩
    obtain ⟨LEN,hLEN⟩ : ∃ LEN,LEN = lenG sd base k:=⟨_,rfl⟩
    have hmlen : msk.length = len:=by rw [hmsk,hlenD]; exact (hck i (by omega)).2.1
    have hLlen : LL.length = len:=by rw [hLL,hlenD]; exact (hlxs ξ i (by omega)).1
    have hle : len ≤ LEN:=by rw [hlenD,hLEN]; exact hLk i (by omega)
    obtain ⟨f,hf⟩ : ∃ f,f = cu sd dy base L0 ξ (fun j => listed.getD j false) k:=⟨_,rfl⟩
    have hflt : ∀ q p,f q = some p → q < LEN:=fun q p h => by rw [hf] at h; rw [hLEN]; exact cu_lt hb hwr k q p (Nat.le_refl _) h
    have hmeq : ∀ q,q < len → msk.getD q false = true → LL[q]? = f q:=by
     intro q hq hmq
     rw [hLL,hf,(hlxs ξ i (by omega)).2 q]
     have hc4:=fun j (hj : j < ops.size) (hne : j ≠ i) => (hck i (by omega)).2.2.2 j q hj hne (by rw [← hk,← hLEN]; omega)
     rw [cu_mask (S:=fun _ => true) (S':=fun j => listed.getD j false) (fun j hj hwj => by
      have:=(hc4 j (by omega) (by omega) hwj).2 (by rw [← hmsk]; exact hmq)
      rw [if_pos hj] at this
      exact (hready j this).symm)]
     refine (cu_up k (by omega) (fun j h1 h2 hwj => ?_)).symm
     by_cases e : j = i
     ·subst e; exact hun'
     ·have:=(hc4 j (by omega) e hwj).2 (by rw [← hmsk]; exact hmq)
      rw [if_neg (by omega)] at this
      exact hlater j h2 this
    obtain ⟨L2,hL2⟩ : ∃ L2,L2 = (List.range LEN).map fun q => if q < len ∧ msk.getD q false = true then noR else (f q).getD noR:=⟨_,rfl⟩
    have hL2len : L2.length = LEN:=by rw [hL2]; simp
    have hL2get : ∀ q,q < LEN → L2[q]? = some (if q < len ∧ msk.getD q false = true then noR else (f q).getD noR):=fun q hq => by
     rw [hL2]; simp [hq]
    have hMlen : (maskL LL msk).length = len:=by rw [maskL_len _ _ (by omega)]; exact hLlen
    have hMget : ∀ q,q < len → msk.getD q false = true → (maskL LL msk ++ L2)[q]? = f q:=fun q hq hmq => by
     rw [List.getElem?_append_left (by omega),maskL_get _ _ _ (by omega),← hmeq q hq hmq]
     cases LL[q]? with
     | none => rfl
     | some p => simp only [Option.map_some]; rw [if_pos hmq]
    have hRget : ∀ q,q < LEN → (maskL LL msk ++ L2)[len + q]? = some (if q < len ∧ msk.getD q false = true then noR else (f q).getD noR):=fun q hq => by
     rw [List.getElem?_append_right (by omega),hMlen,show len + q - len = q by omega]
     exact hL2get q hq
    have hcls : ∀ q p,(maskL LL msk ++ L2)[q]? = some p → p = noR ∨ (q < len ∧ msk.getD q false = true ∧ f q = some p) ∨ (len ≤ q ∧ ¬ (q - len < len ∧ msk.getD (q - len) false = true) ∧ f (q - len) = some p):=by
     intro q p hp
     by_cases hq : q < len
     ·by_cases hmq : msk.getD q false = true
      ·rw [hMget q hq hmq] at hp
       exact .inr (.inl ⟨hq,hmq,hp⟩)
      ·rw [List.getElem?_append_left (by omega),maskL_get _ _ _ (by omega)] at hp
       obtain ⟨p0,_,h2⟩:=Option.map_eq_some_iff.1 hp
       rw [if_neg hmq] at h2
       exact .inl h2.symm
     ·have hlt : q - len < LEN:=by
       have:=(List.getElem?_eq_some_iff.1 hp).1
       rw [List.length_append,hMlen,hL2len] at this
       omega
      have h3:=hRget (q - len) hlt
      rw [show len + (q - len) = q by omega,hp] at h3
      have h3:=Option.some.inj h3
      split at h3
      ·exact .inl h3
      ·rename_i h4
       cases hfq : f (q - len) with
       | none => rw [hfq] at h3; exact .inl h3
       | some p1 => rw [hfq] at h3; exact .inr (.inr ⟨by omega,h4,by rw [h3]; rfl⟩)
    have hEx : Ext w0 W (maskL LL msk ++ L2):=by
     refine ExtF.to (hE.map (fun q => if q < len then q else q - len) (fun q p hp => ?_) (fun q q' p p' hp hp' hne => ?_))
     ·rcases hcls q p hp with h | ⟨h1,h2,h3⟩ | ⟨h1,h2,h3⟩
      ·exact .inl h
      ·rw [if_pos h1,← hf]; exact .inr h3
      ·rw [if_neg (by omega),← hf]; exact .inr h3
     ·rcases hcls q p hp with h | ⟨h1,h2,h3⟩ | ⟨h1,h2,h3⟩
      ·exact .inl h
      ·rcases hcls q' p' hp' with h' | ⟨h1',h2',h3'⟩ | ⟨h1',h2',h3'⟩
       ·exact .inr (.inl h')
       ·rw [if_pos h1,if_pos h1',← hf]; exact .inr (.inr ⟨h3,h3',hne⟩)
       ·rw [if_pos h1,if_neg (by omega),← hf]
        exact .inr (.inr ⟨h3,h3',fun e => h2' (by rw [← e]; exact ⟨h1,h2⟩)⟩)
      ·rcases hcls q' p' hp' with h' | ⟨h1',h2',h3'⟩ | ⟨h1',h2',h3'⟩
       ·exact .inr (.inl h')
       ·rw [if_neg (by omega),if_pos h1',← hf]
        exact .inr (.inr ⟨h3,h3',fun e => h2 (by rw [e]; exact ⟨h1',h2'⟩)⟩)
       ·rw [if_neg (by omega),if_neg (by omega),← hf]; exact .inr (.inr ⟨h3,h3',by omega⟩)
    refine wpIn_moveG (j:=i) (s:=sd.getD i default) (dd:=dy.getD i default) (ξ:=ξ) (L:=maskL LL msk ++ L2) (a:=stA ops (vaG dy ξ) a0 (fun _ => true) i) hsel hdef (fun x hx => (hev x hx).symm) (by rw [stA_sizeU,stA_sizeU]) (by
     have:=hob L2 W (by rw [← hLL,← hmsk]; exact hEx)
     rw [← hLL,← hmsk] at this
     exact this) ?_
    intro x W' hE'
    rw [hput (updX ξ i x) (hval x)]
    have hnew : ExtF w0 W' (cu sd dy base L0 (updX ξ i x) (fun j => listed.getD j false || j == i) k):=by
     have hcp : ∀ q,cu sd dy base L0 (updX ξ i x) (fun j => listed.getD j false || j == i) k q = _:=fun q => cu_put (S:=fun j => listed.getD j false) hiN hun' (fun j h1 h2 h3 h4 => by
      have hq : q < lenG sd base ops.size:=by
       rw [← hk]
       rw [wrG_iff] at h3
       rcases h3 with h3 | h3
       ·have:=hwr i q hiN h3
        have:=hLk i (by omega)
        omega
       ·have:=hLk (i + 1) (by omega)
        omega
      rcases ((hck i (by omega)).2.2.2 j q (by omega) (by omega) hq h4).1 h3 with h5 | h5
      ·obtain ⟨e,he,hbd,h6⟩:=hA i j o (by omega) ho h5
       have h7:=haft e he hbd
       have h8:=hready j h5
       exfalso
       have h9 : ∀ (a b : Nat),a < ops.size → dpG A a b = true → b < a:=by
        intro a
        induction a using Nat.strongRecOn with
        | _ a iha =>
         intro b ha hd
         obtain ⟨oa,hoa⟩ : ∃ oa,ops[a]? = some oa:=⟨_,Array.getElem?_eq_some_iff.2 ⟨ha,rfl⟩⟩
         obtain ⟨e,he,hbd,h6⟩:=hA a b oa ha hoa hd
         have h7:=(orderB_spec hO hoa).2.2.1 e he hbd
         rcases h6 with rfl | h6
         ·exact h7
         ·have:=iha e.on h7 b (by omega) h6
          omega
       have:=h9 i j (by omega) h5
       omega
      ·exact hlater j h2 h5)
     obtain ⟨wr,hwrD⟩ : ∃ wr,wr = (sd.getD i default).1:=⟨_,rfl⟩
     obtain ⟨Lm,hLm⟩ : ∃ Lm,Lm = (match wr with | some i' => (maskL LL msk ++ L2).set i' ((dy.getD i default).wp (updX ξ i x)) | none => (maskL LL msk ++ L2)):=⟨_,rfl⟩
     have hwl : ∀ q,wr = some q → q < len:=fun q h => by rw [hlenD]; exact hwr i q hiN (by rw [← hwrD]; exact h)
     have hLmlen : Lm.length = len + LEN:=by
      rw [hLm]
      cases wr <;> simp [hMlen,hL2len]
     have hLmget : ∀ t,t < len + LEN → Lm[t]? = if wr = some t then some ((dy.getD i default).wp (updX ξ i x)) else (maskL LL msk ++ L2)[t]?:=by
      intro t ht
      rw [hLm]
      cases hw9 : wr with
      | none => rw [if_neg (by intro h; cases h)]
      | some i' =>
       simp only []
       rw [List.getElem?_set]
       by_cases e : i' = t
       ·subst e
        rw [if_pos rfl,if_pos (by rw [List.length_append,hMlen,hL2len]; omega),if_pos rfl]
       ·rw [if_neg e,if_neg (by intro h; cases h; exact e rfl)]
     have hE2 : Ext w0 W' (Lm ++ (dy.getD i default).made (updX ξ i x)):=by
      rw [hLm,hwrD]; exact hE'
     have hl1 : lenG sd base (i + 1) = len + (sd.getD i default).2.1:=by rw [hlenD]; rfl
     refine (ExtF.of hE2).map (fun q => if wr = some q then q else if len ≤ q ∧ q < lenG sd base (i + 1) then len + LEN + (q - len) else if q < len ∧ msk.getD q false = true then q else len + q) (fun q p hp => .inr ?_) (fun q q' p p' hp hp' hne => .inr (.inr ⟨?_,?_,?_⟩))
     all_goals
      have hget : ∀ q p,cu sd dy base L0 (updX ξ i x) (fun j => listed.getD j false || j == i) k q = some p → (Lm ++ (dy.getD i default).made (updX ξ i x))[if wr = some q then q else if len ≤ q ∧ q < lenG sd base (i + 1) then len + LEN + (q - len) else if q < len ∧ msk.getD q false = true then q else len + q]? = some p ∧ q < LEN:=by
       intro q p hp
       rw [hcp q,← hwrD,← hlenD] at hp
       by_cases h1 : wr = some q
       ·have:=hwl q h1
        rw [if_pos h1] at hp
        rw [if_pos h1,List.getElem?_append_left (by omega),hLmget q (by omega),if_pos h1]
        exact ⟨hp,by omega⟩
       ·rw [if_neg h1] at hp
        rw [if_neg h1]
        by_cases h2 : len ≤ q ∧ q < lenG sd base (i + 1)
        ·rw [if_pos h2] at hp
         rw [if_pos h2,List.getElem?_append_right (by omega),hLmlen,show len + LEN + (q - len) - (len + LEN) = q - len by omega]
         have:=hLk (i + 1) (by omega)
         exact ⟨hp,by omega⟩
        ·rw [if_neg h2,← hcux x q,← hf] at hp
         have hq:=hflt q p hp
         rw [if_neg h2]
         by_cases h3 : q < len ∧ msk.getD q false = true
         ·rw [if_pos h3,List.getElem?_append_left (by omega),hLmget q (by omega),if_neg h1,hMget q h3.1 h3.2]
          exact ⟨hp,hq⟩
         ·rw [if_neg h3,List.getElem?_append_left (by omega),hLmget (len + q) (by omega),if_neg (fun h => by have:=hwl _ h; omega),hRget q hq,if_neg h3,hp]
          exact ⟨rfl,hq⟩
     ·exact (hget q p hp).1
     ·exact (hget q p hp).1
     ·exact (hget q' p' hp').1
     ·have h1:=(hget q p hp).2
      have h2:=(hget q' p' hp').2
      have ht : ∀ q,((if wr = some q then q else if len ≤ q ∧ q < lenG sd base (i + 1) then len + LEN + (q - len) else if q < len ∧ msk.getD q false = true then q else len + q) = q ∧ q < len) ∨
        ((if wr = some q then q else if len ≤ q ∧ q < lenG sd base (i + 1) then len + LEN + (q - len) else if q < len ∧ msk.getD q false = true then q else len + q) = len + LEN + (q - len) ∧ len ≤ q) ∨
        (if wr = some q then q else if len ≤ q ∧ q < lenG sd base (i + 1) then len + LEN + (q - len) else if q < len ∧ msk.getD q false = true then q else len + q) = len + q:=by
       intro q
       by_cases a1 : wr = some q
       ·rw [if_pos a1]; exact .inl ⟨rfl,hwl q a1⟩
       ·rw [if_neg a1]
        by_cases a2 : len ≤ q ∧ q < lenG sd base (i + 1)
        ·rw [if_pos a2]; exact .inr (.inl ⟨rfl,a2.1⟩)
        ·rw [if_neg a2]
         by_cases a3 : q < len ∧ msk.getD q false = true
         ·rw [if_pos a3]; exact .inl ⟨rfl,a3.1⟩
         ·rw [if_neg a3]; exact .inr (.inr rfl)
      intro he
      rcases ht q with ⟨b1,b2⟩ | ⟨b1,b2⟩ | b1 <;> rcases ht q' with ⟨c1,c2⟩ | ⟨c1,c2⟩ | c1 <;> rw [b1,c1] at he <;> omega
    have:=ih (listed.setIfInBounds i true) (updX ξ i x) W' (by rw [hfs]; exact hnew) (by simpa using hsz) (by omega) hcl'
    rw [hfs] at this
    exact this
   ·unfold wpOpIn
    simp only [ho]
    rw [hwa,if_neg (by rw [hw]; simp)]
    refine ⟨fun _ _ => trivial,?_⟩
    have hp:=hput ξ (fun _ _ _ => rfl)
    rw [hv ξ] at hp
    rw [hp]
    have:=ih (listed.setIfInBounds i true) ξ W (by
     rw [hfs]
     have e7 : cu sd dy base L0 ξ (fun j => listed.getD j false || j == i) k = cu sd dy base L0 ξ (fun j => listed.getD j false) k:=funext fun q => cu_mask (fun j hj hwj => by
      have hne : (j == i) = false:=by
       simp
       intro e
       subst e
       rw [wrG_iff,hn1] at hwj
       simp only [lenG,hn2] at hwj
       rcases hwj with h | h
       ·cases h
       ·omega
      simp [hne])
     rw [e7]
     exact hE) (by simpa using hsz) (by omega) hcl'
    rw [hfs] at this
    exact this
 have e1 : left (Array.replicate ops.size false) k = k:=by
  unfold left
  rw [List.filter_eq_self.2 fun j hj => ?_]
  ·simp
  ·have:=List.mem_range.1 hj
   simp [show j < ops.size by omega]
 have hrep : ∀ j,(Array.replicate ops.size false).getD j false = false:=fun j => by
  rw [Array.getD_eq_getD_getElem?,Array.getElem?_replicate]
  split <;> rfl
 have hfin:=main k (Array.replicate ops.size false) (fun _ _ => (none,0,0)) _ (by
  have e3 : cu sd dy base L0 (fun _ _ => (none,0,0)) (fun j => (Array.replicate ops.size false).getD j false) k = fun i => L0[i]?:=funext fun q => cu_up (j:=0) k (Nat.zero_le _) (fun i _ _ _ => hrep i)
  rw [e3]
  exact ExtF.of h0) (by simp [hk]) e1 (fun j oj hoj hl => by rw [hrep j] at hl; cases hl)
 have e2 : ∀ m,stA ops (vaG dy (fun _ _ => (none,0,0))) a0 (fun j => (Array.replicate ops.size false).getD j false) m = a0:=by
  intro m
  induction m with
  | zero => rfl
  | succ m ih => simp only [stA]; rw [ih,if_neg (by rw [hrep m]; simp)]
 rw [e2 k,hk] at hfin
 exact hfin
end
open Go.RowKit (Below)
section
variable {r : Option Nat} {n : Nat} {P : Program} {ops : Array Oper} {Q : Exit → Act → World → Prop} {w0 : World} {L : List Res} {m : Nat} {tm : Nat → Value} {d : List Deferred} {ξ : Nat → Xo}
variable {t : Tmp} {ty : TypeId} {pos : String} {af : Array Edge} {g : Option (Nat × Bool)} {os : List Oper} {s : Sd} {dd : Dyn} {ss : List Sd} {ds : List Dyn} {j : Nat}
def GX (r : Option Nat) (n : Nat) (P : Program) (ops : Array Oper) (Q : Exit → Act → World → Prop) (w0 : World) (ξ : Nat → Xo) (j : Nat) (os : List Oper) (ss : List Sd) (ds : List Dyn) (L : List Res) (m : Nat) (tm : Nat → Value) (d : List Deferred) : Prop :=
 GW r n P ops w0 ξ (fun L a => ∀ W,Ext w0 W L → Q .normal a W) j os ss ds L (act m tm d)
theorem cx_drawsG (A : List (List Nat)) (sd : List Sd) (dy : List Dyn) (base : Nat) {id : Nat} {l : List Oper} (hm : P.follows .mixedOrders = true) (hO : orderB l.toArray = true) (hC : chkG l.toArray A sd base = true) (hI : IndA A 0 sd dy) (hb : L.length = base)
  (h : ∀ ξ,GX r n P l.toArray Q w0 ξ 0 l sd dy L m tm d) : CX r n P (.region id l.toArray true) Q w0 L m tm d :=
 fun _ hW => wp_drawsG A sd dy base hm hO hC hI hb hW.drawn h
theorem gx_nil (h : EX Q .normal w0 L m tm d) : GX r n P ops Q w0 ξ j [] [] [] L m tm d:=h
theorem gx_o {op : Op} (hw : seesB ops m tm ⟨some t,op,ty,pos,af,g⟩ = true)
  (hop : ∀ L2,OX r n P ops (obQ w0 j s dd ξ (some t) (maskL L s.2.2 ++ L2) (act m tm d)) w0 (maskL L s.2.2 ++ L2) [⟨some t,op,ty,pos,af,g⟩] m tm d)
  (h : GX r n P ops Q w0 ξ (j + 1) os ss ds (aftL s dd ξ L) m (upd tm t (dd.val ξ)) d) : GX r n P ops Q w0 ξ j (⟨some t,op,ty,pos,af,g⟩ :: os) (s :: ss) (dd :: ds) L m tm d:=by
 unfold GX GW
 refine ⟨.inl ⟨by rw [wanted_act]; exact hw,fun L2 W hW => ?_⟩,?_⟩
 ·have h1:=hop L2 W hW
  unfold OL at h1
  rw [wanted_act,if_pos hw] at h1
  exact Oper.wpIn_mono (fun a w h => h) h1
 ·rw [put_act]
  exact h
theorem gx_n {op : Op} (hw : seesB ops m tm ⟨none,op,ty,pos,af,g⟩ = true)
  (hop : ∀ L2,OX r n P ops (obQ w0 j s dd ξ none (maskL L s.2.2 ++ L2) (act m tm d)) w0 (maskL L s.2.2 ++ L2) [⟨none,op,ty,pos,af,g⟩] m tm d)
  (h : GX r n P ops Q w0 ξ (j + 1) os ss ds (aftL s dd ξ L) m tm d) : GX r n P ops Q w0 ξ j (⟨none,op,ty,pos,af,g⟩ :: os) (s :: ss) (dd :: ds) L m tm d:=by
 unfold GX GW
 refine ⟨.inl ⟨by rw [wanted_act]; exact hw,fun L2 W hW => ?_⟩,h⟩
 have h1:=hop L2 W hW
 unfold OL at h1
 rw [wanted_act,if_pos hw] at h1
 exact Oper.wpIn_mono (fun a w h => h) h1
theorem ex_capG {Lf L' : List Res} {v : Value} (x : Xo) (hv : dd.val (updX ξ j x) = v) (hL : aftL s dd (updX ξ j x) Lf = L') : EX (obQ w0 j s dd ξ (some t) Lf (act m tm d)) .normal w0 L' m (upd tm t v) d:=fun W hW => by
 subst hv hL
 exact ⟨rfl,x,(put_act m tm d (some t) _).symm,hW⟩
theorem ex_capGn {Lf L' : List Res} (x : Xo) (hL : aftL s dd (updX ξ j x) Lf = L') : EX (obQ w0 j s dd ξ none Lf (act m tm d)) .normal w0 L' m tm d:=fun W hW => by
 subst hL
 exact ⟨rfl,x,rfl,hW⟩
end
end Go.Proofs.YtbblpokfbmekfaaGreat
