import Derived.Test.YthndghnkebboaabGreatP
import Derived.Test.YthndghnkebboaabGreatGz
import Derived.Test.YthndghnkebboaabGreatGD
import Derived.KernelRfl
set_option linter.unusedSimpArgs false
set_option linter.unusedVariables false
namespace Go.Proofs.YthndghnkebboaabGreat
theorem qQ {S T : Type} {body : S → Option (S ⊕ T)} (st : Nat → S) : ∀ (n : Nat),(∀ k,k < n → body (st k) = some (.inl (st (k + 1)))) → aT body (st 0) = aT body (st n)
 | 0,_ => rfl
 | n + 1,h => by rw [qQ st n (fun k hk => h k (by omega)),fZ (h n (by omega))]
theorem jc {S T : Type} {body : S → Option (S ⊕ T)} (st : Nat → S) (n : Nat) {t : T} (h : ∀ k,k < n → body (st k) = some (.inl (st (k + 1)))) (hs : body (st n) = some (.inr t)) : aT body (st 0) = some t:=by
 rw [qQ st n h,ct hs]
theorem kT {S T : Type} {body : S → Option (S ⊕ T)} (st : Nat → S) (n : Nat) (R : Nat → Option T) {t0 : T} (h : ∀ k,k < n → body (st k) = some (match R k with | none => .inl (st (k + 1)) | some t => .inr t)) (hs : body (st n) = some (.inr t0)) :
  aT body (st 0) = some (((List.range n).findSome? R).getD t0):=by
 have key : ∀ c k,k + c = n → aT body (st k) = some (((List.range' k c).findSome? R).getD t0):=by
  intro c
  induction c with
  | zero =>
   intro k hk
   have : k = n:=by omega
   subst this
   rw [ct hs]
   rfl
  | succ c ih =>
   intro k hk
   have hb:=h k (by omega)
   rw [List.range'_succ]
   cases hR : R k with
   | none =>
    rw [hR] at hb
    rw [fZ hb,ih (k + 1) (by omega)]
    simp [hR]
   | some t =>
    rw [hR] at hb
    rw [ct hb]
    simp [hR]
 have:=key n 0 (by omega)
 rw [this,List.range_eq_range']
theorem jw {α : Type} {p : Prop} [Decidable p] {x y : α} (h : p) : (if decide p = true then x else y) = x:=by rw [if_pos (decide_eq_true h)]
theorem iY {α : Type} {p : Prop} [Decidable p] {x y : α} (h : ¬p) : (if decide p = true then x else y) = y:=by rw [if_neg (by rw [decide_eq_false h]; exact Bool.false_ne_true)]
theorem cL {α : Type} [Inhabited α] {xs : List α} {k : Nat} (h : k < xs.length) : rdL xs (k : Int) = xs[k]:=by
 unfold rdL
 rw [Int.toNat_natCast,List.getD_eq_getElem?_getD,List.getElem?_eq_getElem h]
 rfl
theorem cE {k : Nat} (h : k < 9223372036854775807) : w64 ((k : Int) + 1) = ((k + 1 : Nat) : Int):=by
 rw [eC (by omega) (by omega)]; rfl
theorem iE {T : Type} {R : Nat → Option T} {n : Nat} (t0 : T) : ((∀ k,k < n → R k = none) ∧ ((List.range n).findSome? R).getD t0 = t0) ∨ ∃ k t,k < n ∧ R k = some t ∧ (∀ j,j < k → R j = none) ∧ ((List.range n).findSome? R).getD t0 = t:=by
 induction n with
 | zero => exact .inl ⟨fun k hk => by omega,rfl⟩
 | succ n ih =>
  rw [List.range_succ,List.findSome?_append]
  rcases ih with ⟨h1,h2⟩ | ⟨k,t,hk,hR,hj,h2⟩
  ·have h3 : (List.range n).findSome? R = none:=List.findSome?_eq_none_iff.2 (fun x hx => h1 x (List.mem_range.1 hx))
   rw [h3]
   cases hR : R n with
   | none => exact .inl ⟨fun k hk => by
    rcases Nat.lt_or_ge k n with h | h
    ·exact h1 k h
    ·rw [show k = n by omega]; exact hR,by simp [hR]⟩
   | some t => exact .inr ⟨n,t,by omega,hR,h1,by simp [hR]⟩
  ·refine .inr ⟨k,t,by omega,hR,hj,?_⟩
   have h3 : ((List.range n).findSome? R) = some t:=by
    cases hf : (List.range n).findSome? R with
    | none => have:=List.findSome?_eq_none_iff.1 hf k (List.mem_range.2 hk); rw [hR] at this; cases this
    | some u => rw [hf] at h2; exact congrArg some h2
   rw [h3]
   rfl
theorem qn {T : Type} {R : Nat → Option T} {n : Nat} {t0 : T} (h : ∀ k,k < n → R k = none) : ((List.range n).findSome? R).getD t0 = t0:=by
 rw [List.findSome?_eq_none_iff.2 (fun x hx => h x (List.mem_range.1 hx))]; rfl
theorem qk {T : Type} {R : Nat → Option T} {n : Nat} {t0 t : T} (k : Nat) (hk : k < n) (hR : R k = some t) (hj : ∀ j,j < k → R j = none) : ((List.range n).findSome? R).getD t0 = t:=by
 rcases iE (R:=R) (n:=n) t0 with ⟨h,_⟩ | ⟨k',t',hk',hR',hj',h⟩
 ·rw [h k hk] at hR; cases hR
 ·rcases Nat.lt_trichotomy k k' with h' | h' | h'
  ·rw [hj' k h'] at hR; cases hR
  ·subst h'; rw [hR] at hR'; cases hR'; exact h
  ·rw [hj k' h'] at hR'; cases hR'
def p7 {α : Type} [Inhabited α] (l : List α) (q : α → Bool) : Int:=((List.range l.length).findSome? fun k => if q (l.getD k default) = true then some (k : Int) else none).getD (-1)
theorem dQ {α : Type} [Inhabited α] {l : List α} {k : Nat} (h : k < l.length) : l.getD k default = l[k]:=by
 rw [List.getD_eq_getElem?_getD,List.getElem?_eq_getElem h]; rfl
theorem lP {α : Type} [Inhabited α] (l : List α) (q : α → Bool) : ((∀ x ∈ l,q x = false) ∧ p7 l q = -1) ∨ ∃ k,∃ h : k < l.length,q l[k] = true ∧ (∀ j,(hj : j < k) → q (l[j]'(by omega)) = false) ∧ p7 l q = (k : Int):=by
 unfold p7
 rcases iE (R:=fun k => if q (l.getD k default) = true then some (k : Int) else none) (n:=l.length) (-1) with ⟨h,h2⟩ | ⟨k,t,hk,hR,hj,h2⟩
 ·refine .inl ⟨fun x hx => ?_,h2⟩
  obtain ⟨k,hk,rfl⟩:=List.mem_iff_getElem.1 hx
  have:=h k hk
  rw [dQ hk] at this
  cases hq : q l[k]
  ·rfl
  ·rw [hq] at this; simp at this
 ·rw [dQ hk] at hR
  cases hq : q l[k] with
  | false => rw [hq] at hR; simp at hR
  | true =>
   rw [hq] at hR
   simp only [if_true] at hR
   refine .inr ⟨k,hk,hq,fun j hj' => ?_,h2.trans (Option.some.inj hR).symm⟩
   have:=hj j hj'
   rw [dQ (by omega)] at this
   cases hq' : q (l[j]'(by omega))
   ·rfl
   ·rw [hq'] at this; simp at this
theorem qC {α : Type} [Inhabited α] (l : List α) (q : α → Bool) : (match ((List.range l.length).findSome? (fun k => if q (l.getD k default) = true then some (Sum.inl ((k : Int),(k : Int)) : (Int × Int) ⊕ (Int × Int)) else none)).getD (.inr (0,(l.length : Int))) with | .inl u => some u.1 | .inr _ => some (-1)) = some (p7 l q):=by
 unfold p7
 rcases iE (R:=fun k => if q (l.getD k default) = true then some (Sum.inl ((k : Int),(k : Int)) : (Int × Int) ⊕ (Int × Int)) else none) (n:=l.length) (.inr (0,(l.length : Int))) with ⟨hn,h2⟩ | ⟨k,t,hk,hR,hj,h2⟩
 ·rw [h2,qn (fun k hk => by have:=hn k hk; split at this <;> simp_all)]
 ·rw [h2]
  have hq : q (l.getD k default) = true:=by
   by_cases hq : q (l.getD k default) = true
   ·exact hq
   ·rw [if_neg hq] at hR; cases hR
  rw [if_pos hq] at hR
  cases hR
  rw [qk k hk (by rw [if_pos hq]) (fun j hj' => by have:=hj j hj'; split at this <;> simp_all)]
theorem qq {α : Type} [Inhabited α] {l : List α} {q : α → Bool} : 0 ≤ p7 l q ↔ ∃ x ∈ l,q x = true:=by
 rcases lP l q with ⟨h,h2⟩ | ⟨k,hk,hq,_,h2⟩
 ·rw [h2]
  exact ⟨fun h => by omega,fun ⟨x,hx,hq⟩ => by rw [h x hx] at hq; cases hq⟩
 ·rw [h2]
  exact ⟨fun _ => ⟨l[k],List.getElem_mem hk,hq⟩,fun _ => by omega⟩
theorem qa {α : Type} [Inhabited α] {l : List α} {f : α → Int} (hd : (l.map f).Nodup) {k : Nat} (hk : k < l.length) : p7 l (fun x => f x == f l[k]) = (k : Int):=by
 rcases lP l (fun x => f x == f l[k]) with ⟨h,_⟩ | ⟨j,hj,hq,_,h2⟩
 ·have:=h l[k] (List.getElem_mem hk); simp at this
 ·rw [h2]
  have he : f l[j] = f l[k]:=by simpa using hq
  have hpw:=List.pairwise_iff_getElem.1 hd
  rcases Nat.lt_trichotomy j k with h3 | h3 | h3
  ·have:=hpw j k (by simpa using hj) (by simpa using hk) h3
   simp only [List.getElem_map] at this
   exact absurd he this
  ·rw [h3]
  ·have:=hpw k j (by simpa using hk) (by simpa using hj) h3
   simp only [List.getElem_map] at this
   exact absurd he.symm this
theorem r5 {α : Type} [Inhabited α] {l : List α} {f : α → Int} {k : Nat} (hk : k < l.length) : p7 l (fun x => f x == f l[k]) < (k : Int) ↔ ∃ j,∃ h : j < k,f (l[j]'(by omega)) = f l[k]:=by
 rcases lP l (fun x => f x == f l[k]) with ⟨h,_⟩ | ⟨j,hj,hq,hm,h2⟩
 ·have:=h l[k] (List.getElem_mem hk); simp at this
 ·rw [h2]
  have he : f l[j] = f l[k]:=by simpa using hq
  refine ⟨fun h => ⟨j,by omega,he⟩,fun ⟨i,hi,hie⟩ => ?_⟩
  rcases Nat.lt_or_ge j k with h3 | h3
  ·omega
  ·exfalso
   have:=hm i (by omega)
   rw [hie] at this
   simp at this
theorem jB {α : Type} [Inhabited α] {l : List α} {f : α → Int} : (∀ k,(hk : k < l.length) → ¬ p7 l (fun x => f x == f l[k]) < (k : Int)) ↔ (l.map f).Nodup:=by
 refine ⟨fun h => ?_,fun h k hk => by rw [qa h hk]; omega⟩
 rw [List.Nodup,List.pairwise_iff_getElem]
 intro i j hi hj hij
 simp only [List.length_map] at hi hj
 simp only [List.getElem_map]
 intro e
 exact h j hj ((r5 hj).2 ⟨i,hij,e⟩)
theorem kW (x : TSpan) : TSpan.mk x.fLo x.fHi = x:=rfl
theorem rt (x : TO) : TO.mk x.fID x.fH x.fD x.fW = x:=rfl
theorem TBay_eta (x : TBay) : TBay.mk x.fID x.fHour x.fD = x:=rfl
theorem kj (x : TT) : TT.mk x.fID x.fFrom x.fTo x.fLong x.fToll x.fK = x:=rfl
theorem pc {l : List TT} {f : TT → Option Bool} {q : TT → Bool} (hl : l.length < 1000000000) (h : ∀ x ∈ l,f x = some (q x)) : bv l f = some (p7 l q):=by
 unfold bv
 have:=kT (body:=a5 l f) (fun k => ((0 : Int),(k : Int))) l.length (fun k => if q (l.getD k default) = true then some (Sum.inl ((k : Int),(k : Int))) else none) (t0:=.inr (0,(l.length : Int))) (fun k hk => by
  have c1 : decide ((k : Int) < ((l.length : Nat) : Int)) = true:=decide_eq_true (by omega)
  have c2 : (0 : Int) ≤ (k : Int) ∧ (k : Int) < ((l.length : Nat) : Int):=by omega
  unfold a5; dsimp only
  simp only [c1,if_true,gPo c2,cL hk,kj,h _ (List.getElem_mem hk),oB,dQ hk,cE (show k < 9223372036854775807 by omega)]
  cases q l[k] <;> rfl) (by
  unfold a5; dsimp only
  rw [iY (by omega)])
 have h0 : aT (a5 l f) (0,0) = _:=this
 rw [h0,oB]
 exact qC l q
theorem jY (n lo hi : Int) : bk n lo hi = some (decide (lo ≤ n ∧ n ≤ hi)):=by unfold bk; rw [Bool.decide_and]
theorem o2 (n : Int) : dx n = some (decide (0 ≤ n ∧ n ≤ 16384)):=by unfold dx; rw [jY]; rfl
theorem lV (n lo hi : Int) : bh n lo hi = some (decide (lo ≤ n ∧ n ≤ hi)):=by unfold bh; rw [Bool.decide_and]
theorem kd (n : Int) : cJ n = some (decide (0 ≤ n ∧ n ≤ 16384)):=by unfold cJ; rw [lV]; rfl
def bayI (y : TY) (id : Int) : Int:=p7 y.fB fun n => n.fID == id
set_option linter.unusedSimpArgs false
open Classical
def sm : Nat → (Nat → Int) → Int
 | 0,_ => 0
 | n + 1,f => sm n f + f n
theorem eS {f g : Nat → Int} : ∀ {n : Nat},(∀ i,i < n → f i = g i) → sm n f = sm n g
 | 0,_ => rfl
 | n + 1,h => by unfold sm; rw [eS fun i hi => h i (by omega),h n (by omega)]
theorem nS {f g : Nat → Int} : ∀ {n : Nat},(∀ i,i < n → f i ≤ g i) → sm n f ≤ sm n g
 | 0,_ => Int.le_refl _
 | n + 1,h => by
  have h1:=nS (f:=f) (g:=g) (n:=n) fun i hi => h i (by omega)
  have h2:=h n (by omega)
  unfold sm; omega
theorem sm_add (f g : Nat → Int) : ∀ n,sm n (fun i => f i + g i) = sm n f + sm n g
 | 0 => rfl
 | n + 1 => by have:=sm_add f g n; unfold sm; dsimp only; omega
theorem sm_sub (f g : Nat → Int) : ∀ n,sm n (fun i => f i - g i) = sm n f - sm n g
 | 0 => rfl
 | n + 1 => by have:=sm_sub f g n; unfold sm; dsimp only; omega
theorem oF : ∀ {n : Nat} {f : Nat → Int},(∀ i,i < n → f i = 0) → sm n f = 0
 | 0,_,_ => rfl
 | n + 1,f,h => by have h1:=oF (n:=n) (f:=f) fun i hi => h i (by omega); have h2:=h n (by omega); unfold sm; omega
theorem pT {n : Nat} {f : Nat → Int} (h : ∀ i,i < n → 0 ≤ f i) : 0 ≤ sm n f:=by
 have:=nS (f:=fun _ => 0) h
 rwa [oF (f:=fun _ => 0) fun _ _ => rfl] at this
theorem nC {f g : Nat → Int} {k : Nat} : ∀ {n : Nat},k < n → (∀ i,i < n → i ≠ k → g i = f i) → sm n g = sm n f - f k + g k
 | 0,h,_ => by omega
 | n + 1,h,he => by
  unfold sm
  rcases Nat.lt_or_ge k n with hk | hk
  ·have:=nC hk (fun i hi => he i (by omega))
   have h2:=he n (by omega) (by omega)
   omega
  ·have hkn : k = n:=by omega
   subst hkn
   rw [eS (f:=g) (g:=f) fun i hi => he i (by omega) (by omega)]
   omega
theorem sm_lt {f g : Nat → Int} {n k : Nat} (hk : k < n) (h : ∀ i,i < n → f i ≤ g i) (hlt : f k < g k) : sm n f < sm n g:=by
 have h1 : sm n (fun i => if i = k then f k else g i) ≤ sm n g:=nS fun i hi => by
  split
  ·rename_i e; subst e; omega
  ·exact Int.le_refl _
 have h2 : sm n f ≤ sm n (fun i => if i = k then f k else g i):=nS fun i hi => by
  split
  ·rename_i e; subst e; exact Int.le_refl _
  ·exact h i hi
 have h3:=nC (f:=g) (g:=fun i => if i = k then f k else g i) hk (fun i _ hi => by simp only [if_neg hi])
 simp only [if_pos] at h3
 omega
theorem min_ex {P : Nat → Prop} {f : Nat → Int} (hf : ∀ k,0 ≤ f k) : ∀ (m k : Nat),P k → f k ≤ (m : Int) → ∃ k,P k ∧ ∀ k',P k' → f k ≤ f k'
 | 0,k,hk,hm => ⟨k,hk,fun k' _ => by have:=hf k'; omega⟩
 | m + 1,k,hk,hm => by
  by_cases h : ∃ k',P k' ∧ f k' ≤ (m : Int)
  ·obtain ⟨k',h1,h2⟩:=h
   exact min_ex hf m k' h1 h2
  ·refine ⟨k,hk,fun k' hk' => ?_⟩
   have : ¬ f k' ≤ (m : Int):=fun hc => h ⟨k',hk',hc⟩
   omega
structure Mat (S : Nat → Nat → Prop) (h : Nat → Option Nat) : Prop where
 suit : ∀ k o,h k = some o → S o k
 inj : ∀ k k' o,h k = some o → h k' = some o → k = k'
def Dom (h : Nat → Option Nat) (o : Nat) : Prop:=∃ k,h k = some o
def ov (g : Nat → Int) : Option Nat → Int
 | none => 0
 | some o => g o
structure Fit (S : Nat → Nat → Prop) (nB nO : Nat) : Prop where
 bay : ∀ o k,S o k → k < nB
 ord : ∀ o k,S o k → o < nO
theorem sZ {nO : Nat} {h : Nat → Option Nat} {g : Nat → Int} (hi : ∀ k k' o,h k = some o → h k' = some o → k = k') (ho : ∀ k o,h k = some o → o < nO) : ∀ n,sm n (fun k => ov g (h k)) = sm nO (fun o => if ∃ k,k < n ∧ h k = some o then g o else 0)
 | 0 => by
  rw [oF (n:=nO) fun o _ => if_neg (fun ⟨k,hk,_⟩ => by omega)]
  rfl
 | n + 1 => by
  have ih:=sZ (nO:=nO) (g:=g) hi ho n
  show sm n (fun k => ov g (h k)) + ov g (h n) = _
  rw [ih]
  cases hn : h n with
  | none =>
   show _ + (0 : Int) = _
   rw [Int.add_zero]
   refine eS fun o _ => ?_
   have : (∃ k,k < n ∧ h k = some o) ↔ (∃ k,k < n + 1 ∧ h k = some o):=⟨fun ⟨k,hk,e⟩ => ⟨k,by omega,e⟩,fun ⟨k,hk,e⟩ => ⟨k,by
    rcases Nat.lt_or_ge k n with h' | h'
    ·exact ⟨h',e⟩
    ·have : k = n:=by omega
     subst this; rw [hn] at e; cases e⟩⟩
   by_cases hc : ∃ k,k < n ∧ h k = some o
   ·rw [if_pos hc,if_pos (this.1 hc)]
   ·rw [if_neg hc,if_neg (fun hh => hc (this.2 hh))]
  | some x =>
   have hx:=ho n x hn
   have hnx : ¬ ∃ k,k < n ∧ h k = some x:=fun ⟨k,hk,e⟩ => by have:=hi k n x e hn; omega
   have e:=nC (f:=fun o => if ∃ k,k < n ∧ h k = some o then g o else 0) (g:=fun o => if ∃ k,k < n + 1 ∧ h k = some o then g o else 0) hx (fun o _ hne => by
    have : (∃ k,k < n ∧ h k = some o) ↔ (∃ k,k < n + 1 ∧ h k = some o):=⟨fun ⟨k,hk,e⟩ => ⟨k,by omega,e⟩,fun ⟨k,hk,e⟩ => ⟨k,by
     rcases Nat.lt_or_ge k n with h' | h'
     ·exact ⟨h',e⟩
     ·have : k = n:=by omega
      subst this; rw [hn] at e; cases e; exact absurd rfl hne⟩⟩
    by_cases hc : ∃ k,k < n ∧ h k = some o
    ·simp only [if_pos hc,if_pos (this.1 hc)]
    ·simp only [if_neg hc,if_neg (fun hh => hc (this.2 hh))])
   rw [e]
   simp only [if_neg hnx,if_pos (show ∃ k,k < n + 1 ∧ h k = some x from ⟨n,by omega,hn⟩)]
   show _ + g x = _
   omega
theorem bij {S : Nat → Nat → Prop} {nB nO : Nat} (hF : Fit S nB nO) {h : Nat → Option Nat} (hM : Mat S h) (g : Nat → Int) : sm nB (fun k => ov g (h k)) = sm nO (fun o => if Dom h o then g o else 0):=by
 rw [sZ (nO:=nO) (g:=g) hM.inj (fun k o e => hF.ord o k (hM.suit k o e)) nB]
 refine eS fun o _ => ?_
 have : (∃ k,k < nB ∧ h k = some o) ↔ Dom h o:=⟨fun ⟨k,_,e⟩ => ⟨k,e⟩,fun ⟨k,e⟩ => ⟨k,hF.bay o k (hM.suit k o e),e⟩⟩
 by_cases hc : Dom h o
 ·rw [if_pos hc,if_pos (this.2 hc)]
 ·rw [if_neg hc,if_neg (fun hh => hc (this.1 hh))]
noncomputable def off (p : Prop) : Int:=if p then 0 else 1
theorem off_t {p : Prop} (h : p) : off p = 0:=if_pos h
theorem off_f {p : Prop} (h : ¬ p) : off p = 1:=if_neg h
theorem nl (p : Prop) : (p ∧ off p = 0) ∨ (¬ p ∧ off p = 1):=by
 by_cases h : p
 ·exact .inl ⟨h,off_t h⟩
 ·exact .inr ⟨h,off_f h⟩
noncomputable def unt (nB : Nat) (T : Nat → Prop) : Int:=sm nB fun k => off (T k)
theorem iS (nB : Nat) (T : Nat → Prop) : 0 ≤ unt nB T:=pT fun i _ => by rcases nl (T i) with ⟨_,h⟩ | ⟨_,h⟩ <;> omega
theorem off_mono {p q : Prop} (h : p → q) : off q ≤ off p:=by
 rcases nl p with ⟨h1,e1⟩ | ⟨h1,e1⟩ <;> rcases nl q with ⟨h2,e2⟩ | ⟨h2,e2⟩ <;> first | omega | exact absurd (h h1) h2
theorem rZ {nB : Nat} {T T' : Nat → Prop} (h : ∀ k,T k → T' k) : unt nB T' ≤ unt nB T:=nS fun k _ => off_mono (h k)
theorem qs {nB : Nat} {T : Nat → Prop} {k : Nat} (hk : k < nB) (h1 : ¬ T k) : unt nB (fun j => T j ∨ j = k) = unt nB T - 1:=by
 have h0 : sm nB (fun j => off (T j ∨ j = k)) = sm nB (fun j => off (T j)) - off (T k) + off (T k ∨ k = k):=nC (f:=fun j => off (T j)) (g:=fun j => off (T j ∨ j = k)) hk (fun i _ hi => by
  by_cases h : T i
  ·rw [off_t h,off_t (.inl h)]
  ·rw [off_f h,off_f fun hh => hh.elim h hi])
 rw [off_f h1,off_t (Or.inr rfl)] at h0
 show sm nB (fun j => off (T j ∨ j = k)) = sm nB (fun j => off (T j)) - 1
 omega
structure MatX (S : Nat → Nat → Prop) (T : Nat → Prop) (h : Nat → Option Nat) : Prop where
 suit : ∀ k o,¬ T k → h k = some o → S o k
 inj : ∀ k k' o,¬ T k → ¬ T k' → h k = some o → h k' = some o → k = k'
def rD (T : Nat → Prop) (h : Nat → Option Nat) (o : Nat) : Prop:=∃ k,¬ T k ∧ h k = some o
structure AugY (S : Nat → Nat → Prop) (T : Nat → Prop) (o : Nat) (h h' : Nat → Option Nat) : Prop where
 keep : ∀ k,T k → h' k = h k
 mat : MatX S T h'
 dom : ∀ x,rD T h' x ↔ x = o ∨ rD T h x
structure AugN (S : Nat → Nat → Prop) (T T' : Nat → Prop) (o : Nat) (h : Nat → Option Nat) : Prop where
 sub : ∀ k,T k → T' k
 shut : ∀ k,T' k → ¬ T k → ∃ x,h k = some x ∧ ∀ k',S x k' → T' k'
 own : ∀ k',S o k' → T' k'
theorem MatX.more {S : Nat → Nat → Prop} {T T' : Nat → Prop} {h : Nat → Option Nat} (hM : MatX S T h) (hs : ∀ k,T k → T' k) : MatX S T' h :=
 ⟨fun k o hk e => hM.suit k o (fun ht => hk (hs k ht)) e,fun k k' o hk hk' e e' => hM.inj k k' o (fun ht => hk (hs k ht)) (fun ht => hk' (hs k' ht)) e e'⟩
theorem qD {S : Nat → Nat → Prop} {T : Nat → Prop} {o k : Nat} {h : Nat → Option Nat} (hM : MatX S T h) (hk : ¬ T k) (hS : S o k) (hn : h k = none) (ho : ¬ rD T h o) : AugY S T o h (fun j => if j = k then some o else h j) where
 keep:=fun j hj => if_neg (fun (e : j = k) => hk (e ▸ hj))
 mat:=by
  refine ⟨fun j x hj e => ?_,fun j j' x hj hj' e e' => ?_⟩
  ·by_cases hjk : j = k
   ·subst hjk; simp only [if_pos rfl] at e; cases e; exact hS
   ·simp only [if_neg hjk] at e; exact hM.suit j x hj e
  ·by_cases hjk : j = k <;> by_cases hjk' : j' = k
   ·rw [hjk,hjk']
   ·subst hjk
    simp only [if_pos rfl] at e
    simp only [if_neg hjk'] at e'
    cases e
    exact absurd ⟨j',hj',e'⟩ ho
   ·subst hjk'
    simp only [if_pos rfl] at e'
    simp only [if_neg hjk] at e
    cases e'
    exact absurd ⟨j,hj,e⟩ ho
   ·simp only [if_neg hjk] at e
    simp only [if_neg hjk'] at e'
    exact hM.inj j j' x hj hj' e e'
 dom:=fun x => by
  refine ⟨fun ⟨j,hj,e⟩ => ?_,fun hx => ?_⟩
  ·by_cases hjk : j = k
   ·simp only [if_pos hjk] at e; cases e; exact .inl rfl
   ·simp only [if_neg hjk] at e; exact .inr ⟨j,hj,e⟩
  ·rcases hx with rfl | ⟨j,hj,e⟩
   ·exact ⟨k,hk,if_pos rfl⟩
   ·refine ⟨j,hj,?_⟩
    have : j ≠ k:=fun e' => by subst e'; rw [hn] at e; cases e
    simp only [if_neg this]; exact e
theorem pU {S : Nat → Nat → Prop} {T : Nat → Prop} {o k x : Nat} {h h' : Nat → Option Nat} (hM : MatX S T h) (hk : ¬ T k) (hS : S o k) (hx : h k = some x) (ho : ¬ rD T h o) (hA : AugY S (fun j => T j ∨ j = k) x h h') : AugY S T o h (fun j => if j = k then some o else h' j):=by
 have hd : ∀ z,(∃ j,¬ (T j ∨ j = k) ∧ h' j = some z) ↔ rD T h z:=fun z => by
  refine (hA.dom z).trans ⟨fun hz => ?_,fun ⟨j,hj,e⟩ => ?_⟩
  ·rcases hz with rfl | ⟨j,hj,e⟩
   ·exact ⟨k,hk,hx⟩
   ·exact ⟨j,fun ht => hj (.inl ht),e⟩
  ·by_cases hjk : j = k
   ·subst hjk; rw [hx] at e; cases e; exact .inl rfl
   ·exact .inr ⟨j,fun ht => ht.elim hj hjk,e⟩
 have hno : ∀ j,¬ T j → j ≠ k → h' j ≠ some o:=fun j hj hjk e => ho ((hd o).1 ⟨j,fun ht => ht.elim hj hjk,e⟩)
 refine ⟨fun j hj => ?_,⟨fun j z hj e => ?_,fun j j' z hj hj' e e' => ?_⟩,fun z => ⟨fun ⟨j,hj,e⟩ => ?_,fun hz => ?_⟩⟩
 ·have : j ≠ k:=fun e => hk (e ▸ hj)
  simp only [if_neg this]
  exact hA.keep j (.inl hj)
 ·by_cases hjk : j = k
  ·subst hjk; simp only [if_pos rfl] at e; cases e; exact hS
  ·simp only [if_neg hjk] at e; exact hA.mat.suit j z (fun ht => ht.elim hj hjk) e
 ·by_cases hjk : j = k <;> by_cases hjk' : j' = k
  ·rw [hjk,hjk']
  ·simp only [if_pos hjk] at e
   simp only [if_neg hjk'] at e'
   cases e
   exact absurd e' (hno j' hj' hjk')
  ·simp only [if_pos hjk'] at e'
   simp only [if_neg hjk] at e
   cases e'
   exact absurd e (hno j hj hjk)
  ·simp only [if_neg hjk] at e
   simp only [if_neg hjk'] at e'
   exact hA.mat.inj j j' z (fun ht => ht.elim hj hjk) (fun ht => ht.elim hj' hjk') e e'
 ·by_cases hjk : j = k
  ·simp only [if_pos hjk] at e; cases e; exact .inl rfl
  ·simp only [if_neg hjk] at e; exact .inr ((hd z).1 ⟨j,fun ht => ht.elim hj hjk,e⟩)
 ·rcases hz with rfl | hz
  ·exact ⟨k,hk,if_pos rfl⟩
  ·obtain ⟨j,hj,e⟩:=(hd z).2 hz
   have hjk : j ≠ k:=fun e' => hj (.inr e')
   exact ⟨j,fun ht => hj (.inl ht),by simp only [if_neg hjk]; exact e⟩
theorem oV {S : Nat → Nat → Prop} {T T1 : Nat → Prop} {o : Nat} {h h' : Nat → Option Nat} (hM : MatX S T h) (hs : ∀ k,T k → T1 k) (ho : ¬ rD T h o) (hA : AugY S T1 o h h') : AugY S T o h h':=by
 have hk1 : ∀ k z,T1 k → ¬ T k → h' k = some z → ∀ k',¬ T1 k' → h' k' = some z → False:=fun k z ht hn e k' ht' e' => by
  rw [hA.keep k ht] at e
  rcases (hA.dom z).1 ⟨k',ht',e'⟩ with rfl | ⟨j,hj,ej⟩
  ·exact ho ⟨k,hn,e⟩
  ·have:=hM.inj k j z hn (fun t => hj (hs j t)) e ej
   subst this
   exact hj ht
 refine ⟨fun k hk => hA.keep k (hs k hk),⟨fun k z hk e => ?_,fun k k' z hk hk' e e' => ?_⟩,fun z => ⟨fun ⟨k,hk,e⟩ => ?_,fun hz => ?_⟩⟩
 ·by_cases ht : T1 k
  ·rw [hA.keep k ht] at e; exact hM.suit k z hk e
  ·exact hA.mat.suit k z ht e
 ·by_cases ht : T1 k <;> by_cases ht' : T1 k'
  ·rw [hA.keep k ht] at e; rw [hA.keep k' ht'] at e'; exact hM.inj k k' z hk hk' e e'
  ·exact (hk1 k z ht hk e k' ht' e').elim
  ·exact (hk1 k' z ht' hk' e' k ht e).elim
  ·exact hA.mat.inj k k' z ht ht' e e'
 ·by_cases ht : T1 k
  ·rw [hA.keep k ht] at e; exact .inr ⟨k,hk,e⟩
  ·rcases (hA.dom z).1 ⟨k,ht,e⟩ with rfl | ⟨j,hj,ej⟩
   ·exact .inl rfl
   ·exact .inr ⟨j,fun t => hj (hs j t),ej⟩
 ·rcases hz with rfl | ⟨k,hk,e⟩
  ·obtain ⟨k,hk,e⟩:=(hA.dom z).2 (.inl rfl)
   exact ⟨k,fun t => hk (hs k t),e⟩
  ·by_cases ht : T1 k
   ·exact ⟨k,hk,by rw [hA.keep k ht]; exact e⟩
   ·obtain ⟨j,hj,ej⟩:=(hA.dom z).2 (.inr ⟨k,ht,e⟩)
    exact ⟨j,fun t => hj (hs j t),ej⟩
theorem aug {S : Nat → Nat → Prop} {nB : Nat} (hB : ∀ o k,S o k → k < nB) : ∀ (u : Nat) (T : Nat → Prop) (o : Nat) (h : Nat → Option Nat),unt nB T ≤ (u : Int) → MatX S T h → ¬ rD T h o → (∃ h',AugY S T o h h') ∨ ∃ T',AugN S T T' o h:=by
 intro u
 induction u with
 | zero =>
  intro T o h hu hM ho
  refine .inr ⟨T,fun _ h => h,fun k h1 h2 => absurd h1 h2,fun k hS => ?_⟩
  by_cases hk : T k
  ·exact hk
  ·have h1:=qs (hB o k hS) hk
   have h2:=iS nB (fun j => T j ∨ j = k)
   omega
 | succ u ih =>
  intro T o h hu hM ho
  by_cases hex : ∃ k,¬ T k ∧ S o k
  ·obtain ⟨k,hk,hS⟩:=hex
   cases hn : h k with
   | none => exact .inl ⟨_,qD hM hk hS hn ho⟩
   | some x =>
    have h1:=qs (hB o k hS) hk
    have hM1 : MatX S (fun j => T j ∨ j = k) h:=hM.more fun j hj => .inl hj
    have hx1 : ¬ rD (fun j => T j ∨ j = k) h x:=fun ⟨j,hj,e⟩ => hj (.inr (hM.inj j k x (fun t => hj (.inl t)) hk e hn))
    rcases ih (fun j => T j ∨ j = k) x h (by omega) hM1 hx1 with ⟨h',hA⟩ | ⟨T',hA⟩
    ·exact .inl ⟨_,pU hM hk hS hn ho hA⟩
    ·have hu' : unt nB T' ≤ (u : Int):=by have:=rZ (nB:=nB) hA.sub; omega
     have hsub : ∀ j,T j → T' j:=fun j hj => hA.sub j (.inl hj)
     rcases ih T' o h hu' (hM.more hsub) (fun ⟨j,hj,e⟩ => ho ⟨j,fun t => hj (hsub j t),e⟩) with ⟨h',hA'⟩ | ⟨T'',hA'⟩
     ·exact .inl ⟨h',oV hM hsub ho hA'⟩
     ·refine .inr ⟨T'',fun j hj => hA'.sub j (hsub j hj),fun j hj hnj => ?_,hA'.own⟩
      by_cases hj' : T' j
      ·by_cases hjk : j = k
       ·subst hjk
        exact ⟨x,hn,fun k' hk' => hA'.sub k' (hA.own k' hk')⟩
       ·obtain ⟨z,e,hz⟩:=hA.shut j hj' (fun t => t.elim hnj hjk)
        exact ⟨z,e,fun k' hk' => hA'.sub k' (hz k' hk')⟩
      ·exact hA'.shut j hj hj'
  ·exact .inr ⟨T,fun _ h => h,fun k h1 h2 => absurd h1 h2,fun k hS => by
    by_cases hk : T k
    ·exact hk
    ·exact absurd ⟨k,hk,hS⟩ hex⟩
structure Shut (S : Nat → Nat → Prop) (C : Nat → Prop) (h : Nat → Option Nat) : Prop where
 shut : ∀ k,C k → ∃ x,h k = some x ∧ ∀ k',S x k' → C k'
theorem Mat.x {S : Nat → Nat → Prop} {h : Nat → Option Nat} (hM : Mat S h) : MatX S (fun _ => False) h:=⟨fun k o _ e => hM.suit k o e,fun k k' o _ _ e e' => hM.inj k k' o e e'⟩
theorem m7 {h : Nat → Option Nat} {o : Nat} : rD (fun _ => False) h o ↔ Dom h o:=⟨fun ⟨k,_,e⟩ => ⟨k,e⟩,fun ⟨k,e⟩ => ⟨k,id,e⟩⟩
theorem AugY.mat0 {S : Nat → Nat → Prop} {o : Nat} {h h' : Nat → Option Nat} (hA : AugY S (fun _ => False) o h h') : Mat S h':=⟨fun k o e => hA.mat.suit k o id e,fun k k' o e e' => hA.mat.inj k k' o id id e e'⟩
theorem AugY.dom0 {S : Nat → Nat → Prop} {o : Nat} {h h' : Nat → Option Nat} (hA : AugY S (fun _ => False) o h h') (x : Nat) : Dom h' x ↔ x = o ∨ Dom h x:=by rw [← m7,← m7]; exact hA.dom x
theorem AugN.shut0 {S : Nat → Nat → Prop} {T' : Nat → Prop} {o : Nat} {h : Nat → Option Nat} (hA : AugN S (fun _ => False) T' o h) : Shut S T' h:=⟨fun k hk => hA.shut k hk id⟩
theorem aug0 {S : Nat → Nat → Prop} {nB nO : Nat} (hF : Fit S nB nO) {h : Nat → Option Nat} (hM : Mat S h) {o : Nat} (ho : ¬ Dom h o) : (∃ h',Mat S h' ∧ ∀ x,Dom h' x ↔ x = o ∨ Dom h x) ∨ ∃ C,Shut S C h ∧ ∀ k,S o k → C k:=by
 rcases aug hF.bay (unt nB fun _ => False).toNat (fun _ => False) o h (by have:=iS nB fun _ => False; omega) hM.x (fun hd => ho (m7.1 hd)) with ⟨h',hA⟩ | ⟨T',hA⟩
 ·exact .inl ⟨h',hA.mat0,hA.dom0⟩
 ·exact .inr ⟨T',hA.shut0,hA.own⟩
theorem filled {S : Nat → Nat → Prop} {nB nO : Nat} (hF : Fit S nB nO) {h h2 : Nat → Option Nat} (hM : Mat S h) {C : Nat → Prop} (hC : Shut S C h) (hM2 : Mat S h2) (hX : ∀ k x,C k → h k = some x → Dom h2 x) : ∀ k,C k → ∃ x,h2 k = some x ∧ ∃ k1,C k1 ∧ h k1 = some x:=by
 let X : Nat → Prop:=fun x => ∃ k1,C k1 ∧ h k1 = some x
 have e1:=bij hF hM (fun o => if X o then 1 else 0)
 have e2:=bij hF hM2 (fun o => if X o then 1 else 0)
 have e3 : sm nO (fun o => if Dom h o then (if X o then (1 : Int) else 0) else 0) = sm nO (fun o => if Dom h2 o then (if X o then (1 : Int) else 0) else 0):=eS fun o _ => by
  by_cases hx : X o
  ·obtain ⟨k1,hk1,e⟩:=hx
   rw [if_pos ⟨k1,e⟩,if_pos (hX k1 o hk1 e)]
  ·simp only [if_neg hx]
   split <;> split <;> rfl
 have e4 : ∀ k,ov (fun o => if X o then (1 : Int) else 0) (h k) = if C k then 1 else 0:=fun k => by
  by_cases hk : C k
  ·obtain ⟨x,e,_⟩:=hC.shut k hk
   rw [e,if_pos hk]
   exact if_pos ⟨k,hk,e⟩
  ·rw [if_neg hk]
   cases e : h k with
   | none => rfl
   | some x => exact if_neg fun ⟨k1,hk1,e1⟩ => hk (hM.inj k1 k x e1 e ▸ hk1)
 have e5 : ∀ k,ov (fun o => if X o then (1 : Int) else 0) (h2 k) ≤ ov (fun o => if X o then (1 : Int) else 0) (h k):=fun k => by
  rw [e4]
  cases e : h2 k with
  | none => show (0 : Int) ≤ _; split <;> omega
  | some x =>
   show (if X x then (1 : Int) else 0) ≤ _
   by_cases hx : X x
   ·obtain ⟨k1,hk1,e1⟩:=hx
    obtain ⟨x',e',hs⟩:=hC.shut k1 hk1
    rw [e1] at e'; cases e'
    rw [if_pos (hs k (hM2.suit k x e)),if_pos (show X x from ⟨k1,hk1,e1⟩)]
    omega
   ·rw [if_neg hx]; split <;> omega
 intro k hk
 obtain ⟨x0,e0,_⟩:=hC.shut k hk
 have hkB : k < nB:=hF.bay x0 k (hM.suit k x0 e0)
 by_cases hlt : ov (fun o => if X o then (1 : Int) else 0) (h2 k) < ov (fun o => if X o then (1 : Int) else 0) (h k)
 ·have:=sm_lt hkB (fun i _ => e5 i) hlt
  omega
 ·rw [e4,if_pos hk] at hlt
  cases e : h2 k with
  | none => rw [e] at hlt; exact absurd (show (0 : Int) < 1 by omega) hlt
  | some x =>
   rw [e] at hlt
   by_cases hx : X x
   ·exact ⟨x,rfl,hx⟩
   ·exfalso
    apply hlt
    show (if X x then (1 : Int) else 0) < 1
    rw [if_neg hx]; omega
def Matchable (S : Nat → Nat → Prop) (A : Nat → Prop) : Prop:=∃ h,Mat S h ∧ ∀ x,Dom h x ↔ A x
theorem Matchable.sub {S : Nat → Nat → Prop} {A B : Nat → Prop} (hA : Matchable S A) (hB : ∀ x,B x → A x) : Matchable S B:=by
 obtain ⟨h,hM,hd⟩:=hA
 refine ⟨fun k => match h k with | none => none | some x => if B x then some x else none,⟨fun k o e => ?_,fun k k' o e e' => ?_⟩,fun x => ⟨fun ⟨k,e⟩ => ?_,fun hx => ?_⟩⟩
 ·cases hk : h k with
  | none => simp only [hk] at e; cases e
  | some x =>
   simp only [hk] at e
   split at e
   ·cases e; exact hM.suit k _ hk
   ·cases e
 ·cases hk : h k with
  | none => simp only [hk] at e; cases e
  | some x =>
   cases hk' : h k' with
   | none => simp only [hk'] at e'; cases e'
   | some x' =>
    simp only [hk] at e
    simp only [hk'] at e'
    split at e
    ·split at e'
     ·cases e; cases e'; exact hM.inj k k' _ hk hk'
     ·cases e'
    ·cases e
 ·cases hk : h k with
  | none => simp only [hk] at e; cases e
  | some z =>
   simp only [hk] at e
   split at e
   ·cases e; assumption
   ·cases e
 ·obtain ⟨k,e⟩:=(hd x).2 (hB x hx)
  exact ⟨k,by simp only [e]; exact if_pos hx⟩
set_option linter.unusedSimpArgs false
open Classical
def wor (nB : Nat) (w : Nat → Int) (h : Nat → Option Nat) : Int:=sm nB fun k => ov w (h k)
structure Opt (S : Nat → Nat → Prop) (w : Nat → Int) (nB : Nat) (V : Int) : Prop where
 some : ∃ h,Mat S h ∧ wor nB w h = V
 most : ∀ h,Mat S h → wor nB w h ≤ V
structure Cert (S : Nat → Nat → Prop) (w : Nat → Int) (L : Nat → Prop) (i : Nat) : Prop where
 out : ∃ h C,Mat S h ∧ (∀ x,Dom h x → L x) ∧ Shut S C h ∧ (∀ k,S i k → C k) ∧ ∀ k x,C k → h k = some x → w i ≤ w x
theorem Cert.more {S : Nat → Nat → Prop} {w : Nat → Int} {L L' : Nat → Prop} {i : Nat} (hc : Cert S w L i) (hs : ∀ x,L x → L' x) : Cert S w L' i:=by
 obtain ⟨h,C,h1,h2,h3,h4,h5⟩:=hc.out
 exact ⟨h,C,h1,fun x hx => hs x (h2 x hx),h3,h4,h5⟩
structure Greedy (S : Nat → Nat → Prop) (w : Nat → Int) (P L : Nat → Prop) : Prop where
 can : Matchable S L
 sub : ∀ x,L x → P x
 cert : ∀ i,P i → ¬ L i → Cert S w L i
theorem Greedy.nil {S : Nat → Nat → Prop} {w : Nat → Int} : Greedy S w (fun _ => False) (fun _ => False):=⟨⟨fun _ => none,⟨fun _ _ e => (by cases e),fun _ _ _ e => (by cases e)⟩,fun x => ⟨fun ⟨k,e⟩ => (by cases e),False.elim⟩⟩,fun _ h => h,fun _ h => h.elim⟩
theorem Greedy.no {S : Nat → Nat → Prop} {w : Nat → Int} {nB nO : Nat} (hF : Fit S nB nO) {P L : Nat → Prop} {i : Nat} (h : Greedy S w P L) (hw : ∀ x,P x → w i ≤ w x) (hm : ¬ Matchable S fun x => L x ∨ x = i) : Greedy S w (fun x => P x ∨ x = i) L:=by
 have hi : ¬ L i:=fun hl => hm (by
  obtain ⟨m,hM,hd⟩:=h.can
  exact ⟨m,hM,fun x => (hd x).trans ⟨.inl,fun hx => hx.elim id fun e => e ▸ hl⟩⟩)
 refine ⟨h.can,fun x hx => .inl (h.sub x hx),fun j hj hn => ?_⟩
 rcases hj with hj | rfl
 ·exact h.cert j hj hn
 ·obtain ⟨m,hM,hd⟩:=h.can
  rcases aug0 hF hM (o:=j) (fun hj => hn ((hd j).1 hj)) with ⟨m',hM',hd'⟩ | ⟨C,hC,hs⟩
  ·exact absurd ⟨m',hM',fun x => (hd' x).trans ⟨fun hx => hx.elim .inr fun hx => .inl ((hd x).1 hx),fun hx => hx.elim (fun hl => .inr ((hd x).2 hl)) .inl⟩⟩ hm
  ·exact ⟨m,C,hM,fun x hx => (hd x).1 hx,hC,hs,fun k x _ e => hw x (h.sub x ((hd x).1 ⟨k,e⟩))⟩
inductive Way (S : Nat → Nat → Prop) (h : Nat → Option Nat) (k : Nat) : Nat → Prop
 | refl : Way S h k k
 | step {k1 k2 x : Nat} : Way S h k k1 → h k1 = some x → S x k2 → Way S h k k2
theorem Way.head {S : Nat → Nat → Prop} {h : Nat → Option Nat} {k k' k2 x : Nat} (e : h k = some x) (hs : S x k') (hw : Way S h k' k2) : Way S h k k2:=by
 induction hw with
 | refl => exact .step .refl e hs
 | step _ e1 s1 ih => exact .step ih e1 s1
structure Prices (S : Nat → Nat → Prop) (w : Nat → Int) (nB nO : Nat) (h : Nat → Option Nat) (q u : Nat → Int) : Prop where
 q0 : ∀ k,0 ≤ q k
 free : ∀ k,h k = none → q k = 0
 held : ∀ k x,h k = some x → q k ≤ w x
 least : ∀ k x k',h k = some x → S x k' → q k ≤ q k'
 out : ∀ i k,i < nO → ¬ Dom h i → S i k → w i ≤ q k
 uset : ∀ k x,h k = some x → u x = w x - q k
 unot : ∀ i,¬ Dom h i → u i = 0
 total : wor nB w h = sm nB q + sm nO u
 less : ∀ k,∃ h',Mat S h' ∧ h' k = none ∧ wor nB w h' = wor nB w h - q k
theorem Prices.u0 {S : Nat → Nat → Prop} {w : Nat → Int} {nB nO : Nat} {h : Nat → Option Nat} {q u : Nat → Int} (hp : Prices S w nB nO h q u) (i : Nat) : 0 ≤ u i:=by
 by_cases hd : Dom h i
 ·obtain ⟨k,e⟩:=hd
  have h1:=hp.uset k i e
  have h2:=hp.held k i e
  omega
 ·rw [hp.unot i hd]; omega
theorem Prices.feas {S : Nat → Nat → Prop} {w : Nat → Int} {nB nO : Nat} {h : Nat → Option Nat} {q u : Nat → Int} (hF : Fit S nB nO) (hp : Prices S w nB nO h q u) {i k : Nat} (hs : S i k) : w i ≤ q k + u i:=by
 by_cases hd : Dom h i
 ·obtain ⟨k',e⟩:=hd
  have h1:=hp.uset k' i e
  have h2:=hp.least k' i k e hs
  omega
 ·rw [hp.unot i hd]; have:=hp.out i k (hF.ord i k hs) hd hs; omega
theorem weak {S : Nat → Nat → Prop} {w : Nat → Int} {nB nO : Nat} (hF : Fit S nB nO) {q u : Nat → Int} (hq : ∀ k,k < nB → 0 ≤ q k) (hu : ∀ i,i < nO → 0 ≤ u i) (hf : ∀ i k,S i k → w i ≤ q k + u i) {h : Nat → Option Nat} (hM : Mat S h) : wor nB w h ≤ sm nB (fun k => if h k = none then 0 else q k) + sm nO u:=by
 have h1 : wor nB w h ≤ sm nB (fun k => (if h k = none then 0 else q k) + ov u (h k)):=nS fun k _ => by
  cases e : h k with
  | none => simp [ov]
  | some x =>
   have:=hf x k (hM.suit k x e)
   simp only [ov,reduceCtorEq,if_false]
   exact this
 have h2:=sm_add (fun k => if h k = none then 0 else q k) (fun k => ov u (h k)) nB
 have h3:=bij hF hM u
 have h4 : sm nO (fun o => if Dom h o then u o else 0) ≤ sm nO u:=nS fun o ho => by
  have:=hu o ho
  split
  ·exact Int.le_refl _
  ·exact this
 omega
theorem weak_but {S : Nat → Nat → Prop} {w : Nat → Int} {nB nO : Nat} (hF : Fit S nB nO) {q u : Nat → Int} (hq : ∀ k,k < nB → 0 ≤ q k) (hu : ∀ i,i < nO → 0 ≤ u i) (hf : ∀ i k,S i k → w i ≤ q k + u i) {h : Nat → Option Nat} (hM : Mat S h) {k : Nat} (hk : k < nB) (hn : h k = none) : wor nB w h ≤ sm nB q - q k + sm nO u:=by
 have h1:=weak hF hq hu hf hM
 have h3:=nC (f:=q) (g:=fun j => if j = k then 0 else q j) hk (fun i _ hi => by simp only [if_neg hi])
 have h4 : (if k = k then (0 : Int) else q k) = 0:=if_pos rfl
 rw [h4] at h3
 have h2 : sm nB (fun j => if h j = none then 0 else q j) ≤ sm nB (fun j => if j = k then 0 else q j):=nS fun j hj => by
  have:=hq j hj
  by_cases hjk : j = k
  ·subst hjk; simp [hn]
  ·simp only [if_neg hjk]
   split
   ·exact this
   ·exact Int.le_refl _
 omega
def freed (h : Nat → Option Nat) (k : Nat) : Nat → Option Nat:=fun j => if j = k then none else h j
theorem qL (h : Nat → Option Nat) (k : Nat) : freed h k k = none:=if_pos rfl
theorem oE {h : Nat → Option Nat} {k j : Nat} (hj : j ≠ k) : freed h k j = h j:=if_neg hj
theorem cH {h : Nat → Option Nat} {k j x : Nat} (e : freed h k j = some x) : j ≠ k ∧ h j = some x:=by
 by_cases hj : j = k
 ·subst hj; rw [qL] at e; cases e
 ·rw [oE hj] at e; exact ⟨hj,e⟩
theorem Mat.freed {S : Nat → Nat → Prop} {h : Nat → Option Nat} (hM : Mat S h) (k : Nat) : Mat S (freed h k) :=
 ⟨fun j o e => hM.suit j o (cH e).2,fun j j' o e e' => hM.inj j j' o (cH e).2 (cH e').2⟩
theorem tj {nB k : Nat} (hk : k < nB) (w : Nat → Int) (h : Nat → Option Nat) : wor nB w (freed h k) = wor nB w h - ov w (h k):=by
 have:=nC (f:=fun j => ov w (h j)) (g:=fun j => ov w (freed h k j)) hk (fun i _ hi => by simp only [oE hi])
 simp only [qL] at this
 have e : ov w none = 0:=rfl
 rw [e] at this
 unfold wor
 omega
theorem wor_dom {S : Nat → Nat → Prop} {nB nO : Nat} (hF : Fit S nB nO) (w : Nat → Int) {h h' : Nat → Option Nat} (hM : Mat S h) (hM' : Mat S h') (hd : ∀ x,Dom h x ↔ Dom h' x) : wor nB w h = wor nB w h':=by
 unfold wor
 rw [bij hF hM w,bij hF hM' w]
 refine eS fun o _ => ?_
 by_cases hc : Dom h o
 ·rw [if_pos hc,if_pos ((hd o).1 hc)]
 ·rw [if_neg hc,if_neg fun hh => hc ((hd o).2 hh)]
theorem way_less {S : Nat → Nat → Prop} {nB nO : Nat} (hF : Fit S nB nO) (w : Nat → Int) {h : Nat → Option Nat} (hM : Mat S h) {k0 k1 : Nat} (hk1 : k1 < nB) (hw : Way S h k0 k1) : ∃ h',Mat S h' ∧ h' k0 = none ∧ wor nB w h' = wor nB w h - ov w (h k1):=by
 have e2:=tj hk1 w h
 have hM2:=hM.freed k1
 cases hk0 : freed h k1 k0 with
 | none => exact ⟨_,hM2,hk0,e2⟩
 | some o =>
  obtain ⟨hne,ho⟩:=cH hk0
  -- without the first bay
  let S' : Nat → Nat → Prop:=fun x k => S x k ∧ k ≠ k0
  have hF' : Fit S' nB nO:=⟨fun x k hs => hF.bay x k hs.1,fun x k hs => hF.ord x k hs.1⟩
  let h3:=freed (freed h k1) k0
  have hM3 : Mat S' h3:=⟨fun k x e => ⟨hM2.suit k x (cH e).2,(cH e).1⟩,(hM2.freed k0).inj⟩
  have hno : ¬ Dom h3 o:=fun ⟨k,e⟩ => (cH e).1 (hM2.inj k k0 o (cH e).2 hk0)
  rcases aug0 hF' hM3 hno with ⟨h',hM',hd⟩ | ⟨C,hC,hs⟩
  ·have hMS : Mat S h':=⟨fun k x e => (hM'.suit k x e).1,hM'.inj⟩
   refine ⟨h',hMS,?_,?_⟩
   ·cases e : h' k0 with
    | none => rfl
    | some x => exact absurd rfl (hM'.suit k0 x e).2
   ·rw [← e2]
    refine wor_dom hF w hMS hM2 fun x => ?_
    rw [hd x]
    refine ⟨fun hx => ?_,fun ⟨k,e⟩ => ?_⟩
    ·rcases hx with rfl | ⟨k,e⟩
     ·exact ⟨k0,hk0⟩
     ·exact ⟨k,(cH e).2⟩
    ·by_cases hk : k = k0
     ·subst hk; rw [hk0] at e; cases e; exact .inl rfl
     ·exact .inr ⟨k,(oE hk).trans e⟩
  ·exfalso
   have hall : ∀ k,Way S h k0 k → C k ∨ k = k0:=fun k hk => by
    induction hk with
    | refl => exact .inr rfl
    | @step ka kb x _ e s ih =>
     by_cases hkb : kb = k0
     ·exact .inr hkb
     ·rcases ih with hc | rfl
      ·obtain ⟨y,ey,hy⟩:=hC.shut ka hc
       have:=(cH (cH ey).2).2
       rw [e] at this; cases this
       exact .inl (hy kb ⟨s,hkb⟩)
      ·rw [ho] at e; cases e
       exact .inl (hs kb ⟨s,hkb⟩)
   rcases hall k1 hw with hc | e
   ·obtain ⟨y,ey,_⟩:=hC.shut k1 hc
    exact (cH (cH ey).2).1 rfl
   ·exact hne e.symm
theorem prices {S : Nat → Nat → Prop} {w : Nat → Int} {nB nO : Nat} (hF : Fit S nB nO) (hw : ∀ i,0 ≤ w i) {L : Nat → Prop} {h : Nat → Option Nat} (hM : Mat S h) (hd : ∀ x,Dom h x ↔ L x) (hc : ∀ i,i < nO → ¬ L i → Cert S w L i) : ∃ q u,Prices S w nB nO h q u:=by
 have hv : ∀ k,0 ≤ ov w (h k):=fun k => by
  cases h k with
  | none => exact Int.le_refl _
  | some x => exact hw x
 have hex : ∀ k,∃ k',Way S h k k' ∧ ∀ k'',Way S h k k'' → ov w (h k') ≤ ov w (h k''):=fun k => min_ex hv (ov w (h k)).toNat k .refl (by have:=hv k; omega)
 let r : Nat → Nat:=fun k => Classical.choose (hex k)
 have hr : ∀ k,Way S h k (r k) ∧ ∀ k'',Way S h k k'' → ov w (h (r k)) ≤ ov w (h k''):=fun k => Classical.choose_spec (hex k)
 let q : Nat → Int:=fun k => ov w (h (r k))
 let u : Nat → Int:=fun i => if hx : Dom h i then w i - q (Classical.choose hx) else 0
 have huset : ∀ k x,h k = some x → u x = w x - q k:=fun k x e => by
  have hx : Dom h x:=⟨k,e⟩
  have:=hM.inj _ _ x (Classical.choose_spec hx) e
  show (if hx : Dom h x then w x - q (Classical.choose hx) else 0) = _
  rw [dif_pos hx,this]
 have hunot : ∀ i,¬ Dom h i → u i = 0:=fun i hi => dif_neg hi
 have hfree : ∀ k,h k = none → q k = 0:=fun k e => by
  have h1:=(hr k).2 k .refl
  have h2:=hv (r k)
  rw [e] at h1
  have e0 : ov w none = 0:=rfl
  show ov w (h (r k)) = 0
  omega
 refine ⟨q,u,fun k => hv (r k),hfree,fun k x e => ?_,fun k x k' e hs => (hr k).2 _ (.head e hs (hr k').1),fun i k hi hn hs => ?_,huset,hunot,?_,fun k => ?_⟩
 ·have h1:=(hr k).2 k .refl
  rw [e] at h1
  exact h1
 ·obtain ⟨h0,C,hM0,hd0,hC,hsC,hwC⟩:=(hc i hi (fun hl => hn ((hd i).2 hl))).out
  have hf:=filled hF hM0 hC hM (fun k x _ e => (hd x).2 (hd0 x ⟨k,e⟩))
  have hall : ∀ k',Way S h k k' → C k':=fun k' hk' => by
   induction hk' with
   | refl => exact hsC k hs
   | @step ka kb x _ e s ih =>
    obtain ⟨y,ey,k1,hk1,e1⟩:=hf ka ih
    rw [e] at ey; cases ey
    obtain ⟨z,ez,hz⟩:=hC.shut k1 hk1
    rw [e1] at ez; cases ez
    exact hz kb s
  obtain ⟨y,ey,k1,hk1,e1⟩:=hf _ (hall _ (hr k).1)
  show w i ≤ ov w (h (r k))
  rw [ey]
  exact hwC k1 y hk1 e1
 ·have h1:=bij hF hM u
  have h2 : sm nO (fun o => if Dom h o then u o else 0) = sm nO u:=eS fun o _ => by
   by_cases hx : Dom h o
   ·rw [if_pos hx]
   ·rw [if_neg hx,hunot o hx]
  have h3 : sm nB (fun k => ov u (h k)) = sm nB (fun k => ov w (h k) - q k):=eS fun k _ => by
   cases e : h k with
   | none => rw [hfree k e]; rfl
   | some x => exact huset k x e
  have h4:=sm_sub (fun k => ov w (h k)) q nB
  have e5 : sm nB (fun k => ov w (h k)) = wor nB w h:=rfl
  omega
 ·by_cases hk : r k < nB
  ·exact way_less hF w hM hk (hr k).1
  ·have hout : h (r k) = none:=by
    cases e : h (r k) with
    | none => rfl
    | some x => exact absurd (hF.bay x _ (hM.suit _ x e)) hk
   have hq : q k = 0:=by show ov w (h (r k)) = 0; rw [hout]; rfl
   by_cases hk2 : h k = none
   ·exact ⟨h,hM,hk2,by omega⟩
   ·exfalso
    have:=(hr k).1
    have hstep : ∀ k',Way S h k k' → k' < nB:=fun k' hk' => by
     cases hk' with
     | refl =>
      cases e : h k with
      | none => exact absurd e hk2
      | some x => exact hF.bay x k (hM.suit k x e)
     | step _ _ s => exact hF.bay _ _ s
    exact hk (hstep _ this)
theorem Prices.without {S : Nat → Nat → Prop} {w : Nat → Int} {nB nO : Nat} (hF : Fit S nB nO) {h : Nat → Option Nat} (hM : Mat S h) {q u : Nat → Int} (hp : Prices S w nB nO h q u) {k : Nat} (hk : k < nB) : Opt (fun i j => S i j ∧ j ≠ k) w nB (wor nB w h - q k):=by
 refine ⟨?_,fun h2 hM2 => ?_⟩
 ·obtain ⟨h',hM',hn,e⟩:=hp.less k
  refine ⟨h',⟨fun j o ej => ⟨hM'.suit j o ej,fun ejk => ?_⟩,hM'.inj⟩,e⟩
  subst ejk; rw [hn] at ej; cases ej
 ·have hM3 : Mat S h2:=⟨fun j o e => (hM2.suit j o e).1,hM2.inj⟩
  have hn : h2 k = none:=by
   cases e : h2 k with
   | none => rfl
   | some x => exact absurd rfl (hM2.suit k x e).2
  have:=weak_but (w:=w) (q:=q) (u:=u) hF (fun k _ => hp.q0 k) (fun i _ => hp.u0 i) (fun i k hs => hp.feas hF hs) hM3 hk hn
  rw [hp.total]
  omega
theorem Greedy.prices {S : Nat → Nat → Prop} {w : Nat → Int} {nB nO : Nat} (hF : Fit S nB nO) (hw : ∀ i,0 ≤ w i) {P L : Nat → Prop} (hg : Greedy S w P L) (hP : ∀ i,i < nO → P i) {h : Nat → Option Nat} (hM : Mat S h) (hd : ∀ x,Dom h x ↔ L x) : ∃ q u,Prices S w nB nO h q u:=Go.Proofs.YthndghnkebboaabGreat.prices hF hw hM hd fun i hi hn => hg.cert i (hP i hi) hn
set_option linter.unusedSimpArgs false
def oat (y : TY) (o : Nat) : TO:=y.fOrders.getD o default
def bat (y : TY) (k : Nat) : TBay:=y.fB.getD k default
theorem rdL_oat (y : TY) (o : Nat) : rdL y.fOrders (o : Int) = oat y o:=by unfold rdL oat; rw [Int.toNat_natCast]
theorem sG (y : TY) (k : Nat) : rdL y.fB (k : Int) = bat y k:=by unfold rdL bat; rw [Int.toNat_natCast]
def oX (o : TO) (b : TBay) : Bool:=decide (o.fH.fLo ≤ b.fHour ∧ b.fHour ≤ o.fH.fHi) && decide (o.fD ≤ b.fD)
theorem suits_eq (o : TO) (b : TBay) : iR o b = some (oX o b):=by unfold iR; rw [jY]; rfl
def Su (y : TY) (o k : Nat) : Prop:=o < y.fOrders.length ∧ k < y.fB.length ∧ oX (oat y o) (bat y k) = true
def wo (y : TY) (o : Nat) : Int:=(oat y o).fW
theorem Su.fit (y : TY) : Fit (Su y) y.fB.length y.fOrders.length:=⟨fun o k h => h.2.1,fun o k h => h.1⟩
def ol (g : List (Int × Int)) (k : Nat) : Option Nat:=if bl g (k : Int) = true then some (az 0 g (k : Int)).toNat else none
def tri (t : List (Int × Bool)) (k : Nat) : Prop:=az false t (k : Int) = true
def OkG (nB nO : Nat) (g : List (Int × Int)) : Prop:=∀ p ∈ g,∃ k o : Nat,p = ((k : Int),(o : Int)) ∧ k < nB ∧ o < nO
theorem OkG.nil {nB nO : Nat} : OkG nB nO []:=fun p hp => by cases hp
theorem OkG.cons {nB nO k o : Nat} {g : List (Int × Int)} (h : OkG nB nO g) (hk : k < nB) (ho : o < nO) : OkG nB nO (((k : Int),(o : Int)) :: g):=fun p hp => by
 rcases List.mem_cons.1 hp with rfl | hp
 ·exact ⟨k,o,rfl,hk,ho⟩
 ·exact h p hp
theorem mW (g : List (Int × Int)) (k o : Nat) : ol (((k : Int),(o : Int)) :: g) = fun j => if j = k then some o else ol g j:=by
 funext j
 unfold ol
 rw [dI,eK]
 by_cases h : j = k
 ·subst h
  rw [if_pos rfl,if_pos rfl,if_pos rfl,if_pos rfl,Int.toNat_natCast]
 ·rw [if_neg (show ¬ ((k : Int) = (j : Int)) by omega),if_neg (show ¬ ((k : Int) = (j : Int)) by omega),if_neg h]
theorem ll (t : List (Int × Bool)) (k : Nat) : tri (((k : Int),true) :: t) = fun j => tri t j ∨ j = k:=by
 funext j
 unfold tri
 rw [eK]
 refine propext ?_
 by_cases h : j = k
 ·subst h; rw [if_pos rfl]; exact ⟨fun _ => .inr rfl,fun _ => rfl⟩
 ·rw [if_neg (show ¬ ((k : Int) = (j : Int)) by omega)]; exact ⟨.inl,fun hh => hh.elim id fun e => absurd e h⟩
theorem qK {nB nO : Nat} : ∀ {g : List (Int × Int)},OkG nB nO g → ∀ {k x : Nat},ol g k = some x → bl g (k : Int) = true ∧ az 0 g (k : Int) = (x : Int) ∧ k < nB ∧ x < nO
 | [],_,k,x,e => by cases e
 | p :: g,hg,k,x,e => by
  obtain ⟨k',o,rfl,hk',ho⟩:=hg p (List.mem_cons_self ..)
  rw [mW] at e
  rw [dI,eK]
  by_cases h : k = k'
  ·subst h
   rw [if_pos rfl,if_pos rfl]
   simp only [if_true] at e
   cases e
   exact ⟨rfl,rfl,hk',ho⟩
  ·rw [if_neg (show ¬ ((k' : Int) = (k : Int)) by omega),if_neg (show ¬ ((k' : Int) = (k : Int)) by omega)]
   simp only [if_neg h] at e
   exact qK (g:=g) (fun q hq => hg q (List.mem_cons_of_mem _ hq)) e
theorem hold_has {g : List (Int × Int)} {k : Nat} (e : ol g k = none) : bl g (k : Int) = false:=by
 unfold ol at e
 by_cases h : bl g (k : Int) = true
 ·rw [if_pos h] at e; cases e
 ·exact Bool.eq_false_iff.2 h
theorem m1 {k : Nat} (h : k < 1000000) : em (k : Int) = true:=by
 unfold em
 rw [Bool.and_eq_true,decide_eq_true_eq,decide_eq_true_eq]; omega
theorem look (y : TY) (hB : y.fB.length ≤ 1000) (hO : y.fOrders.length ≤ 1000) : ∀ (fuel o : Nat) (t : List (Int × Bool)) (g : List (Int × Int)),o < y.fOrders.length → OkG y.fB.length y.fOrders.length g → unt y.fB.length (tri t) < (fuel : Int) → (t.length : Int) + unt y.fB.length (tri t) ≤ 2000 → (g.length : Int) + unt y.fB.length (tri t) ≤ 100000 → MatX (Su y) (tri t) (ol g) → ¬ rD (tri t) (ol g) o →
  ∃ r t' g',bt fuel (o : Int) y t g = some (r,t',g') ∧ OkG y.fB.length y.fOrders.length g' ∧ (t'.length : Int) + unt y.fB.length (tri t') ≤ (t.length : Int) + unt y.fB.length (tri t) ∧ (g'.length : Int) + unt y.fB.length (tri t') ≤ (g.length : Int) + unt y.fB.length (tri t) ∧ (∀ k,tri t k → tri t' k) ∧ ((r = true ∧ AugY (Su y) (tri t) o (ol g) (ol g')) ∨ (r = false ∧ g' = g ∧ AugN (Su y) (tri t) (tri t') o (ol g))):=by
 intro fuel
 induction fuel with
 | zero =>
  intro o t g _ _ hu
  have:=iS y.fB.length (tri t)
  omega
 | succ fuel ih =>
  intro o t g ho hg hu hlt hlg hM hn
  have hinv:=g7 (body:=bQ (o : Int) y (bt fuel))
   (fun s => ∃ (i : Nat) (t1 : List (Int × Bool)),s = (false,(i : Int),t1,g) ∧ i ≤ y.fB.length ∧ (∀ k,tri t k → tri t1 k) ∧ (t1.length : Int) + unt y.fB.length (tri t1) ≤ (t.length : Int) + unt y.fB.length (tri t) ∧ (∀ k,tri t1 k → ¬ tri t k → ∃ x,ol g k = some x ∧ ∀ k',Su y x k' → tri t1 k') ∧ (∀ k,k < i → Su y o k → tri t1 k))
   (fun _ out => match out with
    | .inl u => u.1 = true ∧ OkG y.fB.length y.fOrders.length u.2.2.2 ∧ (u.2.2.1.length : Int) + unt y.fB.length (tri u.2.2.1) ≤ (t.length : Int) + unt y.fB.length (tri t) ∧ (u.2.2.2.length : Int) + unt y.fB.length (tri u.2.2.1) ≤ (g.length : Int) + unt y.fB.length (tri t) ∧ (∀ k,tri t k → tri u.2.2.1 k) ∧ AugY (Su y) (tri t) o (ol g) (ol u.2.2.2)
    | .inr u => u.2.2.2 = g ∧ (u.2.2.1.length : Int) + unt y.fB.length (tri u.2.2.1) ≤ (t.length : Int) + unt y.fB.length (tri t) ∧ AugN (Su y) (tri t) (tri u.2.2.1) o (ol g))
   (fun s => y.fB.length - s.2.1.toNat) (by
    rintro _ ⟨i,t1,rfl,hi,hsub,hlen,hsh,hown⟩
    have hu1 : unt y.fB.length (tri t1) ≤ unt y.fB.length (tri t):=rZ hsub
    have hu0:=iS y.fB.length (tri t1)
    rcases Nat.lt_or_ge i y.fB.length with hlt' | hge
    ·have c1 : (0 : Int) ≤ (i : Int) ∧ (i : Int) < ((y.fB.length : Nat) : Int):=by omega
     have c2 : (0 : Int) ≤ (o : Int) ∧ (o : Int) < ((y.fOrders.length : Nat) : Int):=by omega
     have hb : bQ (o : Int) y (bt fuel) (false,(i : Int),t1,g) = (if (az false t1 (i : Int) || !oX (oat y o) (bat y i)) = true then some (.inl (false,((i + 1 : Nat) : Int),t1,g)) else ao (em (i : Int) = true ∧ List.length t1 < 1000000000) ((if (!(bl g (i : Int))) = true then (ao (em (i : Int) = true ∧ List.length g < 1000000000) (some (.inr (.inl (true,(i : Int),(((i : Int),true) :: t1),(((i : Int),(o : Int)) :: g)))))) else ((bt fuel (az 0 g (i : Int)) y (((i : Int),true) :: t1) g).bind fun y17 => (if y17.1 = true then ao (em (i : Int) = true ∧ List.length y17.2.2 < 1000000000) (some (.inr (.inl (true,(i : Int),y17.2.1,(((i : Int),(o : Int)) :: y17.2.2))))) else some (.inl (false,((i + 1 : Nat) : Int),y17.2.1,y17.2.2))))))):=by
      unfold bQ; dsimp only
      rw [jw (show (i : Int) < ((y.fB.length : Nat) : Int) by omega),gPo c1,gPo (m1 (by omega))]
      simp only [rdL_oat,sG,kW,rt,TBay_eta,suits_eq,oB,gPo c2,cE (show i < 9223372036854775807 by omega),gPo (m1 (show i < 1000000 by omega))]
      cases az false t1 (i : Int) <;> cases oX (oat y o) (bat y i) <;> rfl
     by_cases hsk : (az false t1 (i : Int) || !oX (oat y o) (bat y i)) = true
     ·refine .inl ⟨_,by rw [hb,if_pos hsk],⟨i + 1,t1,rfl,hlt',hsub,hlen,hsh,fun k hk hs => ?_⟩,by dsimp only; omega,fun t h => h⟩
      rcases Nat.lt_or_ge k i with h | h
      ·exact hown k h hs
      ·have : k = i:=by omega
       subst this
       rcases Bool.or_eq_true_iff.1 hsk with h | h
       ·exact h
       ·rw [hs.2.2] at h; cases h
     ·rw [if_neg hsk] at hb
      have hsk2:=Bool.eq_false_iff.2 hsk
      rw [Bool.or_eq_false_iff] at hsk2
      have hnt : ¬ tri t1 i:=by unfold tri; rw [hsk2.1]; exact Bool.false_ne_true
      have hS : Su y o i:=⟨ho,hlt',by have:=hsk2.2; simpa using this⟩
      have hua:=qs hlt' hnt
      rw [← ll] at hua
      have hM1 : MatX (Su y) (tri t1) (ol g):=hM.more hsub
      have hn1 : ¬ rD (tri t1) (ol g) o:=fun ⟨j,hj,e⟩ => hn ⟨j,fun h => hj (hsub j h),e⟩
      have hsub' : ∀ k,tri t1 k → tri (((i : Int),true) :: t1) k:=fun k hk => by rw [ll]; exact .inl hk
      have hi1 : tri (((i : Int),true) :: t1) i:=by rw [ll]; exact .inr rfl
      rw [gPo ⟨m1 (by omega),by omega⟩] at hb
      cases hh : ol g i with
      | none =>
       rw [hold_has hh,if_pos (by rfl),gPo ⟨m1 (by omega),by omega⟩] at hb
       refine .inr ⟨_,hb,rfl,hg.cons hlt' ho,?_,?_,fun k hk => hsub' k (hsub k hk),?_⟩
       ·dsimp only; rw [List.length_cons]; omega
       ·dsimp only; rw [List.length_cons]; omega
       ·dsimp only
        rw [mW]
        exact oV hM hsub hn (qD hM1 hnt hS hh hn1)
      | some x =>
       obtain ⟨hx1,hx2,_,hx3⟩:=qK hg hh
       rw [hx1,if_neg (by simp),hx2] at hb
       have hMi : MatX (Su y) (tri (((i : Int),true) :: t1)) (ol g):=hM1.more hsub'
       have hni : ¬ rD (tri (((i : Int),true) :: t1)) (ol g) x:=fun ⟨j,hj,e⟩ => by
        have : j = i:=hM1.inj j i x (fun h => hj (hsub' j h)) hnt e hh
        subst this; exact hj hi1
       obtain ⟨r,t',g',hr,hg',hl1,hl2,hs',hcase⟩:=ih x (((i : Int),true) :: t1) g hx3 hg (by omega) (by rw [List.length_cons]; omega) (by omega) hMi hni
       rw [hr,oB] at hb
       dsimp only at hb
       rw [List.length_cons] at hl1
       have hut:=iS y.fB.length (tri t')
       rcases hcase with ⟨rfl,hA⟩ | ⟨rfl,rfl,hA⟩
       ·rw [if_pos rfl,gPo ⟨m1 (by omega),by omega⟩] at hb
        refine .inr ⟨_,hb,rfl,hg'.cons hlt' ho,?_,?_,fun k hk => hs' k (hsub' k (hsub k hk)),?_⟩
        ·dsimp only; omega
        ·dsimp only; rw [List.length_cons]; omega
        ·dsimp only
         rw [mW]
         rw [ll] at hA
         exact oV hM hsub hn (pU hM1 hnt hS hh hn1 hA)
       ·rw [if_neg (by simp)] at hb
        refine .inl ⟨_,hb,⟨i + 1,t',rfl,hlt',fun k hk => hs' k (hsub' k (hsub k hk)),by omega,fun k hk hnk => ?_,fun k hk hs => ?_⟩,by dsimp only; omega,fun t h => h⟩
        ·by_cases hk1 : tri (((i : Int),true) :: t1) k
         ·by_cases hki : k = i
          ·subst hki
           exact ⟨x,hh,fun k' hk' => hA.own k' hk'⟩
          ·rw [ll] at hk1
           have hk2 : tri t1 k:=hk1.elim id fun e => absurd e hki
           obtain ⟨z,e,hz⟩:=hsh k hk2 hnk
           exact ⟨z,e,fun k' hk' => hs' k' (hsub' k' (hz k' hk'))⟩
         ·exact hA.shut k hk hk1
        ·rcases Nat.lt_or_ge k i with h | h
         ·exact hs' k (hsub' k (hown k h hs))
         ·have : k = i:=by omega
          subst this; exact hs' k hi1
    ·have : i = y.fB.length:=by omega
     subst this
     refine .inr ⟨.inr (false,((y.fB.length : Nat) : Int),t1,g),?_,rfl,hlen,hsub,hsh,fun k hs => hown k hs.2.1 hs⟩
     unfold bQ; dsimp only
     rw [iY (by omega)]) (false,0,t,g) ⟨0,t,rfl,Nat.zero_le _,fun _ h => h,Int.le_refl _,fun k h1 h2 => absurd h1 h2,fun k hk => absurd hk (Nat.not_lt_zero _)⟩
  obtain ⟨out,hr,hpost⟩:=hinv
  unfold bt dC
  rw [hr,oB]
  rcases out with u | u
  ·obtain ⟨h1,h2,h3,h4,h5,h6⟩:=hpost
   refine ⟨u.1,u.2.2.1,u.2.2.2,rfl,h2,h3,h4,h5,.inl ⟨h1,h6⟩⟩
  ·obtain ⟨h1,h2,h3⟩:=hpost
   have:=rZ (nB:=y.fB.length) h3.sub
   refine ⟨false,u.2.2.1,u.2.2.2,rfl,by rw [h1]; exact hg,h2,by rw [h1]; omega,h3.sub,.inr ⟨rfl,h1,h3⟩⟩
set_option linter.unusedSimpArgs false
structure Fine (y : TY) : Prop where
 bays : y.fB.length ≤ 24
 ords : y.fOrders.length < 20
 low : ∀ i,0 ≤ wo y i
 high : ∀ i,wo y i ≤ 2000
def isum (f : Int → Int) : List Int → Int
 | [] => 0
 | k :: ks => f k + isum f ks
open Classical in
theorem sr {f : Int → Int} {n : Nat} : ∀ (ks : List Int),ks.Nodup → (∀ k ∈ ks,∃ j : Nat,k = (j : Int) ∧ j < n) → isum f ks = sm n fun j => if (j : Int) ∈ ks then f (j : Int) else 0
 | [],_,_ => by rw [oF fun i _ => by simp]; rfl
 | k :: ks,hn,h => by
  obtain ⟨j,rfl,hj⟩:=h k (List.mem_cons_self ..)
  rw [List.nodup_cons] at hn
  have ih:=sr (f:=f) (n:=n) ks hn.2 fun k hk => h k (List.mem_cons_of_mem _ hk)
  show f (j : Int) + isum f ks = _
  rw [ih]
  have:=nC (f:=fun i : Nat => if (i : Int) ∈ ks then f (i : Int) else 0) (g:=fun i : Nat => if (i : Int) ∈ (j : Int) :: ks then f (i : Int) else 0) hj (fun i _ hi => by
   have e : ((i : Int) ∈ (j : Int) :: ks) ↔ ((i : Int) ∈ ks):=by rw [List.mem_cons]; exact ⟨fun h => h.elim (fun e => absurd (by omega) hi) id,.inr⟩
   by_cases hc : (i : Int) ∈ ks
   ·rw [if_pos hc,if_pos (e.2 hc)]
   ·rw [if_neg hc,if_neg fun hh => hc (e.1 hh)])
  rw [this,if_neg hn.1,if_pos (List.mem_cons_self ..)]
  omega
theorem Opt.bound {S : Nat → Nat → Prop} {w : Nat → Int} {nB : Nat} {V : Int} (h : Opt S w nB V) (hl : ∀ i,0 ≤ w i) (hw : ∀ i,w i ≤ 2000) : 0 ≤ V ∧ V ≤ 2000 * (nB : Int):=by
 obtain ⟨m,_,e⟩:=h.some
 have h1 : ∀ n,sm n (fun k => ov w (m k)) ≤ 2000 * (n : Int):=fun n => by
  induction n with
  | zero => exact Int.le_refl _
  | succ n ih =>
   show sm n (fun k => ov w (m k)) + ov w (m n) ≤ _
   have : ov w (m n) ≤ 2000:=by
    cases m n with
    | none => show (0 : Int) ≤ 2000; omega
    | some x => exact hw x
   omega
 have h2 : 0 ≤ wor nB w m:=pT fun k _ => by
  cases m k with
  | none => exact Int.le_refl _
  | some x => exact hl x
 have:=h1 nB
 unfold wor at h2 e
 omega
set_option linter.unusedSimpArgs false
def bayB (b : TBay) : Bool:=decide (1 ≤ b.fID ∧ b.fID ≤ 1099511627776) && (decide (0 ≤ b.fHour ∧ b.fHour ≤ 16384) && decide (0 ≤ b.fD ∧ b.fD ≤ 9))
def ordB (o : TO) : Bool:=decide (1 ≤ o.fID ∧ o.fID ≤ 1099511627776) && (decide (0 ≤ o.fH.fLo ∧ o.fH.fLo ≤ 16384) && (decide (0 ≤ o.fH.fHi ∧ o.fH.fHi ≤ 16384) && (!decide (o.fH.fHi < o.fH.fLo) && (decide (0 ≤ o.fD ∧ o.fD ≤ 9) && decide (1 ≤ o.fW ∧ o.fW ≤ 1000)))))
def pB {α : Type} [Inhabited α] (l : List α) (ok : α → Bool) (id : α → Int) (k : Nat) : Option Int:=if ok (l.getD k default) = false then some 1 else if p7 l (fun x => id x == id (l.getD k default)) < (k : Int) then some 6 else none
def o7 {α : Type} [Inhabited α] (l : List α) (ok : α → Bool) (id : α → Int) : Option Int:=(List.range l.length).findSome? (pB l ok id)
theorem oc {α : Type} [Inhabited α] {l : List α} {ok : α → Bool} {id : α → Int} : o7 l ok id = none ↔ (∀ x ∈ l,ok x = true) ∧ (l.map id).Nodup:=by
 unfold o7
 rw [List.findSome?_eq_none_iff]
 constructor
 ·intro h
  have h1 : ∀ k,(hk : k < l.length) → ok l[k] = true ∧ ¬ p7 l (fun x => id x == id l[k]) < (k : Int):=fun k hk => by
   have:=h k (List.mem_range.2 hk)
   unfold pB at this
   rw [dQ hk] at this
   split at this
   ·cases this
   ·split at this
    ·cases this
    ·rename_i a b
     exact ⟨by cases hh : ok l[k]; exact absurd hh a; rfl,b⟩
  refine ⟨fun x hx => ?_,jB.1 fun k hk => (h1 k hk).2⟩
  obtain ⟨k,hk,rfl⟩:=List.mem_iff_getElem.1 hx
  exact (h1 k hk).1
 ·rintro ⟨h1,h2⟩ k hk
  have hk':=List.mem_range.1 hk
  unfold pB
  rw [dQ hk',if_neg (by rw [h1 _ (List.getElem_mem hk')]; simp),if_neg (jB.2 h2 k hk')]
theorem rj {α : Type} [Inhabited α] {l : List α} {ok : α → Bool} {id : α → Int} {e : Int} (h : o7 l ok id = some e) : e = 1 ∨ e = 6:=by
 obtain ⟨k,hk,he⟩:=List.exists_of_findSome?_eq_some h
 unfold pB at he
 split at he
 ·cases he; exact .inl rfl
 ·split at he
  ·cases he; exact .inr rfl
  ·cases he
structure Good (y : TY) : Prop where
 bays : y.fB.length ≤ 24
 ords : y.fOrders.length ≤ 24
 bay : ∀ b ∈ y.fB,bayB b = true
 ord : ∀ o ∈ y.fOrders,ordB o = true
 bayN : (y.fB.map (·.fID)).Nodup
 ordN : (y.fOrders.map (·.fID)).Nodup
theorem td {n : Nat} (R : Nat → Option Int) : (List.range n).findSome? (fun k => (R k).map fun e => (Sum.inl (e,(k : Int)) : (Int × Int) ⊕ (Int × Int))) = none ∧ (List.range n).findSome? R = none ∨ ∃ e k,(List.range n).findSome? (fun k => (R k).map fun e => (Sum.inl (e,(k : Int)) : (Int × Int) ⊕ (Int × Int))) = some (.inl (e,k)) ∧ (List.range n).findSome? R = some e:=by
 induction n with
 | zero => exact .inl ⟨rfl,rfl⟩
 | succ n ih =>
  rw [List.range_succ,List.findSome?_append,List.findSome?_append]
  rcases ih with ⟨h1,h2⟩ | ⟨e,k,h1,h2⟩
  ·rw [h1,h2]
   cases hR : R n with
   | none => exact .inl (by simp [hR])
   | some e => exact .inr ⟨e,(n : Int),by simp [hR]⟩
  ·rw [h1,h2]
   exact .inr ⟨e,k,rfl,rfl⟩
theorem pf {body : (Int × Int) → Option ((Int × Int) ⊕ ((Int × Int) ⊕ (Int × Int)))} {n : Nat} (R : Nat → Option Int) {e0 : Int} (h : ∀ k,k < n → body (e0,(k : Int)) = some (match R k with | none => .inl (e0,((k + 1 : Nat) : Int)) | some e => .inr (.inl (e,(k : Int))))) (hs : body (e0,(n : Int)) = some (.inr (.inr (e0,(n : Int))))) :
  ((List.range n).findSome? R = none ∧ aT body (e0,0) = some (.inr (e0,(n : Int)))) ∨ ∃ e k,(List.range n).findSome? R = some e ∧ aT body (e0,0) = some (.inl (e,k)):=by
 have:=kT (body:=body) (fun k => (e0,(k : Int))) n (fun k => (R k).map fun e => (Sum.inl (e,(k : Int)) : (Int × Int) ⊕ (Int × Int))) (t0:=.inr (e0,(n : Int))) (fun k hk => by
  rw [h k hk]
  cases R k <;> rfl) hs
 have h0 : aT body (e0,0) = _:=this
 rw [h0]
 rcases td (n:=n) R with ⟨h1,h2⟩ | ⟨e,k,h1,h2⟩
 ·exact .inl ⟨h2,by rw [h1]; rfl⟩
 ·exact .inr ⟨e,k,h2,by rw [h1]; rfl⟩
theorem rB {α : Type} [Inhabited α] {l : List α} {f : α → Int} {k : Nat} (hk : k < l.length) : p7 l (fun x => f x == f l[k]) < (k : Int) ↔ (List.range k).findSome? (fun j => if (f (l.getD j default) == f l[k]) = true then some (6 : Int) else none) ≠ none:=by
 rw [r5 hk]
 constructor
 ·rintro ⟨j,hj,e⟩ h
  have:=List.findSome?_eq_none_iff.1 h j (List.mem_range.2 hj)
  rw [dQ (by omega),e] at this
  simp at this
 ·intro h
  by_cases hc : ∃ j,∃ h : j < k,f (l[j]'(by omega)) = f l[k]
  ·exact hc
  ·exfalso
   apply h
   rw [List.findSome?_eq_none_iff]
   intro j hj
   have hj':=List.mem_range.1 hj
   rw [dQ (by omega),if_neg (by simp; exact fun e => hc ⟨j,hj',e⟩)]
theorem six {n : Nat} {q : Nat → Bool} {e : Int} (h : (List.range n).findSome? (fun j => if q j = true then some (6 : Int) else none) = some e) : e = 6:=by
 obtain ⟨k,hk,he⟩:=List.exists_of_findSome?_eq_some h
 split at he
 ·cases he; rfl
 ·cases he
theorem Good.worth {y : TY} (h : Good y) {i : Nat} (hi : i < y.fOrders.length) : 1 ≤ wo y i ∧ wo y i ≤ 1000:=by
 have:=h.ord y.fOrders[i] (List.getElem_mem hi)
 unfold ordB at this
 simp only [Bool.and_eq_true,decide_eq_true_eq] at this
 unfold wo oat
 rw [dQ hi]
 exact this.2.2.2.2.2
set_option linter.unusedSimpArgs false
theorem orB {b c : Bool} : (if b = true then (some true) else (some c)) = some (b || c):=by cases b <;> rfl
theorem andB {b c : Bool} : (if b = true then (some c) else (some false)) = some (b && c):=by cases b <;> rfl
def rm (n : Int) : Bool:=decide (0 ≤ n ∧ n ≤ 16384)
def ck (last : Int) : List TSpan → Bool
 | [] => true
 | s :: l => !((decide (s.fLo < last + 2) || decide (s.fHi < s.fLo)) || decide (16384 < s.fHi)) && ck s.fHi l
theorem nE (last : Int) (s : TSpan) (l : List TSpan) : ck last (s :: l) = (!((decide (s.fLo < last + 2) || decide (s.fHi < s.fLo)) || decide (16384 < s.fHi)) && ck s.fHi l):=rfl
theorem cM {last : Int} {s : TSpan} {l : List TSpan} : ck last (s :: l) = true ↔ last + 2 ≤ s.fLo ∧ s.fLo ≤ s.fHi ∧ s.fHi ≤ 16384 ∧ ck s.fHi l = true:=by
 rw [nE,Bool.and_eq_true,Bool.not_eq_true',Bool.or_eq_false_iff,Bool.or_eq_false_iff,decide_eq_false_iff_not,decide_eq_false_iff_not,decide_eq_false_iff_not]
 constructor
 ·rintro ⟨⟨⟨h1,h2⟩,h3⟩,h4⟩
  exact ⟨by omega,by omega,by omega,h4⟩
 ·rintro ⟨h1,h2,h3,h4⟩
  exact ⟨⟨⟨by omega,by omega⟩,by omega⟩,h4⟩
theorem pP {l : List TSpan} (hl : l.length ≤ 1000000) : fU l = some (ck (-2) l && decide (l.length ≤ 4)):=by
 have hinv:=g7 (body:=eH l)
  (fun s => ∃ (k : Nat) (last : Int),s = (false,last,(k : Int)) ∧ k ≤ l.length ∧ -2 ≤ last ∧ last ≤ 16384 ∧ ck (-2) l = ck last (l.drop k))
  (fun _ out => match out with
   | .inl u => u.1 = false ∧ ck (-2) l = false
   | .inr _ => ck (-2) l = true)
  (fun s => l.length - s.2.2.toNat) (by
   rintro _ ⟨k,last,rfl,hk,h1,h2,hs⟩
   rcases Nat.lt_or_ge k l.length with hlt | hge
   ·rw [List.drop_eq_getElem_cons hlt,nE] at hs
    unfold eH; dsimp only
    rw [jw (by omega),gPo (by omega),cL hlt,eC (by omega) (by omega),cE (by omega)]
    by_cases hc : ((decide (l[k].fLo < last + 2) || decide (l[k].fHi < l[k].fLo)) || decide (16384 < l[k].fHi)) = true
    ·rw [if_pos hc]
     exact .inr ⟨_,rfl,rfl,by rw [hs,hc]; rfl⟩
    ·rw [if_neg hc]
     have hc2:=Bool.eq_false_iff.2 hc
     rw [Bool.or_eq_false_iff,Bool.or_eq_false_iff,decide_eq_false_iff_not,decide_eq_false_iff_not,decide_eq_false_iff_not] at hc2
     refine .inl ⟨_,rfl,⟨k + 1,_,rfl,hlt,by omega,by omega,?_⟩,by dsimp only; omega,fun t h => ?_⟩
     ·rw [hs,Bool.eq_false_iff.2 hc,Bool.not_false,Bool.true_and]
     ·exact h
   ·have hke : k = l.length:=by omega
    subst hke
    rw [List.drop_length] at hs
    refine .inr ⟨.inr (false,last,(l.length : Int)),?_,hs⟩
    unfold eH; dsimp only
    rw [iY (by omega)]) (false,-2,0) ⟨0,-2,rfl,Nat.zero_le _,by omega,by omega,rfl⟩
 obtain ⟨out,hr,hp⟩:=hinv
 unfold fU
 rw [hr,oB]
 rcases out with u | u
 ·rw [hp.2]; exact congrArg some hp.1
 ·rw [hp,Bool.true_and]
  exact congrArg some (decide_eq_decide.2 (by omega))
def nk (h : Int) (s : TSpan) : Int:=if s.fLo ≤ h ∧ h ≤ s.fHi then s.fHi + 1 else h
def kK (l : List TSpan) (h : Int) : Int:=l.foldl nk h
theorem stepS_le (h : Int) (s : TSpan) : h ≤ nk h s:=by unfold nk; split <;> omega
theorem r6 : ∀ (l : List TSpan) (h : Int),h ≤ kK l h
 | [],h => Int.le_refl _
 | s :: l,h => Int.le_trans (stepS_le h s) (r6 l (nk h s))
theorem oA : ∀ {l : List TSpan} {last : Int},ck last l = true → -2 ≤ last → ∀ s ∈ l,-2 ≤ s.fHi ∧ s.fHi ≤ 16384
 | [],_,_,_,s,hm => by cases hm
 | s :: l,last,hs,h0,x,hm => by
  obtain ⟨h1,h2,h3,h4⟩:=cM.1 hs
  rcases List.mem_cons.1 hm with rfl | hm
  ·omega
  ·exact oA h4 (by omega) x hm
theorem enter_eq {t : TT} (hs : ck (-2) t.fK = true) (hl : t.fK.length ≤ 1000000) (h : Int) : gN t h = some (kK t.fK h,rm (kK t.fK h)):=by
 have hh:=oA hs (by omega)
 have hrun:=jc (body:=eA t) (fun k => (kK (t.fK.take k) h,(k : Int))) t.fK.length (t:=(kK t.fK h,(t.fK.length : Int))) (fun k hk => by
  have h1:=hh _ (List.getElem_mem hk)
  unfold eA; dsimp only
  have e : kK (t.fK.take (k + 1)) h = nk (kK (t.fK.take k) h) t.fK[k]:=by
   rw [List.take_succ_eq_append_getElem hk]
   unfold kK
   rw [List.foldl_append]
   rfl
  rw [jw (by omega),gPo (by omega),cL hk,jY,oB,cE (by omega),eC (by omega) (by omega),e]
  unfold nk
  by_cases hc : (t.fK[k]).fLo ≤ kK (t.fK.take k) h ∧ kK (t.fK.take k) h ≤ (t.fK[k]).fHi
  ·rw [if_pos (decide_eq_true hc),if_pos hc]
  ·rw [if_neg (by rw [decide_eq_true_eq]; exact hc),if_neg hc]) (by
  unfold eA; dsimp only
  rw [iY (by omega),List.take_length])
 have h0 : aT (eA t) (h,0) = _:=hrun
 unfold gN
 rw [h0,oB,o2]
 rfl
def jU (l : List TSpan) : Bool:=ck (-2) l && decide (l.length ≤ 4)
def trB (n : Int) (t : TT) : Bool:=!((((((!decide (1 ≤ t.fID ∧ t.fID ≤ 1099511627776) || !decide (0 ≤ t.fFrom ∧ t.fFrom ≤ n - 1)) || !decide (0 ≤ t.fTo ∧ t.fTo ≤ n - 1)) || t.fFrom == t.fTo) || !decide (1 ≤ t.fLong ∧ t.fLong ≤ 72)) || !decide (0 ≤ t.fToll ∧ t.fToll ≤ 40)) || !jU t.fK)
structure GoodT (n : Int) (t : TT) : Prop where
 id : 1 ≤ t.fID ∧ t.fID ≤ 1099511627776
 fr : 0 ≤ t.fFrom ∧ t.fFrom ≤ n - 1
 to : 0 ≤ t.fTo ∧ t.fTo ≤ n - 1
 ne : t.fFrom ≠ t.fTo
 long : 1 ≤ t.fLong ∧ t.fLong ≤ 72
 toll : 0 ≤ t.fToll ∧ t.fToll ≤ 40
 spans : ck (-2) t.fK = true
 few : t.fK.length ≤ 4
theorem sS {n : Int} {t : TT} : trB n t = true ↔ GoodT n t:=by
 unfold trB jU
 simp only [Bool.not_eq_true',Bool.or_eq_false_iff,Bool.not_eq_false',decide_eq_true_eq,beq_eq_false_iff_ne,Bool.and_eq_true]
 constructor
 ·rintro ⟨⟨⟨⟨⟨⟨h1,h2⟩,h3⟩,h4⟩,h5⟩,h6⟩,h7,h8⟩
  exact ⟨h1,h2,h3,h4,h5,h6,h7,h8⟩
 ·intro h
  exact ⟨⟨⟨⟨⟨⟨h.id,h.fr⟩,h.to⟩,h.ne⟩,h.long⟩,h.toll⟩,h.spans,h.few⟩
def nj (r : TR) : Int:=if ¬ (1 ≤ r.fL ∧ r.fL ≤ 16) then 1 else if r.fT.length > 48 then 2 else (o7 r.fT (trB r.fL) (·.fID)).getD 0
structure GoodR (r : TR) : Prop where
 places : 1 ≤ r.fL ∧ r.fL ≤ 16
 len : r.fT.length ≤ 48
 trk : ∀ t ∈ r.fT,GoodT r.fL t
 once : (r.fT.map (·.fID)).Nodup
theorem p8 {r : TR} : nj r = 0 ↔ GoodR r:=by
 unfold nj
 constructor
 ·intro h
  by_cases h1 : 1 ≤ r.fL ∧ r.fL ≤ 16
  ·rw [if_neg (by simp [h1])] at h
   by_cases h2 : r.fT.length > 48
   ·rw [if_pos h2] at h; cases h
   ·rw [if_neg h2] at h
    cases he : o7 r.fT (trB r.fL) (·.fID) with
    | some e => rw [he] at h; have:=rj he; dsimp only [Option.getD] at h; omega
    | none =>
     obtain ⟨h3,h4⟩:=oc.1 he
     exact ⟨h1,by omega,fun t ht => sS.1 (h3 t ht),h4⟩
  ·rw [if_pos h1] at h; cases h
 ·intro h
  rw [if_neg (by simp [h.places]),if_neg (by have:=h.len; omega),oc.2 ⟨fun t ht => sS.2 (h.trk t ht),h.once⟩]
  rfl
def jI (r : TR) (id : Int) : Int:=p7 r.fT fun n => n.fID == id
theorem oI {r : TR} (hl : r.fT.length < 1000000000) (id : Int) : gM r id = some (jI r id):=by
 unfold gM cd
 rw [pc (f:=fun x3 => gn x3 id) (q:=fun x => x.fID == id) hl (fun x _ => rfl)]
 rfl
theorem mH {r : TR} (hr : ∀ t ∈ r.fT,t.fK.length ≤ 1000000) : fV r = some (nj r):=by
 unfold fV nj
 rw [jY,oB]
 by_cases h1 : 1 ≤ r.fL ∧ r.fL ≤ 16
 ·rw [if_neg (show ¬((!decide (1 ≤ r.fL ∧ r.fL ≤ 16)) = true) by simp [h1]),if_neg (show ¬¬(1 ≤ r.fL ∧ r.fL ≤ 16) by simp [h1])]
  by_cases h2 : r.fT.length > 48
  ·rw [if_pos (by rw [decide_eq_true_eq]; omega),if_pos h2]
  ·rw [if_neg (by rw [decide_eq_true_eq]; omega),if_neg h2]
   have hb:=pf (body:=fx r) (n:=r.fT.length) (pB r.fT (trB r.fL) (·.fID)) (e0:=0) (fun k hk => by
    have hc:=pP (hr _ (List.getElem_mem hk))
    unfold fx gp; dsimp only
    rw [jw (by omega),gPo (by omega),eC (by omega) (by omega),cL hk,hc]
    simp only [jY,oB,orB,oI (show r.fT.length < 1000000000 by omega),cE (show k < 9223372036854775807 by omega)]
    unfold pB
    rw [dQ hk,show (((((((!decide (1 ≤ (r.fT[k]).fID ∧ (r.fT[k]).fID ≤ 1099511627776)) || !decide (0 ≤ (r.fT[k]).fFrom ∧ (r.fT[k]).fFrom ≤ r.fL - 1)) || !decide (0 ≤ (r.fT[k]).fTo ∧ (r.fT[k]).fTo ≤ r.fL - 1)) || (r.fT[k]).fFrom == (r.fT[k]).fTo) || !decide (1 ≤ (r.fT[k]).fLong ∧ (r.fT[k]).fLong ≤ 72)) || !decide (0 ≤ (r.fT[k]).fToll ∧ (r.fT[k]).fToll ≤ 40)) || !(ck (-2) (r.fT[k]).fK && decide ((r.fT[k]).fK.length ≤ 4))) = !trB r.fL r.fT[k] from by unfold trB jU; rw [Bool.not_not]]
    cases hT : trB r.fL r.fT[k] with
    | false => rfl
    | true =>
     rw [if_neg (show ¬((!true) = true) by simp),if_neg (show ¬(true = false) by simp)]
     unfold jI
     dsimp only
     by_cases hi : p7 r.fT (fun n => n.fID == (r.fT[k]).fID) < (k : Int)
     ·rw [if_pos (decide_eq_true hi),if_pos hi]
     ·rw [if_neg (by simpa using hi),if_neg hi]) (by
    unfold fx; dsimp only
    rw [iY (by omega)])
   rcases hb with ⟨h3,h4⟩ | ⟨e,k,h3,h4⟩
   ·rw [h4,show o7 r.fT (trB r.fL) (·.fID) = none from h3]; rfl
   ·rw [h4,show o7 r.fT (trB r.fL) (·.fID) = some e from h3]; rfl
 ·rw [if_pos (by simp; omega),if_pos h1]
structure AskedOk (r : TR) (f t h p : Int) : Prop where
 good : GoodR r
 fr : 0 ≤ f ∧ f < r.fL
 to : 0 ≤ t ∧ t < r.fL
 hour : 0 ≤ h ∧ h ≤ 16384
 purse : 0 ≤ p ∧ p ≤ 60
set_option linter.unusedSimpArgs false
end Go.Proofs.YthndghnkebboaabGreat
set_option linter.unusedSimpArgs false
namespace Go.Proofs.YthndghnkebboaabGreat
def lb0 : Tl:=Tl.mk 0 (Ts.mk 0 0) (TLeg.mk 0 0) false
def lab (m : List (Ts × Tl)) (s : Ts) : Option Tl:=if bl m s = true then some (az lb0 m s) else none
theorem i3 (k : Ts) (v : Tl) (m : List (Ts × Tl)) (s : Ts) : lab ((k,v) :: m) s = if k = s then some v else lab m s:=by
 unfold lab
 rw [dI,eK]
 by_cases h : k = s
 ·rw [if_pos h,if_pos h,if_pos h,if_pos rfl]
 ·rw [if_neg h,if_neg h,if_neg h]
def arr (t : TT) (h : Int) : Int:=if kK t.fK h + t.fLong ≤ 16384 then kK t.fK h + t.fLong else -1
structure LOk (r : TR) (f h : Int) (m : List (Ts × Tl)) (s : Ts) (l : Tl) : Prop where
 at0 : h ≤ l.f_at
 at1 : l.f_at ≤ 16384
 place : 0 ≤ s.f_place ∧ s.f_place < r.fL
 toll : 0 ≤ s.f_toll ∧ s.f_toll ≤ 60
 src : (l.f_begin = true ∧ s = ⟨f,0⟩ ∧ l.f_at = h) ∨ (l.f_begin = false ∧ ∃ lp t,lab m l.f_from = some lp ∧ t ∈ r.fT ∧ t.fFrom = l.f_from.f_place ∧ s = ⟨t.fTo,l.f_from.f_toll + t.fToll⟩ ∧ l.f_leg.fTrack = t.fID ∧ lp.f_at ≤ l.f_leg.fHour ∧ kK t.fK l.f_leg.fHour = l.f_leg.fHour ∧ l.f_at = l.f_leg.fHour + t.fLong)
def Relax (m : List (Ts × Tl)) (s : Ts) (l : Tl) (t : TT) : Prop:=s.f_toll + t.fToll ≤ 60 → 0 ≤ arr t l.f_at → ∃ l',lab m ⟨t.fTo,s.f_toll + t.fToll⟩ = some l' ∧ l'.f_at ≤ arr t l.f_at
def tg (m : List (Ts × Tl)) (p c : Nat) : Int:=match lab m ⟨(p : Int),(c : Int)⟩ with
 | some l => l.f_at
 | none => 16385
def pot (m : List (Ts × Tl)) : Int:=sm 16 fun p => sm 61 fun c => tg m p c
structure LInv (r : TR) (f h : Int) (D : Ts → List TT) (q : List Twait) (m : List (Ts × Tl)) : Prop where
 beg : lab m ⟨f,0⟩ = some ⟨h,⟨0,0⟩,⟨0,0⟩,true⟩
 lok : ∀ s l,lab m s = some l → LOk r f h m s l
 que : ∀ w ∈ q,∃ l,lab m w.f_stop = some l ∧ l.f_at ≤ w.f_at
 rel : ∀ s l,lab m s = some l → (Twait.mk l.f_at s) ∈ q ∨ ∀ t ∈ D s,Relax m s l t
 szm : (m.length : Int) + pot m ≤ 16000000
 szq : (q.length : Int) + pot m ≤ 16000000
theorem pot_put {m : List (Ts × Tl)} {k : Ts} {v : Tl} (hp : 0 ≤ k.f_place ∧ k.f_place < 16) (ht : 0 ≤ k.f_toll ∧ k.f_toll ≤ 60) (hv : v.f_at ≤ 16384) (h0 : 0 ≤ v.f_at) (hlt : ∀ l,lab m k = some l → v.f_at < l.f_at) : pot ((k,v) :: m) + 1 ≤ pot m:=by
 obtain ⟨p,ep⟩ : ∃ p : Nat,k.f_place = (p : Int):=⟨k.f_place.toNat,by omega⟩
 obtain ⟨c,ec⟩ : ∃ c : Nat,k.f_toll = (c : Int):=⟨k.f_toll.toNat,by omega⟩
 have ek : k = ⟨(p : Int),(c : Int)⟩:=by cases k; simp only at ep ec; rw [ep,ec]
 have hle : ∀ i j,tg ((k,v) :: m) i j ≤ tg m i j:=fun i j => by
  unfold tg
  rw [i3]
  by_cases e : k = ⟨(i : Int),(j : Int)⟩
  ·rw [if_pos e]
   cases el : lab m ⟨(i : Int),(j : Int)⟩ with
   | none => dsimp only; omega
   | some l => have:=hlt l (by rw [e]; exact el); dsimp only; omega
  ·rw [if_neg e]; exact Int.le_refl _
 have hlt2 : tg ((k,v) :: m) p c < tg m p c:=by
  unfold tg
  rw [i3,if_pos ek]
  cases el : lab m ⟨(p : Int),(c : Int)⟩ with
  | none => dsimp only; omega
  | some l => have:=hlt l (by rw [ek]; exact el); dsimp only; omega
 have h1:=sm_lt (n:=61) (k:=c) (by omega) (f:=fun j => tg ((k,v) :: m) p j) (g:=fun j => tg m p j) (fun j _ => hle p j) hlt2
 have h2:=sm_lt (n:=16) (k:=p) (by omega) (f:=fun i => sm 61 fun j => tg ((k,v) :: m) i j) (g:=fun i => sm 61 fun j => tg m i j) (fun i _ => nS fun j _ => hle i j) h1
 unfold pot
 omega
theorem LInv.put {r : TR} (hR : GoodR r) {f h : Int} (hh : 0 ≤ h) {D : Ts → List TT} {q q' : List Twait} {m : List (Ts × Tl)} (hI : LInv r f h D q m) {k : Ts} {v : Tl} (hv : LOk r f h m k v) (hb : v.f_begin = false) (hne : v.f_from ≠ k) (hlt : ∀ l,lab m k = some l → v.f_at < l.f_at) (hq : q'.Perm (⟨v.f_at,k⟩ :: q)) : LInv r f h D q' ((k,v) :: m):=by
 have hk : k ≠ ⟨f,0⟩:=fun e => by
  have h1:=hlt _ (by rw [e]; exact hI.beg)
  have h2:=hv.at0
  dsimp only at h1
  omega
 have hp:=pot_put (m:=m) (k:=k) (v:=v) (by have:=hv.place; have:=hR.places; omega) hv.toll hv.at1 (by have:=hv.at0; omega) hlt
 have low : ∀ s l,lab m s = some l → ∃ l',lab ((k,v) :: m) s = some l' ∧ l'.f_at ≤ l.f_at:=fun s l e => by
  rw [i3]
  by_cases e2 : k = s
  ·rw [if_pos e2]
   have:=hlt l (by rw [e2]; exact e)
   exact ⟨v,rfl,by omega⟩
  ·rw [if_neg e2]; exact ⟨l,e,Int.le_refl _⟩
 refine ⟨by rw [i3,if_neg hk]; exact hI.beg,fun s l e => ?_,fun w hw => ?_,fun s l e => ?_,?_,?_⟩
 ·rw [i3] at e
  have key : ∀ s l,LOk r f h m s l → (l.f_begin = false → l.f_from ≠ k ∨ True) → LOk r f h ((k,v) :: m) s l:=fun s l ho _ => by
   refine ⟨ho.at0,ho.at1,ho.place,ho.toll,?_⟩
   rcases ho.src with hs | ⟨hs,lp,t,h1,h2,h3,h4,h5,h6,h7,h8⟩
   ·exact .inl hs
   ·obtain ⟨l',e1,e2⟩:=low _ _ h1
    exact .inr ⟨hs,l',t,e1,h2,h3,h4,h5,by omega,h7,h8⟩
  by_cases e2 : k = s
  ·rw [if_pos e2] at e
   cases e
   rw [← e2]
   exact key k v hv fun _ => .inr trivial
  ·rw [if_neg e2] at e
   exact key s l (hI.lok s l e) fun _ => .inr trivial
 ·rcases List.mem_cons.1 (hq.mem_iff.1 hw) with rfl | hw
  ·exact ⟨v,by rw [i3,if_pos rfl],Int.le_refl _⟩
  ·obtain ⟨l,e1,e2⟩:=hI.que w hw
   obtain ⟨l',e3,e4⟩:=low _ _ e1
   exact ⟨l',e3,by omega⟩
 ·rw [i3] at e
  by_cases e2 : k = s
  ·rw [if_pos e2] at e
   cases e
   subst e2
   exact .inl (hq.mem_iff.2 List.mem_cons_self)
  ·rw [if_neg e2] at e
   rcases hI.rel s l e with hw | hr
   ·exact .inl (hq.mem_iff.2 (List.mem_cons_of_mem _ hw))
   ·refine .inr fun t ht h1 h2 => ?_
    obtain ⟨l',e3,e4⟩:=hr t ht h1 h2
    obtain ⟨l2,e5,e6⟩:=low _ _ e3
    exact ⟨l2,e5,by omega⟩
 ·have:=hI.szm
  rw [List.length_cons]; omega
 ·have:=hI.szq
  rw [hq.length_eq,List.length_cons]; omega
set_option linter.unusedSimpArgs false
structure PlanOf (y : TY) (h : Nat → Option Nat) (q : Nat → Int) (p : TPlan) : Prop where
 worth : p.fW = wor y.fB.length (wo y) h
 len : p.fG.length = y.fOrders.length
 got : ∀ o k,h k = some o → p.fG.getD o 0 = (bat y k).fID
 not : ∀ o,¬ Dom h o → p.fG.getD o 0 = 0
 plen : p.fP.length = y.fB.length
 price : ∀ k,k < y.fB.length → p.fP.getD k 0 = q k
set_option linter.unusedSimpArgs false
def OkH (nB nO : Nat) (held : List Int) : Prop:=held.length = nB ∧ ∀ k,k < nB → rdL held (k : Int) < 0 ∨ ∃ o : Nat,rdL held (k : Int) = (o : Int) ∧ o < nO
theorem rdL_set {α : Type} [Inhabited α] (l : List α) {k : Nat} (hk : k < l.length) (v : α) (j : Nat) : rdL (l.set k v) (j : Int) = if j = k then v else rdL l (j : Int):=by
 unfold rdL
 rw [Int.toNat_natCast,List.getD_eq_getElem?_getD,List.getD_eq_getElem?_getD]
 by_cases h : j = k
 ·subst h; rw [if_pos rfl,List.getElem?_set_self hk]; rfl
 ·rw [if_neg h,List.getElem?_set_ne (fun e => h e.symm)]
theorem OkH.set {nB nO : Nat} {held : List Int} (h : OkH nB nO held) {k o : Nat} (hk : k < nB) (ho : o < nO) : OkH nB nO (held.set k (o : Int)):=by
 refine ⟨by rw [List.length_set]; exact h.1,fun j hj => ?_⟩
 rw [rdL_set held (by rw [h.1]; exact hk)]
 by_cases e : j = k
 ·rw [if_pos e]; exact .inr ⟨o,rfl,ho⟩
 ·rw [if_neg e]; exact h.2 j hj
structure Nums (n : Nat) (l : List Int) : Prop where
 nat : ∀ x ∈ l,∃ k : Nat,x = (k : Int) ∧ k < n
 once : l.Nodup
set_option linter.unusedSimpArgs false
inductive Tr (r : TR) (f h : Int) : Int → Int → Int → Prop
 | start : Tr r f h f 0 h
 | step {p c a : Int} (t : TT) (n : Int) : Tr r f h p c a → t ∈ r.fT → t.fFrom = p → a ≤ n → kK t.fK n = n → Tr r f h t.fTo (c + t.fToll) (n + t.fLong)
theorem Tr.low {r : TR} (hR : GoodR r) {f h p c a : Int} (ht : Tr r f h p c a) : h ≤ a ∧ 0 ≤ c:=by
 induction ht with
 | start => exact ⟨Int.le_refl _,Int.le_refl _⟩
 | step t n _ hm _ hn _ ih =>
  have h1:=(hR.trk t hm).long
  have h2:=(hR.trk t hm).toll
  omega
theorem LInv.attain {r : TR} (hR : GoodR r) {f h : Int} {q : List Twait} {D : Ts → List TT} {m : List (Ts × Tl)} (hI : LInv r f h D q m) : ∀ (n : Nat) (s : Ts) (l : Tl),l.f_at - h ≤ (n : Int) → lab m s = some l → Tr r f h s.f_place s.f_toll l.f_at:=by
 intro n
 induction n with
 | zero =>
  intro s l hn hl
  rcases (hI.lok s l hl).src with ⟨_,e,e2⟩ | ⟨_,lp,t,h1,h2,h3,h4,h5,h6,h7,h8⟩
  ·rw [e,e2]; exact .start
  ·have:=(hI.lok _ _ h1).at0
   have:=(hR.trk t h2).long
   omega
 | succ n ih =>
  intro s l hn hl
  rcases (hI.lok s l hl).src with ⟨_,e,e2⟩ | ⟨_,lp,t,h1,h2,h3,h4,h5,h6,h7,h8⟩
  ·rw [e,e2]; exact .start
  ·have hlg:=(hR.trk t h2).long
   have h9:=ih l.f_from lp (by omega) h1
   rw [h4,h8]
   exact .step t _ h9 h2 h3 h6 h7
def trav (r : TR) : List TLeg → Int → Int → Int → Option (Int × Int × Int)
 | [],p,h,c => some (p,h,c)
 | l :: ls,p,h,c => if 0 ≤ jI r l.fTrack ∧ (rdL r.fT (jI r l.fTrack)).fFrom = p ∧ h ≤ l.fHour ∧ (0 ≤ l.fHour ∧ l.fHour ≤ 16384) ∧ kK (rdL r.fT (jI r l.fTrack)).fK l.fHour = l.fHour then trav r ls (rdL r.fT (jI r l.fTrack)).fTo (l.fHour + (rdL r.fT (jI r l.fTrack)).fLong) (c + (rdL r.fT (jI r l.fTrack)).fToll) else none
set_option linter.unusedSimpArgs false
structure Least (r : TR) (f h p c v : Int) : Prop where
 lo : -1 ≤ v
 hi : v ≤ 16384
 some : 0 ≤ v → ∃ c',c' ≤ c ∧ Tr r f h p c' v
 all : ∀ c' a,Tr r f h p c' a → c' ≤ c → a ≤ 16384 → 0 ≤ v ∧ v ≤ a
def eb (m : List (Ts × Tl)) (p : Int) : Nat → Int
 | 0 => -1
 | c + 1 => match lab m ⟨p,(c : Int)⟩ with
  | some l => if eb m p c < 0 ∨ l.f_at < eb m p c then l.f_at else eb m p c
  | none => eb m p c
theorem LInv.at0 {r : TR} {f h : Int} {q : List Twait} {D : Ts → List TT} {m : List (Ts × Tl)} (hI : LInv r f h D q m) (hh : 0 ≤ h) : ∀ s l,lab m s = some l → 0 ≤ l.f_at:=fun s l e => Int.le_trans hh (hI.lok s l e).at0
structure FrontOf (r : TR) (f to h : Int) (m : List (Ts × Tl)) (k : Nat) (js : List TJ) : Prop where
 each : ∀ j ∈ js,∃ c : Nat,c < k ∧ j.fToll = (c : Int) ∧ j.fA = eb m to (c + 1) ∧ eb m to (c + 1) ≠ eb m to c ∧ trav r j.fLegs f h 0 = some (to,j.fA,j.fToll) ∧ j.fLegs.length ≤ 16384
 every : ∀ c,c < k → eb m to (c + 1) ≠ eb m to c → ∃ j ∈ js,j.fToll = (c : Int)
 sorted : js.Pairwise fun a b => a.fToll < b.fToll
 len : js.length ≤ k
structure BestJ (r : TR) (f to h purse : Int) (j : TJ) : Prop where
 pos : 0 ≤ j.fA
 least : Least r f h to purse j.fA
 toll : 0 ≤ j.fToll ∧ j.fToll ≤ purse
 legs : trav r j.fLegs f h 0 = some (to,j.fA,j.fToll)
 len : j.fLegs.length ≤ 16384
 least2 : Least r f h to j.fToll j.fA
 first : ∀ c v,0 ≤ c → c < j.fToll → Least r f h to c v → v ≠ j.fA
set_option linter.unusedSimpArgs false
theorem few_eq {r : TR} (hl : r.fT.length ≤ 9223372036854775807) : ∃ b,fu r = some b ∧ (b = true → ∀ t ∈ r.fT,t.fK.length ≤ 12):=by
 have hinv:=g7 (body:=eV r)
  (fun s => ∃ k : Nat,s = (false,(k : Int)) ∧ k ≤ r.fT.length ∧ ∀ i,(hi : i < r.fT.length) → i < k → (r.fT[i]).fK.length ≤ 12)
  (fun _ out => match out with
   | .inl u => u.1 = false
   | .inr _ => ∀ i,(hi : i < r.fT.length) → (r.fT[i]).fK.length ≤ 12)
  (fun s => r.fT.length - s.2.toNat) (by
   rintro _ ⟨k,rfl,hk,hall⟩
   unfold eV; dsimp only
   rcases Nat.lt_or_ge k r.fT.length with hlt | hge
   ·rw [jw (by omega),gPo (by omega),cL hlt,cE (by omega)]
    by_cases hc : 12 < (((r.fT[k]).fK.length : Nat) : Int)
    ·rw [if_pos (decide_eq_true hc)]
     exact .inr ⟨_,rfl,rfl⟩
    ·rw [if_neg (by simpa using hc)]
     refine .inl ⟨_,rfl,⟨k + 1,rfl,hlt,fun i hi h => ?_⟩,by dsimp only; omega,fun t h => h⟩
     rcases Nat.lt_or_ge i k with h' | h'
     ·exact hall i hi h'
     ·have : i = k:=by omega
      subst this; omega
   ·rw [iY (by omega)]
    exact .inr ⟨_,rfl,fun i hi => hall i hi (by omega)⟩) (false,0) ⟨0,rfl,Nat.zero_le _,fun i hi h => by omega⟩
 obtain ⟨out,hr,hp⟩:=hinv
 unfold fu
 rw [hr,oB]
 rcases out with u | u
 ·exact ⟨_,rfl,fun h => by dsimp only at hp h; rw [hp] at h; cases h⟩
 ·exact ⟨_,rfl,fun _ t ht => by obtain ⟨i,hi,rfl⟩:=List.mem_iff_getElem.1 ht; exact hp i hi⟩
set_option linter.unusedSimpArgs false
open Classical
theorem Matchable.mono {S S' : Nat → Nat → Prop} {A : Nat → Prop} (h : Matchable S A) (hs : ∀ x k,A x → S x k → S' x k) : Matchable S' A:=by
 obtain ⟨m,hM,hd⟩:=h
 exact ⟨m,⟨fun k o e => hs o k ((hd o).1 ⟨k,e⟩) (hM.suit k o e),hM.inj⟩,hd⟩
theorem Matchable.congr {S : Nat → Nat → Prop} {A B : Nat → Prop} (h : Matchable S A) (hab : ∀ x,A x ↔ B x) : Matchable S B:=by
 obtain ⟨m,hM,hd⟩:=h
 exact ⟨m,hM,fun x => (hd x).trans (hab x)⟩
def w1 (y : TY) (first wi : Int) (x : Nat) : Int:=if (x : Int) = first ∨ (x : Int) = wi then 1001 else wo y x
def S1 (y : TY) (wi : Int) (x k : Nat) : Prop:=Su y x k ∧ (x : Int) ≠ wi
theorem S1.fit (y : TY) (wi : Int) : Fit (S1 y wi) y.fB.length y.fOrders.length:=⟨fun o k h => h.1.2.1,fun o k h => h.1.1⟩
def Seen (y : TY) (first wi w : Int) (i : Nat) (x : Nat) : Prop:=(x < y.fOrders.length ∧ (w < wo y x ∨ (wo y x = w ∧ x < i))) ∨ (x : Int) = first ∨ (x : Int) = wi
structure BestI (y : TY) (first wi w : Int) (i : Nat) (l : List Int) : Prop where
 nums : Nums y.fOrders.length l
 greedy : Greedy (S1 y wi) (w1 y first wi) (Seen y first wi w i) (fun x => (x : Int) ∈ l)
 no : ¬ wi ∈ l
theorem Nums.len {n : Nat} {l : List Int} (h : Nums n l) : l.length ≤ n:=by
 have h1 : ∀ (ks : List Int),isum (fun _ => 1) ks = (ks.length : Int):=fun ks => by
  induction ks with
  | nil => rfl
  | cons k ks ih => show 1 + isum (fun _ => 1) ks = _; rw [ih,List.length_cons]; omega
 have h2:=sr (f:=fun _ => 1) (n:=n) l h.once h.nat
 have h3 : ∀ n,sm n (fun _ => 1) = (n : Int):=fun n => by
  induction n with
  | zero => rfl
  | succ n ih => show sm n (fun _ => 1) + 1 = _; rw [ih]; omega
 have h4:=h3 n
 have h5 : sm n (fun j => if (j : Int) ∈ l then (1 : Int) else 0) ≤ sm n (fun _ => 1):=nS fun i _ => by split <;> omega
 rw [h1] at h2
 omega
theorem Opt.congr {S S' : Nat → Nat → Prop} {w w' : Nat → Int} {nB : Nat} {V : Int} (h : Opt S w nB V) (hS : ∀ o k,S o k ↔ S' o k) (hw : ∀ o k,S o k → w o = w' o) : Opt S' w' nB V:=by
 have e : S = S':=funext fun o => funext fun k => propext (hS o k)
 subst e
 have hv : ∀ m,Mat S m → wor nB w m = wor nB w' m:=fun m hM => eS fun k _ => by
  cases e : m k with
  | none => rfl
  | some x => exact hw x k (hM.suit k x e)
 obtain ⟨m,hM,e⟩:=h.some
 exact ⟨⟨m,hM,by rw [← hv m hM]; exact e⟩,fun m hM => by rw [← hv m hM]; exact h.most m hM⟩
set_option linter.unusedSimpArgs false
open Classical
def ga (p : TPlan) (i : Nat) : Int:=p.fG.getD i 0
def pa (p : TPlan) (k : Nat) : Int:=p.fP.getD k 0
def rp (y : TY) (f : Nat → Int) (i : Nat) (a : Int) : Nat → Int
 | 0 => a
 | n + 1 => if oX (oat y i) (bat y n) = true then min (rp y f i a n) (f n) else rp y f i a n
theorem sW (y : TY) (f : Nat → Int) (i : Nat) (a : Int) : ∀ n,rp y f i a n ≤ a ∧ ∀ k,k < n → oX (oat y i) (bat y k) = true → rp y f i a n ≤ f k
 | 0 => ⟨Int.le_refl _,fun k hk => by omega⟩
 | n + 1 => by
  obtain ⟨h1,h2⟩:=sW y f i a n
  unfold rp
  split
  ·rename_i hs
   refine ⟨by omega,fun k hk hk2 => ?_⟩
   rcases Nat.lt_or_ge k n with h | h
   ·have:=h2 k h hk2; omega
   ·have : k = n:=by omega
    subst this; omega
  ·rename_i hs
   refine ⟨h1,fun k hk hk2 => ?_⟩
   rcases Nat.lt_or_ge k n with h | h
   ·exact h2 k h hk2
   ·have : k = n:=by omega
    subst this; exact absurd hk2 hs
theorem qj (y : TY) (f : Nat → Int) (i : Nat) (a : Int) : ∀ n,rp y f i a n = a ∨ ∃ k,k < n ∧ oX (oat y i) (bat y k) = true ∧ rp y f i a n = f k
 | 0 => .inl rfl
 | n + 1 => by
  unfold rp
  split
  ·rename_i hs
   rcases qj y f i a n with h | ⟨k,h1,h2,h3⟩
   ·rcases Int.le_total (rp y f i a n) (f n) with h4 | h4
    ·left; rw [Int.min_eq_left h4]; exact h
    ·right; exact ⟨n,by omega,hs,Int.min_eq_right h4⟩
   ·rcases Int.le_total (rp y f i a n) (f n) with h4 | h4
    ·right; exact ⟨k,by omega,h2,by rw [Int.min_eq_left h4]; exact h3⟩
    ·right; exact ⟨n,by omega,hs,Int.min_eq_right h4⟩
  ·rcases qj y f i a n with h | ⟨k,h1,h2,h3⟩
   ·exact .inl h
   ·exact .inr ⟨k,by omega,h2,h3⟩
def gain (y : TY) (f : Nat → Int) (i : Nat) : Int:=max 0 (wo y i - rp y f i 1001 y.fB.length)
def okAt (y : TY) (p : TPlan) (i : Nat) : Prop:=ga p i = 0 ∨ (0 ≤ bayI y (ga p i) ∧ oX (oat y i) (rdL y.fB (bayI y (ga p i))) = true ∧ ∀ j,j < i → ga p j ≠ ga p i)
def sumW (y : TY) (p : TPlan) (n : Nat) : Int:=sm n fun i => if ga p i = 0 then 0 else wo y i
structure Proved (y : TY) (p : TPlan) : Prop where
 len : p.fG.length = y.fOrders.length
 plen : p.fP.length = y.fB.length
 price : ∀ k,k < y.fB.length → 0 ≤ pa p k ∧ pa p k ≤ 1000
 ok : ∀ i,i < y.fOrders.length → okAt y p i
 sum : sumW y p y.fOrders.length = p.fW
 bound : sm y.fOrders.length (gain y (pa p)) + sm y.fB.length (pa p) = p.fW
set_option linter.unusedSimpArgs false
open Classical
theorem pe {y : TY} (hG : Good y) {k : Nat} (hk : k < y.fB.length) : bayI y (bat y k).fID = (k : Int):=by
 unfold bayI bat
 rw [dQ hk]
 exact qa hG.bayN hk
theorem ta {y : TY} (hG : Good y) {k : Nat} (hk : k < y.fB.length) : 1 ≤ (bat y k).fID:=by
 have:=hG.bay y.fB[k] (List.getElem_mem hk)
 unfold bayB at this
 simp only [Bool.and_eq_true,decide_eq_true_eq] at this
 unfold bat
 rw [dQ hk]
 exact this.1.1
theorem PlanOf.proved {y : TY} (hG : Good y) {m : Nat → Option Nat} (hM : Mat (Su y) m) {q u : Nat → Int} (hp : Prices (Su y) (wo y) y.fB.length y.fOrders.length m q u) {p : TPlan} (h : PlanOf y m q p) : Proved y p:=by
 have hF:=Su.fit y
 have hgot : ∀ o k,m k = some o → ga p o = (bat y k).fID ∧ k < y.fB.length ∧ o < y.fOrders.length:=fun o k e => ⟨h.got o k e,hF.bay o k (hM.suit k o e),hF.ord o k (hM.suit k o e)⟩
 have hnz : ∀ o,ga p o = 0 ↔ ¬ Dom m o:=fun o => ⟨fun e ⟨k,ek⟩ => by
  obtain ⟨h1,h2,_⟩:=hgot o k ek
  have:=ta hG h2
  omega,h.not o⟩
 have hpr : ∀ k,k < y.fB.length → pa p k = q k:=h.price
 have hq : ∀ k,k < y.fB.length → 0 ≤ q k ∧ q k ≤ 1000:=fun k hk => ⟨hp.q0 k,by
  cases e : m k with
  | none => rw [hp.free k e]; omega
  | some x => have h1:=hp.held k x e; have h2:=hG.worth (hgot x k e).2.2; omega⟩
 have hgain : ∀ i,i < y.fOrders.length → gain y (pa p) i = u i:=fun i hi => by
  have hw:=hG.worth hi
  obtain ⟨hm1,hm2⟩:=sW y (pa p) i 1001 y.fB.length
  have hm3:=qj y (pa p) i 1001 y.fB.length
  unfold gain
  by_cases hd : Dom m i
  ·obtain ⟨k,e⟩:=hd
   have hs:=hM.suit k i e
   have h1:=hp.uset k i e
   have h2:=hp.held k i e
   have h3:=hm2 k hs.2.1 hs.2.2
   rw [hpr k hs.2.1] at h3
   have h4 : q k ≤ rp y (pa p) i 1001 y.fB.length:=by
    rcases hm3 with h4 | ⟨k',hk',hs',h4⟩
    ·have:=(hq k hs.2.1).2; omega
    ·rw [h4,hpr k' hk']; exact hp.least k i k' e ⟨hi,hk',hs'⟩
   omega
  ·rw [hp.unot i hd]
   have h4 : wo y i ≤ rp y (pa p) i 1001 y.fB.length:=by
    rcases hm3 with h4 | ⟨k',hk',hs',h4⟩
    ·omega
    ·rw [h4,hpr k' hk']; exact hp.out i k' hi hd ⟨hi,hk',hs'⟩
   omega
 refine ⟨h.len,h.plen,fun k hk => by rw [hpr k hk]; exact hq k hk,fun i hi => ?_,?_,?_⟩
 ·by_cases hd : Dom m i
  ·obtain ⟨k,e⟩:=hd
   obtain ⟨h1,h2,_⟩:=hgot i k e
   refine .inr ⟨by rw [h1,pe hG h2]; omega,by rw [h1,pe hG h2,sG]; exact (hM.suit k i e).2.2,fun j hj ej => ?_⟩
   have hdj : Dom m j:=Classical.byContradiction fun hn => by
    have:=(hnz j).2 hn
    have:=ta hG h2
    omega
   obtain ⟨k',e'⟩:=hdj
   obtain ⟨h1',h2',_⟩:=hgot j k' e'
   have h5:=pe hG h2
   rw [← h1,← ej,h1',pe hG h2'] at h5
   have : k' = k:=by omega
   subst this
   rw [e] at e'
   cases e'
   omega
  ·exact .inl ((hnz i).2 hd)
 ·rw [h.worth]
  unfold wor
  rw [bij hF hM (wo y)]
  refine eS fun i _ => ?_
  by_cases hd : Dom m i
  ·rw [if_pos hd,if_neg fun e => (hnz i).1 e hd]
  ·rw [if_neg hd,if_pos ((hnz i).2 hd)]
 ·rw [h.worth,hp.total,eS hgain,eS hpr]
  exact Int.add_comm _ _
set_option linter.unusedSimpArgs false
end Go.Proofs.YthndghnkebboaabGreat
set_option linter.unusedSimpArgs false
namespace Go.Proofs.YthndghnkebboaabGreat
set_option linter.unusedSimpArgs false
open Classical
def okP : List (TT × Int) → Int → Int → Prop
 | [],_,_ => True
 | x :: l,p,a => x.1.fFrom = p ∧ a ≤ x.2 ∧ kK x.1.fK x.2 = x.2 ∧ okP l x.1.fTo (x.2 + x.1.fLong)
def endP : List (TT × Int) → Int → Int
 | [],p => p
 | x :: l,_ => endP l x.1.fTo
def endA : List (TT × Int) → Int → Int
 | [],a => a
 | x :: l,_ => endA l (x.2 + x.1.fLong)
def nN : List (TT × Int) → Int
 | [] => 0
 | x :: l => x.1.fToll + nN l
theorem Tr.along {r : TR} {f h : Int} : ∀ {l : List (TT × Int)} {p c a : Int},Tr r f h p c a → (∀ x ∈ l,x.1 ∈ r.fT) → okP l p a → Tr r f h (endP l p) (c + nN l) (endA l a)
 | [],p,c,a,ht,_,_ => by
  show Tr r f h p (c + 0) a
  rw [Int.add_zero]; exact ht
 | x :: l,p,c,a,ht,hm,⟨h1,h2,h3,h4⟩ => by
  have:=Tr.along (l:=l) (Tr.step x.1 x.2 ht (hm x List.mem_cons_self) h1 h2 h3) (fun y hy => hm y (List.mem_cons_of_mem _ hy)) h4
  have e : c + nN (x :: l) = c + x.1.fToll + nN l:=by show c + (x.1.fToll + nN l) = _; omega
  rw [e]
  exact this
theorem sN : ∀ {l : List (TT × Int)} {p a : Int} (y : TT × Int),okP l p a → y.1.fFrom = endP l p → endA l a ≤ y.2 → kK y.1.fK y.2 = y.2 → okP (l ++ [y]) p a ∧ endP (l ++ [y]) p = y.1.fTo ∧ endA (l ++ [y]) a = y.2 + y.1.fLong ∧ nN (l ++ [y]) = nN l + y.1.fToll
 | [],p,a,y,_,h1,h2,h3 => ⟨⟨h1,h2,h3,trivial⟩,rfl,rfl,by show y.1.fToll + 0 = 0 + y.1.fToll; omega⟩
 | x :: l,p,a,y,⟨g1,g2,g3,g4⟩,h1,h2,h3 => by
  obtain ⟨k1,k2,k3,k4⟩:=sN (l:=l) y g4 h1 h2 h3
  exact ⟨⟨g1,g2,g3,k1⟩,k2,k3,by show x.1.fToll + nN (l ++ [y]) = x.1.fToll + nN l + y.1.fToll; omega⟩
theorem Tr.list {r : TR} {f h p c a : Int} (ht : Tr r f h p c a) : ∃ l : List (TT × Int),(∀ x ∈ l,x.1 ∈ r.fT) ∧ okP l f h ∧ endP l f = p ∧ endA l h = a ∧ nN l = c:=by
 induction ht with
 | start => exact ⟨[],fun x hx => (by cases hx),trivial,rfl,rfl,rfl⟩
 | step t n _ hm hf hn he ih =>
  obtain ⟨l,h1,h2,h3,h4,h5⟩:=ih
  obtain ⟨k1,k2,k3,k4⟩:=sN (l:=l) (t,n) h2 (hf.trans h3.symm) (by rw [h4]; exact hn) he
  refine ⟨l ++ [(t,n)],fun x hx => ?_,k1,k2,k3,by rw [k4,h5]⟩
  rcases List.mem_append.1 hx with hx | hx
  ·exact h1 x hx
  ·rw [List.mem_singleton.1 hx]; exact hm
theorem Tr.sub {r r' : TR} (hs : ∀ t ∈ r'.fT,t ∈ r.fT) {f h p c a : Int} (ht : Tr r' f h p c a) : Tr r f h p c a:=by
 induction ht with
 | start => exact .start
 | step t n _ hm hf hn he ih => exact .step t n ih (hs t hm) hf hn he
set_option linter.unusedSimpArgs false
open Classical
theorem insS_l2 {n : Nat} {data0 : List TSpan} (h0 : data0.length = n) (hn : n < 1000000) {cmp : TSpan → TSpan → Option Int} (c : TSpan → TSpan → Int) (f : TSpan → Int) (S : TSpan → Prop) (hc : ∀ x y,S x → S y → cmp x y = some (c x y) ∧ (c x y < 0 ↔ f x < f y)) (x : TSpan) (hx : S x) :
  ∀ (k : Nat) (A1 T : List TSpan),A1.length = k → A1.length + 1 + T.length = n → (∀ y ∈ A1,S y) → ∃ B1 B2 : List TSpan,A1 = B1 ++ B2 ∧ aT (aS data0 0 cmp) ((A1.length : Int),A1 ++ x :: T) = some ((B1.length : Int),B1 ++ x :: (B2 ++ T)) ∧ (∀ y ∈ B2,f x < f y) ∧ (∀ y,B1.getLast? = some y → ¬ f x < f y):=by
 intro k
 induction k with
 | zero =>
  intro A1 T hk hl hS
  have : A1 = []:=List.eq_nil_of_length_eq_zero hk
  subst this
  refine ⟨[],[],rfl,?_,by simp,by simp⟩
  refine ct ?_
  unfold aS; dsimp only
  rfl
 | succ k ih =>
  intro A1 T hk hl hS
  obtain ⟨A,y,rfl⟩ : ∃ A y,A1 = A ++ [y]:=⟨A1.dropLast,A1.getLast (by intro h; rw [h] at hk; cases hk),(List.dropLast_concat_getLast _).symm⟩
  have hA : A.length = k:=by simpa using hk
  simp only [List.length_append,List.length_cons,List.length_nil] at hl
  have hy : S y:=hS y (by simp)
  have e1 : A ++ [y] ++ x :: T = A ++ y :: x :: T:=by simp
  have hi : (((A ++ [y]).length : Nat) : Int) = (A.length : Int) + 1:=by simp
  have hj1 : w64 ((((A ++ [y]).length : Nat) : Int) - 1) = (A.length : Int):=by rw [eC (by simp only [List.length_append,List.length_cons,List.length_nil]; omega) (by simp only [List.length_append,List.length_cons,List.length_nil]; omega)]; simp
  have r1 : rdL (A ++ [y] ++ x :: T) (((A ++ [y]).length : Nat) : Int) = x:=mC _ _ _ _ rfl
  have r2 : rdL (A ++ [y] ++ x :: T) (A.length : Int) = y:=by rw [e1]; exact mC _ _ _ _ rfl
  obtain ⟨hc1,hc2⟩:=hc x y hx hy
  have g1 : (0 : Int) ≤ (((A ++ [y]).length : Nat) : Int) ∧ (((A ++ [y]).length : Nat) : Int) < ((data0.length : Nat) : Int):=by rw [h0]; simp only [List.length_append,List.length_cons,List.length_nil]; omega
  have g2 : (0 : Int) ≤ (A.length : Int) ∧ (A.length : Int) < ((data0.length : Nat) : Int):=by rw [h0]; omega
  have hd : decide ((0 : Int) < (((A ++ [y]).length : Nat) : Int)) = true:=decide_eq_true (by rw [hi]; omega)
  have step : aS data0 0 cmp ((((A ++ [y]).length : Nat) : Int),A ++ [y] ++ x :: T) = if f x < f y then some (.inl ((A.length : Int),A ++ x :: ([y] ++ T))) else some (.inr ((((A ++ [y]).length : Nat) : Int),A ++ [y] ++ x :: T)):=by
   unfold aS; dsimp only
   simp only [hj1,r1,r2,kW,hd,if_true,gPo g1,gPo g2,hc1,oB,decide_eq_true_eq]
   by_cases hlt : f x < f y
   ·rw [if_pos (hc2.2 hlt),if_pos hlt]
    refine congrArg some (congrArg Sum.inl (Prod.ext rfl ?_))
    show ((A ++ [y] ++ x :: T).set (Int.toNat (((A ++ [y]).length : Nat) : Int)) y).set (Int.toNat (A.length : Int)) x = _
    rw [Int.toNat_natCast,Int.toNat_natCast,mE (A ++ [y]) x y T _ rfl]
    have e3 : A ++ [y] ++ y :: T = A ++ y :: (y :: T):=by simp
    rw [e3,mE A y x (y :: T) _ rfl]
    simp
   ·rw [if_neg (fun h => hlt (hc2.1 h)),if_neg hlt]
  by_cases hlt : f x < f y
  ·rw [if_pos hlt] at step
   obtain ⟨B1,B2,hB,hr,h2,h3⟩:=ih A ([y] ++ T) hA (by simp; omega) (fun z hz => hS z (by simp [hz]))
   refine ⟨B1,B2 ++ [y],by rw [hB,List.append_assoc],?_,?_,h3⟩
   ·rw [fZ step,hr]
    simp
   ·intro z hz
    rcases List.mem_append.1 hz with hz | hz
    ·exact h2 z hz
    ·rw [List.mem_singleton.1 hz]; exact hlt
  ·rw [if_neg hlt] at step
   refine ⟨A ++ [y],[],by simp,?_,by simp,?_⟩
   ·rw [ct step]; simp
   ·intro z hz
    simp at hz
    rw [← hz]
    exact hlt
theorem insS_all {l : List TSpan} (hl : l.length < 1000000) {cmp : TSpan → TSpan → Option Int} (c : TSpan → TSpan → Int) (f : TSpan → Int) (hc : ∀ x y,x ∈ l → y ∈ l → cmp x y = some (c x y) ∧ (c x y < 0 ↔ f x < f y)) :
  ∃ s,bg l 0 (l.length : Int) cmp = some s ∧ s.Perm l ∧ s.Pairwise (fun a b => f a ≤ f b):=by
 unfold bg
 have e1 : w64 (0 + 1) = 1:=rfl
 rw [e1]
 have main : ∀ (R A : List TSpan),(A ++ R).Perm l → A.Pairwise (fun a b => f a ≤ f b) → ∃ s,aT (aE l 0 (l.length : Int) cmp) ((A.length : Int),A ++ R) = some ((l.length : Int),s) ∧ s.Perm l ∧ s.Pairwise (fun a b => f a ≤ f b):=by
  intro R
  induction R with
  | nil =>
   intro A hp hs
   have hlen : A.length = l.length:=by have:=hp.length_eq; simpa using this
   refine ⟨A,?_,by simpa using hp,hs⟩
   rw [List.append_nil,hlen]
   refine ct ?_
   unfold aE; dsimp only
   rw [show decide ((l.length : Int) < (l.length : Int)) = false from decide_eq_false (by omega)]
   rfl
  | cons x T ih =>
   intro A hp hs
   have hlen : A.length + (T.length + 1) = l.length:=by have:=hp.length_eq; simpa using this
   obtain ⟨B1,B2,hB,hr,h2,h3⟩:=insS_l2 (data0:=l) rfl hl c f (fun z => z ∈ l) hc x (hp.mem_iff.1 (by simp)) A.length A T rfl (by omega) (fun y hy => hp.mem_iff.1 (by simp [hy]))
   have hstep : aE l 0 (l.length : Int) cmp ((A.length : Int),A ++ x :: T) = some (.inl (((B1 ++ x :: B2).length : Int),(B1 ++ x :: B2) ++ T)):=by
    unfold aE; dsimp only
    rw [show decide ((A.length : Int) < (l.length : Int)) = true from decide_eq_true (by omega)]
    rw [if_pos rfl,hr,oB]
    have hw : w64 ((A.length : Int) + 1) = (A.length : Int) + 1:=eC (by omega) (by omega)
    simp only [hw]
    refine congrArg some (congrArg Sum.inl (Prod.ext ?_ ?_))
    ·simp [hB]; omega
    ·simp
   have hs' : (B1 ++ x :: B2).Pairwise (fun a b => f a ≤ f b):=by
    rw [hB,List.pairwise_append] at hs
    obtain ⟨s1,s2,s3⟩:=hs
    have hle : ∀ y ∈ B1,f y ≤ f x:=by
     intro y hy
     rcases List.eq_nil_or_concat B1 with rfl | ⟨B,z,rfl⟩
     ·cases hy
     ·have hz:=h3 z (by simp)
      rw [List.concat_eq_append] at hy s1
      rcases List.mem_append.1 hy with hy | hy
      ·rw [List.pairwise_append] at s1
       have:=s1.2.2 y hy z (by simp); omega
      ·rw [List.mem_singleton.1 hy]; omega
    rw [List.pairwise_append]
    refine ⟨s1,List.pairwise_cons.2 ⟨fun y hy => by have:=h2 y hy; omega,s2⟩,fun a ha b hb => ?_⟩
    rcases List.mem_cons.1 hb with rfl | hb
    ·exact hle a ha
    ·exact s3 a ha b hb
   have hp' : ((B1 ++ x :: B2) ++ T).Perm l:=by
    refine List.Perm.trans ?_ hp
    rw [hB]
    simp only [List.append_assoc,List.cons_append]
    exact List.Perm.append_left B1 (List.perm_middle).symm
   obtain ⟨s,h4,h5,h6⟩:=ih (B1 ++ x :: B2) hp' hs'
   exact ⟨s,by rw [fZ hstep]; exact h4,h5,h6⟩
 rcases l with _ | ⟨x,T⟩
 ·have : aT (aE [] 0 (([] : List TSpan).length : Int) cmp) (1,[]) = some (1,[]):=by
   refine ct ?_
   unfold aE
   rfl
  exact ⟨[],by rw [this]; rfl,List.Perm.refl _,List.Pairwise.nil⟩
 ·obtain ⟨s,h1,h2,h3⟩:=main T [x] (by simp) (by simp)
  have h1' : aT (aE (x :: T) 0 ((x :: T).length : Int) cmp) (1,x :: T) = some (((x :: T).length : Int),s):=h1
  exact ⟨s,by rw [h1']; rfl,h2,h3⟩
theorem lk {n : Nat} (h : n ≤ 12) : ∃ v,eu (n : Int) = some v:=by
 have : n = 0 ∨ n = 1 ∨ n = 2 ∨ n = 3 ∨ n = 4 ∨ n = 5 ∨ n = 6 ∨ n = 7 ∨ n = 8 ∨ n = 9 ∨ n = 10 ∨ n = 11 ∨ n = 12:=by omega
 rcases this with h | h | h | h | h | h | h | h | h | h | h | h | h <;> subst h <;> exact ⟨_,rfl⟩
theorem qe {l : List TSpan} (hl : l.length ≤ 12) {cmp : TSpan → TSpan → Option Int} (c : TSpan → TSpan → Int) (f : TSpan → Int) (hc : ∀ x y,x ∈ l → y ∈ l → cmp x y = some (c x y) ∧ (c x y < 0 ↔ f x < f y)) : ∃ s,bF l cmp = some s ∧ s.Perm l ∧ s.Pairwise (fun a b => f a ≤ f b):=by
 obtain ⟨s,h1,h2,h3⟩:=insS_all (by omega) c f hc
 obtain ⟨v,hv⟩:=lk hl
 refine ⟨s,?_,h2,h3⟩
 unfold bF bV
 rw [gPo (by omega),hv,oB]
 have hst : bI cmp (0,(l.length : Int),v,true,true,l) = some (.inr (0,(l.length : Int),v,true,true,s)):=by
  unfold bI; dsimp only
  rw [eC (by omega) (by omega),gPo (by rw [decide_eq_true_eq]; omega),h1]
  rfl
 rw [ct hst]
 rfl
def pZ (l : List TSpan) (n : Int) : Prop:=∃ s ∈ l,s.fLo ≤ n ∧ n ≤ s.fHi
theorem mU : ∀ (l : List TSpan) (n : Int),kK l n = n ↔ ¬ pZ l n
 | [],n => ⟨fun _ ⟨s,hs,_⟩ => (by cases hs),fun _ => rfl⟩
 | s :: l,n => by
  show kK l (nk n s) = n ↔ _
  by_cases hc : s.fLo ≤ n ∧ n ≤ s.fHi
  ·have e : nk n s = s.fHi + 1:=if_pos hc
   have h1:=r6 l (s.fHi + 1)
   rw [e]
   exact ⟨fun h => by omega,fun h => absurd ⟨s,List.mem_cons_self,hc⟩ h⟩
  ·have e : nk n s = n:=if_neg hc
   rw [e,mU l n]
   refine not_congr ⟨fun ⟨x,hx,h⟩ => ⟨x,List.mem_cons_of_mem _ hx,h⟩,fun ⟨x,hx,h⟩ => ?_⟩
   rcases List.mem_cons.1 hx with rfl | hx
   ·exact absurd h hc
   ·exact ⟨x,hx,h⟩
def r9 (last : Int) : List TSpan → Int
 | [] => last
 | s :: l => r9 s.fHi l
theorem n5 (last : Int) : ∀ (B : List TSpan) (z : TSpan),r9 last (B ++ [z]) = z.fHi
 | [],z => rfl
 | s :: B,z => n5 s.fHi B z
theorem kg : ∀ {B : List TSpan} {last : Int} {z : TSpan},ck last (B ++ [z]) = true ↔ ck last B = true ∧ r9 last B + 2 ≤ z.fLo ∧ z.fLo ≤ z.fHi ∧ z.fHi ≤ 16384
 | [],last,z => by
  show ck last [z] = true ↔ _
  rw [cM]
  exact ⟨fun h => ⟨rfl,h.1,h.2.1,h.2.2.1⟩,fun h => ⟨h.2.1,h.2.2.1,h.2.2.2,rfl⟩⟩
 | s :: B,last,z => by
  rw [List.cons_append,cM,cM,kg (B:=B)]
  exact ⟨fun ⟨a,b,c,d,e⟩ => ⟨⟨a,b,c,d⟩,e⟩,fun ⟨⟨a,b,c,d⟩,e⟩ => ⟨a,b,c,d,e⟩⟩
theorem oK : ∀ {l : List TSpan} {last : Int},ck last l = true → -2 ≤ last → ∀ s ∈ l,0 ≤ s.fLo ∧ s.fLo ≤ s.fHi ∧ s.fHi ≤ 16384
 | [],_,_,_,s,hm => by cases hm
 | x :: l,last,hs,h0,s,hm => by
  obtain ⟨h1,h2,h3,h4⟩:=cM.1 hs
  rcases List.mem_cons.1 hm with rfl | hm
  ·omega
  ·exact oK h4 (by omega) s hm
theorem gg {A B : List TSpan} {n : Int} : pZ (A ++ B) n ↔ pZ A n ∨ pZ B n:=by
 unfold pZ
 constructor
 ·rintro ⟨s,hs,h⟩
  rcases List.mem_append.1 hs with hs | hs
  ·exact .inl ⟨s,hs,h⟩
  ·exact .inr ⟨s,hs,h⟩
 ·rintro (⟨s,hs,h⟩ | ⟨s,hs,h⟩)
  ·exact ⟨s,List.mem_append.2 (.inl hs),h⟩
  ·exact ⟨s,List.mem_append.2 (.inr hs),h⟩
theorem li {z : TSpan} {n : Int} : pZ [z] n ↔ z.fLo ≤ n ∧ n ≤ z.fHi:=⟨fun ⟨s,hs,h⟩ => by rw [List.mem_singleton.1 hs] at h; exact h,fun h => ⟨z,List.mem_cons_self,h⟩⟩
theorem pv {l : List TSpan} {s : TSpan} (hl : l.length ≤ 11) (hsp : ck (-2) l = true) (hs : 0 ≤ s.fLo ∧ s.fLo ≤ s.fHi ∧ s.fHi ≤ 16384) : ∃ out,f5 l s = some out ∧ ck (-2) out = true ∧ (∀ n,pZ out n ↔ pZ l n ∨ (s.fLo ≤ n ∧ n ≤ s.fHi)) ∧ out.length ≤ l.length + 1:=by
 have hok : ∀ x ∈ l ++ [s],0 ≤ x.fLo ∧ x.fLo ≤ x.fHi ∧ x.fHi ≤ 16384:=fun x hx => by
  rcases List.mem_append.1 hx with hx | hx
  ·exact oK hsp (by omega) x hx
  ·rw [List.mem_singleton.1 hx]; exact hs
 obtain ⟨S,h1,h2,h3⟩:=qe (l:=l ++ [s]) (by simp; omega) (cmp:=fun x13 x14 => eB x13 x14) (fun a b => a.fLo - b.fLo) (fun a => a.fLo) (fun x y hx hy => by
  have a:=hok x hx
  have b:=hok y hy
  unfold eB
  rw [eC (by omega) (by omega)]
  exact ⟨rfl,by omega⟩)
 have hlen : S.length = l.length + 1:=by have:=h2.length_eq; simpa using this
 have hokS : ∀ x ∈ S,0 ≤ x.fLo ∧ x.fLo ≤ x.fHi ∧ x.fHi ≤ 16384:=fun x hx => hok x (h2.mem_iff.1 hx)
 have hpw:=List.pairwise_iff_getElem.1 h3
 have hinv:=g7 (body:=f9 l S)
  (fun st => ∃ (k : Nat) (out : List TSpan),st = ((k : Int),out) ∧ k ≤ S.length ∧ ck (-2) out = true ∧ (∀ n,pZ out n ↔ pZ (S.take k) n) ∧ out.length ≤ k ∧ ((out = [] ∧ k = 0) ∨ ∃ B z,out = B ++ [z] ∧ ∀ i,(hi : i < S.length) → k ≤ i → z.fLo ≤ S[i].fLo))
  (fun _ t => ck (-2) t.2 = true ∧ (∀ n,pZ t.2 n ↔ pZ S n) ∧ t.2.length ≤ S.length)
  (fun st => S.length - st.1.toNat) (by
   rintro _ ⟨k,out,rfl,hk,hb,hm,hol,hlast⟩
   unfold f9; dsimp only
   rcases Nat.lt_or_ge k S.length with hlt | hge
   ·have hx:=hokS _ (List.getElem_mem hlt)
    have htk : S.take (k + 1) = S.take k ++ [S[k]]:=List.take_succ_eq_append_getElem hlt
    rw [jw (by omega),gPo (by omega),cL hlt,cE (by omega)]
    rcases hlast with ⟨rfl,rfl⟩ | ⟨B,z,rfl,hz⟩
    ·rw [if_neg (by simp),oB,if_neg (by simp),gPo (by simp)]
     refine .inl ⟨_,rfl,⟨1,_,rfl,by omega,?_,fun n => ?_,by simp,.inr ⟨[],_,rfl,fun i hi h0 => ?_⟩⟩,by dsimp only; omega,fun t h => h⟩
     ·rw [List.nil_append,cM]
      exact ⟨by dsimp only; omega,hx.2.1,hx.2.2,rfl⟩
     ·rw [htk,gg,gg]
      exact Iff.rfl
     ·have:=hpw 0 i hlt hi (by omega)
      exact this
    ·obtain ⟨b1,b2,b3,b4⟩:=kg.1 hb
     have hzk:=hz k hlt (Nat.le_refl _)
     have hl1 : (B ++ [z]).length = B.length + 1:=by simp
     have hz0:=oK hb (by omega) z (by simp)
     have ew : w64 (((B ++ [z]).length : Int) - 1) = (B.length : Int):=by rw [hl1,eC (by omega) (by omega)]; omega
     have er : rdL (B ++ [z]) (B.length : Int) = z:=by rw [cL (by omega)]; simp
     have ez : w64 (z.fHi + 1) = z.fHi + 1:=eC (by omega) (by omega)
     rw [jw (by omega),ew,gPo (by omega),gPo (by omega),gPo (by omega),er,ez,oB]
     by_cases hc : (S[k]).fLo ≤ z.fHi + 1
     ·have eset : (B ++ [z]).set B.length (⟨z.fLo,max z.fHi (S[k]).fHi⟩ : TSpan) = B ++ [⟨z.fLo,max z.fHi (S[k]).fHi⟩]:=by
       rw [List.set_append_right _ _ (Nat.le_refl _),Nat.sub_self]; rfl
      rw [if_pos (decide_eq_true hc),Int.toNat_natCast,eset]
      refine .inl ⟨_,rfl,⟨k + 1,_,rfl,hlt,kg.2 ⟨b1,b2,by dsimp only; omega,by dsimp only; omega⟩,fun n => ?_,by simp at hol ⊢; omega,.inr ⟨B,_,rfl,fun i hi h0 => hz i hi (by omega)⟩⟩,by dsimp only; omega,fun t h => h⟩
      have:=hm n
      rw [gg,li] at this
      rw [htk,gg,gg,li,li,← this]
      dsimp only
      constructor
      ·rintro (h | h)
       ·exact .inl (.inl h)
       ·by_cases h5 : n ≤ z.fHi
        ·exact .inl (.inr ⟨h.1,h5⟩)
        ·exact .inr (by omega)
      ·rintro ((h | h) | h)
       ·exact .inl h
       ·exact .inr (by omega)
       ·exact .inr (by omega)
     ·rw [if_neg (by simpa using hc),gPo (by omega)]
      refine .inl ⟨_,rfl,⟨k + 1,_,rfl,hlt,?_,fun n => ?_,by simp at hol ⊢; omega,.inr ⟨_,_,rfl,fun i hi h0 => ?_⟩⟩,by dsimp only; omega,fun t h => h⟩
      ·refine kg.2 ⟨hb,?_,hx.2.1,hx.2.2⟩
       rw [n5]; dsimp only; omega
      ·rw [htk,gg (A:=B ++ [z]),gg (A:=S.take k),hm n]
      ·have:=hpw k i hlt hi (by omega)
       exact this
   ·have hke : k = S.length:=by omega
    subst hke
    rw [List.take_length] at hm
    rw [iY (by omega)]
    exact .inr ⟨_,rfl,hb,hm,hol⟩) (0,[]) ⟨0,[],rfl,Nat.zero_le _,rfl,fun n => Iff.rfl,Nat.le_refl _,.inl ⟨rfl,rfl⟩⟩
 obtain ⟨t,ht,g1,g2,g3⟩:=hinv
 refine ⟨t.2,?_,g1,fun n => ?_,by omega⟩
 ·unfold f5 bE
  rw [gPo (by omega),oB,List.nil_append,gPo (by omega),h1,oB,ht]
  rfl
 ·rw [g2,← li (z:=s),← gg]
  exact ⟨fun ⟨x,hx,h⟩ => ⟨x,h2.mem_iff.1 hx,h⟩,fun ⟨x,hx,h⟩ => ⟨x,h2.mem_iff.2 hx,h⟩⟩
def jD (r : TR) (k : Nat) (out : List TSpan) : TR:=⟨r.fL,r.fT.set k ⟨(r.fT.getD k default).fID,(r.fT.getD k default).fFrom,(r.fT.getD k default).fTo,(r.fT.getD k default).fLong,(r.fT.getD k default).fToll,out⟩⟩
theorem pQ {r : TR} {k : Nat} (hk : k < r.fT.length) {out : List TSpan} {t : TT} (ht : t ∈ (jD r k out).fT) : t ∈ r.fT ∨ t = ⟨(r.fT[k]).fID,(r.fT[k]).fFrom,(r.fT[k]).fTo,(r.fT[k]).fLong,(r.fT[k]).fToll,out⟩:=by
 unfold jD at ht
 rw [dQ hk] at ht
 exact List.mem_or_eq_of_mem_set ht
theorem rv {r : TR} (hR : GoodR r) {k : Nat} (hk : k < r.fT.length) {out : List TSpan} (h1 : ck (-2) out = true) (h2 : out.length ≤ 4) : GoodR (jD r k out):=by
 have ht:=hR.trk _ (List.getElem_mem hk)
 refine ⟨hR.places,by show (r.fT.set _ _).length ≤ 48; rw [List.length_set]; exact hR.len,fun t hm => ?_,?_⟩
 ·rcases pQ hk hm with h | rfl
  ·exact hR.trk t h
  ·exact ⟨ht.id,ht.fr,ht.to,ht.ne,ht.long,ht.toll,h1,h2⟩
 ·have : (jD r k out).fT.map (·.fID) = r.fT.map (·.fID):=by
   unfold jD
   rw [dQ hk,List.map_set]
   refine List.ext_getElem (by simp) fun i a b => ?_
   rw [List.getElem_set]
   split
   ·rename_i e; subst e; simp
   ·rfl
  rw [this]
  exact hR.once
theorem Tr.shut {r : TR} {k : Nat} (hk : k < r.fT.length) {out : List TSpan} (ho : ∀ n,pZ (r.fT[k]).fK n → pZ out n) {f h p c a : Int} (ht : Tr (jD r k out) f h p c a) : Tr r f h p c a:=by
 induction ht with
 | start => exact .start
 | step t n _ hm hf hn he ih =>
  rcases pQ hk hm with h | rfl
  ·exact .step t n ih h hf hn he
  ·have hfree:=(mU _ n).1 he
   exact .step (r.fT[k]) n ih (List.getElem_mem hk) hf hn ((mU _ n).2 fun h => hfree (ho n h))
set_option linter.unusedSimpArgs false
open Classical
theorem j3 : ∀ {l : List TSpan} {last : Int},ck last l = true ↔ (∀ s ∈ l,last + 2 ≤ s.fLo ∧ s.fLo ≤ s.fHi ∧ s.fHi ≤ 16384) ∧ l.Pairwise (fun a b => a.fHi + 2 ≤ b.fLo)
 | [],last => ⟨fun _ => ⟨fun _ h => (by cases h),.nil⟩,fun _ => rfl⟩
 | s :: l,last => by
  rw [cM,j3 (l:=l),List.pairwise_cons]
  constructor
  ·rintro ⟨h1,h2,h3,h4,h5⟩
   refine ⟨fun x hx => ?_,fun x hx => (h4 x hx).1,h5⟩
   rcases List.mem_cons.1 hx with rfl | hx
   ·exact ⟨h1,h2,h3⟩
   ·have:=h4 x hx; omega
  ·rintro ⟨h1,h2,h3⟩
   have hs:=h1 s List.mem_cons_self
   exact ⟨hs.1,hs.2.1,hs.2.2,fun x hx => ⟨h2 x hx,(h1 x (List.mem_cons_of_mem _ hx)).2⟩,h3⟩
theorem qR {l : List TSpan} (h : l.Pairwise (fun a b => a.fHi + 2 ≤ b.fLo)) {a b : TSpan} (ha : a ∈ l) (hb : b ∈ l) : a = b ∨ a.fHi + 2 ≤ b.fLo ∨ b.fHi + 2 ≤ a.fLo:=by
 obtain ⟨i,hi,rfl⟩:=List.mem_iff_getElem.1 ha
 obtain ⟨j,hj,rfl⟩:=List.mem_iff_getElem.1 hb
 have:=List.pairwise_iff_getElem.1 h
 rcases Nat.lt_trichotomy i j with c | c | c
 ·exact .inr (.inl (this i j hi hj c))
 ·subst c; exact .inl rfl
 ·exact .inr (.inr (this j i hj hi c))
theorem oo : ∀ {A B : List TSpan} {last : Int},ck last A = true → ck last B = true → (∀ n,pZ A n ↔ pZ B n) → A = B
 | [],[],_,_,_,_ => rfl
 | [],b :: B,last,_,hB,h => by
  have:=(cM.1 hB).2.1
  obtain ⟨x,hx,_⟩:=(h b.fLo).2 ⟨b,List.mem_cons_self,Int.le_refl _,this⟩
  cases hx
 | a :: A,[],last,hA,_,h => by
  have:=(cM.1 hA).2.1
  obtain ⟨x,hx,_⟩:=(h a.fLo).1 ⟨a,List.mem_cons_self,Int.le_refl _,this⟩
  cases hx
 | a :: A,b :: B,last,hA,hB,h => by
  obtain ⟨a1,a2,a3,a4⟩:=cM.1 hA
  obtain ⟨b1,b2,b3,b4⟩:=cM.1 hB
  have pa:=(j3.1 a4).1
  have pb:=(j3.1 b4).1
  have le1 : b.fLo ≤ a.fLo:=by
   obtain ⟨x,hx,g⟩:=(h a.fLo).1 ⟨a,List.mem_cons_self,Int.le_refl _,a2⟩
   rcases List.mem_cons.1 hx with rfl | hx
   ·exact g.1
   ·have:=pb x hx; omega
  have le2 : a.fLo ≤ b.fLo:=by
   obtain ⟨x,hx,g⟩:=(h b.fLo).2 ⟨b,List.mem_cons_self,Int.le_refl _,b2⟩
   rcases List.mem_cons.1 hx with rfl | hx
   ·exact g.1
   ·have:=pa x hx; omega
  have le3 : b.fHi ≤ a.fHi:=by
   rcases Int.lt_or_le a.fHi b.fHi with c | c
   ·obtain ⟨x,hx,g⟩:=(h (a.fHi + 1)).2 ⟨b,List.mem_cons_self,by omega,by omega⟩
    rcases List.mem_cons.1 hx with rfl | hx
    ·omega
    ·have:=pa x hx; omega
   ·exact c
  have le4 : a.fHi ≤ b.fHi:=by
   rcases Int.lt_or_le b.fHi a.fHi with c | c
   ·obtain ⟨x,hx,g⟩:=(h (b.fHi + 1)).1 ⟨a,List.mem_cons_self,by omega,by omega⟩
    rcases List.mem_cons.1 hx with rfl | hx
    ·omega
    ·have:=pb x hx; omega
   ·exact c
  have e1 : a.fLo = b.fLo:=by omega
  have e2 : a.fHi = b.fHi:=by omega
  have eab : a = b:=by
   cases a; cases b
   dsimp only at e1 e2
   rw [e1,e2]
  subst eab
  refine congrArg (a :: ·) (oo a4 b4 fun n => ⟨fun ⟨x,hx,g⟩ => ?_,fun ⟨x,hx,g⟩ => ?_⟩)
  ·obtain ⟨z,hz,g2⟩:=(h n).1 ⟨x,List.mem_cons_of_mem _ hx,g⟩
   rcases List.mem_cons.1 hz with rfl | hz
   ·have:=pa x hx; omega
   ·exact ⟨z,hz,g2⟩
  ·obtain ⟨z,hz,g2⟩:=(h n).2 ⟨x,List.mem_cons_of_mem _ hx,g⟩
   rcases List.mem_cons.1 hz with rfl | hz
   ·have:=pb x hx; omega
   ·exact ⟨z,hz,g2⟩
theorem n3 {l : List TSpan} : fj l = some (jU l):=by
 unfold fj jU
 by_cases h4 : 4 < l.length
 ·rw [if_pos (by rw [decide_eq_true_eq]; omega),decide_eq_false (show ¬ l.length ≤ 4 by omega),Bool.and_false]
 ·rw [if_neg (by rw [decide_eq_true_eq]; omega),decide_eq_true (show l.length ≤ 4 by omega),Bool.and_true]
  have hinv:=g7 (body:=di l)
   (fun s => ∃ (k : Nat) (last : Int),s = (false,(k : Int)) ∧ k ≤ l.length ∧ ((k = 0 ∧ last = -2) ∨ (0 < k ∧ last = (rdL l ((k - 1 : Nat) : Int)).fHi ∧ 0 ≤ last ∧ last ≤ 16384)) ∧ ck (-2) l = ck last (l.drop k))
   (fun _ out => match out with
    | .inl u => u.1 = false ∧ ck (-2) l = false
    | .inr _ => ck (-2) l = true)
   (fun s => l.length - s.2.toNat) (by
    rintro _ ⟨k,last,rfl,hk,hlast,hs⟩
    rcases Nat.lt_or_ge k l.length with hlt | hge
    ·rw [List.drop_eq_getElem_cons hlt,nE] at hs
     have hb : di l (false,(k : Int)) = some (if ((decide (l[k].fLo < last + 2) || decide (l[k].fHi < l[k].fLo)) || decide (16384 < l[k].fHi)) = true then .inr (.inl (false,(k : Int))) else .inl (false,((k + 1 : Nat) : Int))):=by
      unfold di; dsimp only
      rw [jw (by omega),gPo (by omega),cL hlt,kd,oB,gPo (by omega),kd,oB,gPo (by omega),gPo (by omega),cE (by omega),orB,oB]
      rcases hlast with ⟨rfl,rfl⟩ | ⟨h0,hla,g1,g2⟩
      ·rw [if_neg (show ¬ decide ((0 : Int) < ((0 : Nat) : Int)) = true by simp),oB,orB,oB]
       rw [show ((((!decide ((0 : Int) ≤ l[0].fLo ∧ l[0].fLo ≤ 16384)) || (!decide ((0 : Int) ≤ l[0].fHi ∧ l[0].fHi ≤ 16384))) || decide (l[0].fHi < l[0].fLo)) || false) = ((decide (l[0].fLo < -2 + 2) || decide (l[0].fHi < l[0].fLo)) || decide (16384 < l[0].fHi)) by
        rw [Bool.eq_iff_iff]
        simp only [Bool.or_eq_true,Bool.not_eq_true',decide_eq_true_eq,decide_eq_false_iff_not,Bool.false_eq_true,or_false]
        omega]
       exact apply_ite some _ _ _ |>.symm
      ·have e1 : w64 ((k : Int) - 1) = ((k - 1 : Nat) : Int):=by rw [eC (by omega) (by omega)]; omega
       rw [if_pos (show decide ((0 : Int) < (k : Int)) = true by rw [decide_eq_true_eq]; omega),gPo (by omega),e1,show max (0 : Int) ((k - 1 : Nat) : Int) = ((k - 1 : Nat) : Int) by omega,gPo (by omega),← hla,eC (by omega) (by omega),oB,orB,oB]
       rw [show ((((!decide (0 ≤ l[k].fLo ∧ l[k].fLo ≤ 16384)) || (!decide (0 ≤ l[k].fHi ∧ l[k].fHi ≤ 16384))) || decide (l[k].fHi < l[k].fLo)) || decide (l[k].fLo < last + 2)) = ((decide (l[k].fLo < last + 2) || decide (l[k].fHi < l[k].fLo)) || decide (16384 < l[k].fHi)) by
        rw [Bool.eq_iff_iff]
        simp only [Bool.or_eq_true,Bool.not_eq_true',decide_eq_true_eq,decide_eq_false_iff_not]
        omega]
       exact apply_ite some _ _ _ |>.symm
     rw [hb]
     by_cases hc : ((decide (l[k].fLo < last + 2) || decide (l[k].fHi < l[k].fLo)) || decide (16384 < l[k].fHi)) = true
     ·rw [if_pos hc]
      exact .inr ⟨_,rfl,rfl,by rw [hs,hc]; rfl⟩
     ·rw [if_neg hc]
      have hc2:=Bool.eq_false_iff.2 hc
      rw [Bool.or_eq_false_iff,Bool.or_eq_false_iff,decide_eq_false_iff_not,decide_eq_false_iff_not,decide_eq_false_iff_not] at hc2
      refine .inl ⟨_,rfl,⟨k + 1,l[k].fHi,rfl,hlt,.inr ⟨by omega,?_,by omega,by omega⟩,?_⟩,by dsimp only; omega,fun t h => h⟩
      ·rw [show k + 1 - 1 = k from rfl,cL hlt]
      ·rw [hs,Bool.eq_false_iff.2 hc,Bool.not_false,Bool.true_and]
    ·have hke : k = l.length:=by omega
     subst hke
     rw [List.drop_length] at hs
     refine .inr ⟨.inr (false,(l.length : Int)),?_,hs⟩
     unfold di; dsimp only
     rw [iY (by omega)]) (false,0) ⟨0,-2,rfl,Nat.zero_le _,.inl ⟨rfl,rfl⟩,rfl⟩
  obtain ⟨out,hr,hp⟩:=hinv
  rw [hr,oB]
  rcases out with u | u
  ·exact congrArg some (hp.1.trans hp.2.symm)
  ·exact congrArg some hp.symm
theorem ti {r : TR} (hp : 1 ≤ r.fL ∧ r.fL ≤ 16) (t : TT) : ia r t = some (trB r.fL t):=by
 unfold ia
 simp only [lV,oB,n3,eC (show -9223372036854775808 ≤ r.fL - 1 by omega) (show r.fL - 1 ≤ 9223372036854775807 by omega)]
 unfold trB
 refine congrArg some ?_
 simp only [Bool.not_or,Bool.not_not]
 rfl
theorem pS (r : TR) : fQ r = some (nj r):=by
 unfold fQ nj
 by_cases h1 : 1 ≤ r.fL ∧ r.fL ≤ 16
 ·rw [if_neg (by rw [Bool.or_eq_true,decide_eq_true_eq,decide_eq_true_eq]; omega),if_neg (show ¬¬(1 ≤ r.fL ∧ r.fL ≤ 16) by simp [h1])]
  by_cases h2 : r.fT.length > 48
  ·rw [if_pos (by rw [decide_eq_true_eq]; omega),if_pos h2]
  ·rw [if_neg (by rw [decide_eq_true_eq]; omega),if_neg h2]
   have hb:=pf (body:=eO r) (n:=r.fT.length) (pB r.fT (trB r.fL) (·.fID)) (e0:=0) (fun k hk => by
    unfold eO; dsimp only
    rw [jw (by omega),gPo (by omega),cL hk,kj,ti h1,oB]
    have hin:=pf (body:=eP r (0,(k : Int))) (n:=k) (fun j => if ((r.fT.getD j default).fID == r.fT[k].fID) = true then some 6 else none) (e0:=0) (fun j hj => by
     unfold eP; dsimp only
     rw [jw (by omega),gPo (by omega),gPo (by omega)]
     simp only [cL hk,cL (show j < r.fT.length by omega),dQ (show j < r.fT.length by omega),cE (show j < 9223372036854775807 by omega)]
     cases (r.fT[j].fID == r.fT[k].fID) <;> rfl) (by
     unfold eP; dsimp only
     rw [iY (by omega)])
    have hid:=rB (l:=r.fT) (f:=(·.fID)) hk
    unfold pB
    rw [dQ hk]
    cases hT : trB r.fL r.fT[k] with
    | false => rfl
    | true =>
     rw [if_neg (show ¬((!true) = true) by simp),if_neg (show ¬(true = false) by simp)]
     dsimp only at hid ⊢
     rcases hin with ⟨g1,g2⟩ | ⟨e,i,g1,g2⟩
     ·rw [g2,if_neg (fun h => hid.1 h g1),oB]
      dsimp only
      rw [cE (by omega)]
     ·rw [g2,if_pos (hid.2 (by rw [g1]; simp)),oB]
      dsimp only
      rw [six g1]) (by
    unfold eO; dsimp only
    rw [iY (by omega)])
   rcases hb with ⟨h3,h4⟩ | ⟨e,k,h3,h4⟩
   ·rw [h4,show o7 r.fT (trB r.fL) (·.fID) = none from h3]; rfl
   ·rw [h4,show o7 r.fT (trB r.fL) (·.fID) = some e from h3]; rfl
 ·rw [if_pos (by rw [Bool.or_eq_true,decide_eq_true_eq,decide_eq_true_eq]; omega),if_pos h1]
theorem sA {t : TT} (hs : ck (-2) t.fK = true) (hl : t.fK.length ≤ 1000000) (h : Int) : g8 t h = some (if rm (kK t.fK h) = true then kK t.fK h else -1):=by
 have hh:=oA hs (by omega)
 have hrun:=jc (body:=dN t) (fun k => (kK (t.fK.take k) h,(k : Int))) t.fK.length (t:=(kK t.fK h,(t.fK.length : Int))) (fun k hk => by
  have h1:=hh _ (List.getElem_mem hk)
  unfold dN; dsimp only
  have e : kK (t.fK.take (k + 1)) h = nk (kK (t.fK.take k) h) t.fK[k]:=by
   rw [List.take_succ_eq_append_getElem hk]
   unfold kK
   rw [List.foldl_append]
   rfl
  rw [jw (by omega),gPo (by omega),gPo (by omega),cL hk,lV,oB,gPo (by omega),cE (by omega),eC (by omega) (by omega),e]
  unfold nk
  by_cases hc : (t.fK[k]).fLo ≤ kK (t.fK.take k) h ∧ kK (t.fK.take k) h ≤ (t.fK[k]).fHi
  ·rw [if_pos (decide_eq_true hc),if_pos hc]
  ·rw [if_neg (by rw [decide_eq_true_eq]; exact hc),if_neg hc]) (by
  unfold dN; dsimp only
  rw [iY (by omega),List.take_length])
 have h0 : aT (dN t) (h,0) = _:=hrun
 unfold g8
 rw [h0,oB,kd,oB]
 dsimp only
 show (if (!rm (kK t.fK h)) = true then _ else _) = _
 cases rm (kK t.fK h) <;> rfl
theorem q9 {t : TT} (hl : t.fK.length ≤ 1000000) (h : Int) : ∃ x,gO t h = some x ∧ ie t h = some x:=by
 unfold gO ie
 rw [pP hl,n3,oB,oB,o2,kd,oB,oB,orB,oB]
 have e : (ck (-2) t.fK && decide (t.fK.length ≤ 4)) = jU t.fK:=rfl
 rw [e]
 by_cases hc : (!jU t.fK || !decide (0 ≤ h ∧ h ≤ 16384)) = true
 ·rw [if_pos hc,if_pos hc]
  exact ⟨_,rfl,rfl⟩
 ·rw [if_neg hc,if_neg hc]
  have hc2:=Bool.eq_false_iff.2 hc
  simp only [Bool.or_eq_false_iff,Bool.not_eq_false'] at hc2
  have hs : ck (-2) t.fK = true:=by
   have:=hc2.1
   unfold jU at this
   rw [Bool.and_eq_true] at this
   exact this.1
  rw [enter_eq hs hl,sA hs hl,oB,oB]
  dsimp only
  cases hb : rm (kK t.fK h) with
  | false => exact ⟨_,rfl,rfl⟩
  | true =>
   rw [if_neg (by simp),if_pos rfl]
   refine ⟨_,rfl,?_⟩
   unfold rm at hb
   rw [decide_eq_true_eq] at hb
   rw [if_neg (by rw [decide_eq_true_eq]; omega)]
theorem se {r : TR} (hl : r.fT.length < 1000000000) (id : Int) : hQ r id = some (jI r id):=by
 unfold hQ
 have:=kT (body:=dM r id) (fun k => ((0 : Int),(k : Int))) r.fT.length (fun k => if ((r.fT.getD k default).fID == id) = true then some (Sum.inl ((k : Int),(k : Int))) else none) (t0:=.inr (0,(r.fT.length : Int))) (fun k hk => by
  have c1 : decide ((k : Int) < ((r.fT.length : Nat) : Int)) = true:=decide_eq_true (by omega)
  have c2 : (0 : Int) ≤ (k : Int) ∧ (k : Int) < ((r.fT.length : Nat) : Int):=by omega
  unfold dM; dsimp only
  simp only [c1,if_true,gPo c2,cL hk,dQ hk,cE (show k < 9223372036854775807 by omega)]
  cases (r.fT[k].fID == id) <;> rfl) (by
  unfold dM; dsimp only
  rw [iY (by omega)])
 have h0 : aT (dM r id) (0,0) = _:=this
 rw [h0,oB]
 exact qC r.fT fun n => n.fID == id
theorem ru {l : List TSpan} {s : TSpan} (hl : l.length ≤ 11) (hsp : ck (-2) l = true) (hs : 0 ≤ s.fLo ∧ s.fLo ≤ s.fHi ∧ s.fHi ≤ 16384) : fm l s = f5 l s:=by
 obtain ⟨out,h1,h2,h3,h4⟩:=pv hl hsp hs
 obtain ⟨hrg,hpw⟩:=j3.1 hsp
 have hrun1:=jc (body:=dz l s) (fun k => ((k : Int),(l.take k).filter fun x => decide (x.fHi + 1 < s.fLo))) l.length (t:=((l.length : Int),l.filter fun x => decide (x.fHi + 1 < s.fLo))) (fun k hk => by
  have hx:=hrg _ (List.getElem_mem hk)
  have hle : ((l.take k).filter fun x => decide (x.fHi + 1 < s.fLo)).length ≤ k:=Nat.le_trans (List.length_filter_le _ _) (by rw [List.length_take]; omega)
  unfold dz; dsimp only
  rw [jw (by omega),gPo (by omega),cL hk,eC (by omega) (by omega),gPo (by omega),gPo (by omega),cE (by omega),List.take_succ_eq_append_getElem hk,List.filter_append]
  by_cases hc : (l[k]).fHi + 1 < s.fLo
  ·rw [if_pos (decide_eq_true hc),List.filter_cons_of_pos (by simpa using hc),kW]; rfl
  ·rw [if_neg (by simpa using hc),List.filter_cons_of_neg (by simpa using hc),List.filter_nil,List.append_nil]) (by
  unfold dz; dsimp only
  rw [iY (by omega),List.take_length])
 have r1 : aT (dz l s) (0,[]) = _:=hrun1
 have hinv:=g7 (body:=d8 l)
  (fun st => ∃ (k : Nat) (lo hi : Int),st = ((k : Int),lo,hi) ∧ k ≤ l.length ∧ lo ≤ s.fLo ∧ s.fHi ≤ hi ∧ (lo = s.fLo ∨ ∃ m ∈ l.take k,s.fLo ≤ m.fHi + 1 ∧ m.fLo ≤ s.fHi + 1 ∧ lo = m.fLo) ∧ (hi = s.fHi ∨ ∃ m ∈ l.take k,s.fLo ≤ m.fHi + 1 ∧ m.fLo ≤ s.fHi + 1 ∧ hi = m.fHi) ∧ (∀ m ∈ l.take k,s.fLo ≤ m.fHi + 1 → m.fLo ≤ s.fHi + 1 → lo ≤ m.fLo ∧ m.fHi ≤ hi))
  (fun _ t => ∃ lo hi : Int,t = ((l.length : Int),lo,hi) ∧ lo ≤ s.fLo ∧ s.fHi ≤ hi ∧ (lo = s.fLo ∨ ∃ m ∈ l,s.fLo ≤ m.fHi + 1 ∧ m.fLo ≤ s.fHi + 1 ∧ lo = m.fLo) ∧ (hi = s.fHi ∨ ∃ m ∈ l,s.fLo ≤ m.fHi + 1 ∧ m.fLo ≤ s.fHi + 1 ∧ hi = m.fHi) ∧ (∀ m ∈ l,s.fLo ≤ m.fHi + 1 → m.fLo ≤ s.fHi + 1 → lo ≤ m.fLo ∧ m.fHi ≤ hi))
  (fun st => l.length - st.1.toNat) (by
   rintro _ ⟨k,lo,hi,rfl,hk,g1,g2,g3,g4,g5⟩
   rcases Nat.lt_or_ge k l.length with hlt | hge
   ·have hx:=hrg _ (List.getElem_mem hlt)
    have hbef : ∀ m ∈ l.take k,m.fHi + 2 ≤ (l[k]).fLo ∧ m.fLo ≤ m.fHi:=fun m hm => by
     obtain ⟨i,hi',rfl⟩:=List.mem_iff_getElem.1 hm
     rw [List.length_take] at hi'
     rw [List.getElem_take]
     exact ⟨List.pairwise_iff_getElem.1 hpw i k (by omega) hlt (by omega),(hrg _ (List.getElem_mem (by omega))).2.1⟩
    have bhi : hi ≤ 16384:=by
     rcases g4 with e | ⟨m,hm,_,_,e⟩
     ·omega
     ·have:=hbef m hm; omega
    have hmem : ∀ m,m ∈ l.take (k + 1) ↔ m ∈ l.take k ∨ m = l[k]:=fun m => by
     rw [List.take_succ_eq_append_getElem hlt,List.mem_append,List.mem_singleton]
    have cond : (lo ≤ (l[k]).fHi + 1 ∧ (l[k]).fLo ≤ hi + 1) ↔ (s.fLo ≤ (l[k]).fHi + 1 ∧ (l[k]).fLo ≤ s.fHi + 1):=by
     constructor
     ·rintro ⟨c1,c2⟩
      refine ⟨?_,?_⟩
      ·rcases g3 with e | ⟨m,hm,f1,f2,e⟩
       ·omega
       ·have:=hbef m hm; omega
      ·rcases g4 with e | ⟨m,hm,f1,f2,e⟩
       ·omega
       ·have:=hbef m hm; omega
     ·rintro ⟨c1,c2⟩
      exact ⟨by omega,by omega⟩
    unfold d8; dsimp only
    rw [jw (by omega),gPo (by omega),cL hlt,eC (x:=(l[k]).fHi + 1) (by omega) (by omega),eC (x:=hi + 1) (by omega) (by omega),gPo (by omega),andB,oB,gPo (by omega),gPo (by omega),cE (by omega)]
    by_cases hc : s.fLo ≤ (l[k]).fHi + 1 ∧ (l[k]).fLo ≤ s.fHi + 1
    ·have hc':=cond.2 hc
     rw [if_pos (by rw [Bool.and_eq_true,decide_eq_true_eq,decide_eq_true_eq]; exact hc')]
     refine .inl ⟨_,rfl,⟨k + 1,_,_,rfl,hlt,by omega,by omega,?_,?_,fun m hm f1 f2 => ?_⟩,by dsimp only; omega,fun t h => h⟩
     ·rcases Int.le_total lo (l[k]).fLo with c | c
      ·rw [Int.min_eq_left c]
       rcases g3 with e | ⟨m,hm,f1,f2,e⟩
       ·exact .inl e
       ·exact .inr ⟨m,(hmem m).2 (.inl hm),f1,f2,e⟩
      ·rw [Int.min_eq_right c]
       exact .inr ⟨_,(hmem _).2 (.inr rfl),hc.1,hc.2,rfl⟩
     ·rcases Int.le_total hi (l[k]).fHi with c | c
      ·rw [Int.max_eq_right c]
       exact .inr ⟨_,(hmem _).2 (.inr rfl),hc.1,hc.2,rfl⟩
      ·rw [Int.max_eq_left c]
       rcases g4 with e | ⟨m,hm,f1,f2,e⟩
       ·exact .inl e
       ·exact .inr ⟨m,(hmem m).2 (.inl hm),f1,f2,e⟩
     ·rcases (hmem m).1 hm with hm | rfl
      ·have:=g5 m hm f1 f2
       omega
      ·omega
    ·rw [if_neg (by rw [Bool.and_eq_true,decide_eq_true_eq,decide_eq_true_eq]; exact fun h => hc (cond.1 h))]
     refine .inl ⟨_,rfl,⟨k + 1,lo,hi,rfl,hlt,g1,g2,?_,?_,fun m hm f1 f2 => ?_⟩,by dsimp only; omega,fun t h => h⟩
     ·rcases g3 with e | ⟨m,hm,f⟩
      ·exact .inl e
      ·exact .inr ⟨m,(hmem m).2 (.inl hm),f⟩
     ·rcases g4 with e | ⟨m,hm,f⟩
      ·exact .inl e
      ·exact .inr ⟨m,(hmem m).2 (.inl hm),f⟩
     ·rcases (hmem m).1 hm with hm | rfl
      ·exact g5 m hm f1 f2
      ·exact absurd ⟨f1,f2⟩ hc
   ·have hke : k = l.length:=by omega
    subst hke
    rw [List.take_length] at g3 g4 g5
    unfold d8; dsimp only
    rw [iY (by omega)]
    exact .inr ⟨_,rfl,lo,hi,rfl,g1,g2,g3,g4,g5⟩) (0,s.fLo,s.fHi) ⟨0,_,_,rfl,Nat.zero_le _,Int.le_refl _,Int.le_refl _,.inl rfl,.inl rfl,fun m hm => by simp at hm⟩
 obtain ⟨u,r2,lo,hi,rfl,g1,g2,g3,g4,g5⟩:=hinv
 have bhi : hi ≤ 16384:=by
  rcases g4 with e | ⟨m,hm,_,_,e⟩
  ·omega
  ·have:=hrg m hm; omega
 have blo : 0 ≤ lo:=by
  rcases g3 with e | ⟨m,hm,_,_,e⟩
  ·omega
  ·have:=hrg m hm; omega
 have fl : (l.filter fun x => decide (x.fHi + 1 < s.fLo)).length ≤ l.length:=List.length_filter_le _ _
 have hrun3:=jc (body:=dw l ((l.length : Int),lo,hi)) (fun k => ((k : Int),((l.filter fun x => decide (x.fHi + 1 < s.fLo)) ++ [⟨lo,hi⟩]) ++ (l.take k).filter fun x => decide (hi + 1 < x.fLo))) l.length (t:=((l.length : Int),((l.filter fun x => decide (x.fHi + 1 < s.fLo)) ++ [⟨lo,hi⟩]) ++ l.filter fun x => decide (hi + 1 < x.fLo))) (fun k hk => by
  have hle : ((l.take k).filter fun x => decide (hi + 1 < x.fLo)).length ≤ k:=Nat.le_trans (List.length_filter_le _ _) (by rw [List.length_take]; omega)
  unfold dw; dsimp only
  rw [jw (by omega),gPo (by omega),cL hk,eC (by omega) (by omega),gPo (by omega),gPo (by simp only [List.length_append,List.length_cons,List.length_nil]; omega),cE (by omega),List.take_succ_eq_append_getElem hk,List.filter_append]
  by_cases hc : hi + 1 < (l[k]).fLo
  ·rw [if_pos (decide_eq_true hc),List.filter_cons_of_pos (by simpa using hc),kW,List.append_assoc]; rfl
  ·rw [if_neg (by simpa using hc),List.filter_cons_of_neg (by simpa using hc),List.filter_nil,List.append_nil]) (by
  unfold dw; dsimp only
  rw [iY (by omega),List.take_length])
 have r3 : aT (dw l ((l.length : Int),lo,hi)) (0,(l.filter fun x => decide (x.fHi + 1 < s.fLo)) ++ [⟨lo,hi⟩]) = some ((l.length : Int),((l.filter fun x => decide (x.fHi + 1 < s.fLo)) ++ [⟨lo,hi⟩]) ++ l.filter fun x => decide (hi + 1 < x.fLo)):=by
  rw [List.take_zero,List.filter_nil,List.append_nil] at hrun3
  exact hrun3
 unfold fm
 rw [r1,oB,r2,oB,gPo (by dsimp only; omega)]
 dsimp only
 rw [r3,oB,h1]
 dsimp only
 refine congrArg some (oo (last:=-2) (j3.2 ⟨fun x hx => ?_,?_⟩) h2 fun n => ?_)
 ·rcases List.mem_append.1 hx with hx | hx
  ·rcases List.mem_append.1 hx with hx | hx
   ·exact hrg x (List.mem_filter.1 hx).1
   ·rw [List.mem_singleton.1 hx]
    exact ⟨by dsimp only; omega,by dsimp only; omega,bhi⟩
  ·exact hrg x (List.mem_filter.1 hx).1
 ·have alo : ∀ x ∈ l,x.fHi + 1 < s.fLo → x.fHi + 2 ≤ lo:=fun x hx hc => by
   have hx2:=hrg x hx
   rcases g3 with e | ⟨m,hm,f1,f2,e⟩
   ·omega
   ·have:=hrg m hm
    rcases qR hpw hx hm with rfl | c | c <;> omega
  rw [List.pairwise_append,List.pairwise_append]
  refine ⟨⟨hpw.sublist List.filter_sublist,List.pairwise_singleton _ _,fun x hx z hz => ?_⟩,hpw.sublist List.filter_sublist,fun x hx z hz => ?_⟩
  ·rw [List.mem_singleton.1 hz]
   exact alo x (List.mem_filter.1 hx).1 (of_decide_eq_true (List.mem_filter.1 hx).2)
  ·have hz2:=of_decide_eq_true (List.mem_filter.1 hz).2
   rcases List.mem_append.1 hx with hx | hx
   ·have:=alo x (List.mem_filter.1 hx).1 (of_decide_eq_true (List.mem_filter.1 hx).2)
    omega
   ·rw [List.mem_singleton.1 hx]
    show hi + 2 ≤ _
    omega
 ·rw [h3,gg,gg,li]
  dsimp only
  constructor
  ·rintro ((⟨x,hx,g⟩ | g) | ⟨x,hx,g⟩)
   ·exact .inl ⟨x,(List.mem_filter.1 hx).1,g⟩
   ·by_cases c1 : n < s.fLo
    ·rcases g3 with e | ⟨m,hm,f1,f2,e⟩
     ·omega
     ·exact .inl ⟨m,hm,by omega,by omega⟩
    ·by_cases c2 : s.fHi < n
     ·rcases g4 with e | ⟨m,hm,f1,f2,e⟩
      ·omega
      ·exact .inl ⟨m,hm,by omega,by omega⟩
     ·exact .inr ⟨by omega,by omega⟩
   ·exact .inl ⟨x,(List.mem_filter.1 hx).1,g⟩
  ·rintro (⟨x,hx,g⟩ | g)
   ·by_cases c1 : x.fHi + 1 < s.fLo
    ·exact .inl (.inl ⟨x,List.mem_filter.2 ⟨hx,decide_eq_true c1⟩,g⟩)
    ·by_cases c2 : x.fLo ≤ s.fHi + 1
     ·have:=g5 x hx (by omega) c2
      exact .inl (.inr ⟨by omega,by omega⟩)
     ·refine .inr ⟨x,List.mem_filter.2 ⟨hx,decide_eq_true ?_⟩,g⟩
      rcases g4 with e | ⟨m,hm,f1,f2,e⟩
      ·omega
      ·have:=hrg m hm
       have:=hrg x hx
       rcases qR hpw hx hm with rfl | c | c <;> omega
   ·exact .inl (.inr ⟨by omega,by omega⟩)
theorem sX {x : TR} (hl : x.fT.length ≤ 1000000) (hr : ∀ t ∈ x.fT,t.fK.length ≤ 1000000) : d6 x x = some true:=by
 have hrun:=jc (body:=cr x x) (fun k => (false,(k : Int))) x.fT.length (t:=.inr (false,(x.fT.length : Int))) (fun k hk => by
  have h1:=hr _ (List.getElem_mem hk)
  have hin:=jc (body:=cq x x (false,(k : Int))) (fun j => (false,(j : Int))) (x.fT[k]).fK.length (t:=.inr (false,((x.fT[k]).fK.length : Int))) (fun j hj => by
   unfold cq; dsimp only
   rw [cL hk,jw (by omega),gPo (by omega),gPo (by omega),if_neg (by simp),cE (by omega)]) (by
   unfold cq; dsimp only
   rw [cL hk,iY (by omega)])
  have h0 : aT (cq x x (false,(k : Int))) (false,0) = _:=hin
  unfold cr; dsimp only
  rw [jw (by omega),gPo (by omega),gPo (by omega),if_neg (by simp),h0,oB]
  dsimp only
  rw [cE (by omega)]) (by
  unfold cr; dsimp only
  rw [iY (by omega)])
 have h0 : aT (cr x x) (false,0) = _:=hrun
 unfold d6
 rw [if_neg (by simp),h0,oB]
theorem so {r : TR} (hr : ∀ t ∈ r.fT,t.fK.length ≤ 1000000) (id : Int) (s : TSpan) : ∃ x e,gU r id s = some (x,e) ∧ iM r id s = some ⟨x,e⟩ ∧ x.fT.length ≤ 48 ∧ ∀ t ∈ x.fT,t.fK.length ≤ 1000000:=by
 have nil : ([] : List TT).length ≤ 48 ∧ ∀ t ∈ ([] : List TT),t.fK.length ≤ 1000000:=⟨by simp,fun t h => by cases h⟩
 unfold iM
 rw [pS,oB]
 by_cases hv : nj r = 0
 ·have hR:=p8.1 hv
  have hrl:=hR.len
  rw [if_neg (by simp [hv]),se (by omega),oB]
  rcases Int.lt_or_le (jI r id) 0 with hneg | hpos
  ·rw [if_pos (decide_eq_true hneg)]
   refine ⟨_,_,?_,rfl,nil⟩
   unfold gU
   rw [mH hr,oB,if_neg (by simp [hv]),oI (by omega),oB,if_pos (decide_eq_true hneg)]
  ·rw [if_neg (by rw [decide_eq_true_eq]; omega)]
   obtain ⟨k,hk,hid⟩ : ∃ k : Nat,∃ h : k < r.fT.length,(r.fT[k]).fID = id ∧ jI r id = (k : Int):=by
    obtain ⟨t,ht,he⟩:=qq.1 hpos
    obtain ⟨k,hk,rfl⟩:=List.mem_iff_getElem.1 ht
    have he2 : (r.fT[k]).fID = id:=by simpa using he
    refine ⟨k,hk,he2,?_⟩
    rw [← he2]
    exact qa hR.once hk
   obtain ⟨hid,hti⟩:=hid
   have ht:=hR.trk _ (List.getElem_mem hk)
   have hfw:=ht.few
   rw [hti,kd,kd,oB,oB]
   unfold gU
   rw [mH hr,oB,if_neg (by simp [hv]),oI (by omega),hti,oB,if_neg (by simp),o2,o2,oB,oB,orB,oB,orB,oB]
   by_cases hs : ((decide (s.fHi < s.fLo) || !decide (0 ≤ s.fLo ∧ s.fLo ≤ 16384)) || !decide (0 ≤ s.fHi ∧ s.fHi ≤ 16384)) = true
   ·rw [if_pos hs,if_pos (by
     simp only [Bool.or_eq_true,Bool.not_eq_true',decide_eq_true_eq,decide_eq_false_iff_not] at hs ⊢
     omega)]
    exact ⟨_,_,rfl,rfl,nil⟩
   ·rw [if_neg hs,if_neg (by
     simp only [Bool.or_eq_true,Bool.not_eq_true',decide_eq_true_eq,decide_eq_false_iff_not] at hs ⊢
     omega)]
    have hs2:=Bool.eq_false_iff.2 hs
    simp only [Bool.or_eq_false_iff,Bool.not_eq_false',decide_eq_true_eq,decide_eq_false_iff_not] at hs2
    obtain ⟨out,h1,h2,h3,h4⟩:=pv (l:=(r.fT[k]).fK) (s:=s) (by omega) ht.spans (by omega)
    have hrj : fm (r.fT[k]).fK s = some out:=by rw [ru (by omega) ht.spans (by omega),h1]
    unfold bj
    rw [gPo (by omega),oB,List.nil_append]
    have hrun:=jc (body:=fg r.fT) (fun i => ((i : Int),r.fT)) r.fT.length (t:=((r.fT.length : Int),r.fT)) (fun i hi => by
     have:=(hR.trk _ (List.getElem_mem hi)).few
     unfold fg bE; dsimp only
     rw [jw (by omega),gPo (by omega),cL hi,gPo (by omega),oB,List.nil_append,gPo (by omega),cE (by omega),Int.toNat_natCast,kj,List.set_getElem_self]) (by
     unfold fg; dsimp only
     rw [iY (by omega)])
    have h0 : aT (fg r.fT) (0,r.fT) = _:=hrun
    rw [h0,oB]
    dsimp only
    rw [gPo (by omega),cL hk,h1,oB,gPo (by omega),gPo (by omega),Int.toNat_natCast]
    have eset : r.fT.set k (TT.mk (r.fT[k]).fID (r.fT[k]).fFrom (r.fT[k]).fTo (r.fT[k]).fLong (r.fT[k]).fToll out) = (jD r k out).fT:=by unfold jD; rw [dQ hk]
    have erd : rdL (r.fT.set k (TT.mk (r.fT[k]).fID (r.fT[k]).fFrom (r.fT[k]).fTo (r.fT[k]).fLong (r.fT[k]).fToll out)) (k : Int) = TT.mk (r.fT[k]).fID (r.fT[k]).fFrom (r.fT[k]).fTo (r.fT[k]).fLong (r.fT[k]).fToll out:=by
     rw [cL (by rw [List.length_set]; exact hk),List.getElem_set_self]
    rw [erd]
    dsimp only
    have hlenS : (jD r k out).fT.length = r.fT.length:=by unfold jD; exact List.length_set
    have hinv:=g7 (body:=gK r s (k : Int))
     (fun st => ∃ i : Nat,st = ((i : Int),0,(jD r k out).fT.take i) ∧ i ≤ r.fT.length ∧ (4 < out.length → i ≤ k))
     (fun _ o => match o with
      | .inl u => u.2.1 = 2 ∧ 4 < out.length
      | .inr u => u.2.2 = (jD r k out).fT ∧ out.length ≤ 4)
     (fun st => r.fT.length - st.1.toNat) (by
      rintro _ ⟨i,rfl,hi,h4i⟩
      unfold gK; dsimp only
      rcases Nat.lt_or_ge i r.fT.length with hlt | hge
      ·have hfi:=(hR.trk _ (List.getElem_mem hlt)).few
       have htl : ((jD r k out).fT.take i).length ≤ i:=by rw [List.length_take]; omega
       have hts : (jD r k out).fT.take (i + 1) = (jD r k out).fT.take i ++ [(jD r k out).fT[i]'(by omega)]:=List.take_succ_eq_append_getElem (by omega)
       have hget : (jD r k out).fT[i]'(by omega) = if i = k then (TT.mk (r.fT[k]).fID (r.fT[k]).fFrom (r.fT[k]).fTo (r.fT[k]).fLong (r.fT[k]).fToll out) else r.fT[i]:=by
        have : ∀ (L : List TT) (e : L = r.fT.set k (TT.mk (r.fT[k]).fID (r.fT[k]).fFrom (r.fT[k]).fTo (r.fT[k]).fLong (r.fT[k]).fToll out)) (h : i < L.length),L[i] = if i = k then (TT.mk (r.fT[k]).fID (r.fT[k]).fFrom (r.fT[k]).fTo (r.fT[k]).fLong (r.fT[k]).fToll out) else r.fT[i]:=by
         intro L e h
         subst e
         rw [List.getElem_set]
         by_cases c : k = i
         ·rw [if_pos c,if_pos c.symm]
         ·rw [if_neg c,if_neg fun c' => c c'.symm]
        exact this _ eset.symm _
       rw [jw (by omega),gPo (by omega),cL hlt,gPo (by omega),List.nil_append,cE (by omega)]
       by_cases hik : i = k
       ·subst hik
        rw [if_pos (by simp),hrj,oB]
        by_cases hc : 4 < ((out.length : Nat) : Int)
        ·rw [if_pos (decide_eq_true hc)]
         exact .inr ⟨_,rfl,rfl,by omega⟩
        ·rw [if_neg (by simpa using hc),gPo (by omega)]
         refine .inl ⟨_,rfl,⟨i + 1,?_,hlt,fun h => by omega⟩,by dsimp only; omega,fun t h => h⟩
         rw [hts,hget,if_pos rfl]
       ·rw [if_neg (by simp; omega),gPo (by omega)]
        refine .inl ⟨_,rfl,⟨i + 1,?_,hlt,fun h => by have:=h4i h; omega⟩,by dsimp only; omega,fun t h => h⟩
        rw [hts,hget,if_neg hik,kj]
      ·have hie : i = r.fT.length:=by omega
       subst hie
       rw [iY (by omega)]
       refine .inr ⟨_,rfl,?_,?_⟩
       ·exact List.take_of_length_le (by omega)
       ·by_cases c : 4 < out.length
        ·have:=h4i c; omega
        ·omega) (0,0,[]) ⟨0,rfl,Nat.zero_le _,fun _ => Nat.zero_le _⟩
    obtain ⟨o,r2,hp⟩:=hinv
    rw [r2,oB]
    rcases o with u | u
    ·dsimp only at hp ⊢
     rw [if_pos (by rw [decide_eq_true_eq]; omega),hp.1]
     exact ⟨_,_,rfl,rfl,nil⟩
    ·dsimp only at hp ⊢
     rw [if_neg (by rw [decide_eq_true_eq]; omega),hp.1,eset]
     have hG:=rv hR hk h2 hp.2
     exact ⟨_,_,rfl,rfl,hG.len,fun t ht => by have:=(hG.trk t ht).few; omega⟩
 ·rw [if_pos (by simpa using hv)]
  refine ⟨_,_,?_,rfl,nil⟩
  unfold gU
  rw [mH hr,oB,if_pos (by simpa using hv)]
set_option linter.unusedSimpArgs false
theorem mM : dK = some true:=by kernel_rfl
set_option linter.unusedSimpArgs false
theorem CartTracks_true (r : TR) (t : TT) (hour id : Int) (s : TSpan) (hr : rG r) (h1 : TTrack_rg t) (h2 : bP hour) (h3 : bP id) (h4 : TSpan_rg s) : df r t hour id s = some true:=by
 obtain ⟨b,hb,hfew⟩:=few_eq (r:=r) hr.2.1
 unfold df
 rw [hb,oB]
 by_cases hc : ((!b) || decide (12 < ((t.fK.length : Nat) : Int))) = true
 ·rw [if_pos hc,mM]; rfl
 ·rw [if_neg hc]
  simp only [Bool.not_eq_true,Bool.or_eq_false_iff,Bool.not_eq_false',decide_eq_false_iff_not] at hc
  obtain ⟨rfl,hn⟩:=hc
  have hcl : ∀ t ∈ r.fT,t.fK.length ≤ 1000000:=fun t ht => by have:=hfew rfl t ht; omega
  obtain ⟨x,e1,e2⟩:=q9 (t:=t) (by omega) hour
  obtain ⟨y,e,e3,e4,e5,e6⟩:=so hcl id s
  rw [e1,e2,e3,e4,oB,oB,oB,oB,mM,oB,if_pos rfl,mH hcl,pS,oB,oB,oB]
  rw [if_pos (by simp)]
  dsimp only
  rw [sX (by omega) e6]
  simp
end Go.Proofs.YthndghnkebboaabGreat
