import Derived.Test.YthndghnkebboaabGreatP
import Derived.Test.YthndghnkebboaabGreatGz
import Derived.Test.YthndghnkebboaabGreatGy
set_option linter.unusedSimpArgs false
set_option linter.unusedVariables false
namespace Go.Proofs.YthndghnkebboaabGreat
theorem rg {S T : Type} {body : S → Option (S ⊕ T)} (st : Nat → S) : ∀ (n : Nat),(∀ k,k < n → body (st k) = some (.inl (st (k + 1)))) → aT body (st 0) = aT body (st n)
 | 0,_ => rfl
 | n + 1,h => by rw [rg st n (fun k hk => h k (by omega)),fv (h n (by omega))]
theorem mI {S T : Type} {body : S → Option (S ⊕ T)} (st : Nat → S) (n : Nat) {t : T} (h : ∀ k,k < n → body (st k) = some (.inl (st (k + 1)))) (hs : body (st n) = some (.inr t)) : aT body (st 0) = some t:=by
 rw [rg st n h,bZ hs]
theorem kA {S T : Type} {body : S → Option (S ⊕ T)} (st : Nat → S) (n : Nat) (R : Nat → Option T) {t0 : T} (h : ∀ k,k < n → body (st k) = some (match R k with | none => .inl (st (k + 1)) | some t => .inr t)) (hs : body (st n) = some (.inr t0)) :
  aT body (st 0) = some (((List.range n).findSome? R).getD t0):=by
 have key : ∀ c k,k + c = n → aT body (st k) = some (((List.range' k c).findSome? R).getD t0):=by
  intro c
  induction c with
  | zero =>
   intro k hk
   have : k = n:=by omega
   subst this
   rw [bZ hs]
   rfl
  | succ c ih =>
   intro k hk
   have hb:=h k (by omega)
   rw [List.range'_succ]
   cases hR : R k with
   | none =>
    rw [hR] at hb
    rw [fv hb,ih (k + 1) (by omega)]
    simp [hR]
   | some t =>
    rw [hR] at hb
    rw [bZ hb]
    simp [hR]
 have:=key n 0 (by omega)
 rw [this,List.range_eq_range']
theorem jz {α : Type} {p : Prop} [Decidable p] {x y : α} (h : p) : (if decide p = true then x else y) = x:=by rw [if_pos (decide_eq_true h)]
theorem kj {α : Type} {p : Prop} [Decidable p] {x y : α} (h : ¬p) : (if decide p = true then x else y) = y:=by rw [if_neg (by rw [decide_eq_false h]; exact Bool.false_ne_true)]
theorem bW {α : Type} [Inhabited α] {xs : List α} {k : Nat} (h : k < xs.length) : rdL xs (k : Int) = xs[k]:=by
 unfold rdL
 rw [Int.toNat_natCast,List.getD_eq_getElem?_getD,List.getElem?_eq_getElem h]
 rfl
theorem du {k : Nat} (h : k < 9223372036854775807) : w64 ((k : Int) + 1) = ((k + 1 : Nat) : Int):=by
 rw [dk (by omega) (by omega)]; rfl
theorem gi {T : Type} {R : Nat → Option T} {n : Nat} (t0 : T) : ((∀ k,k < n → R k = none) ∧ ((List.range n).findSome? R).getD t0 = t0) ∨ ∃ k t,k < n ∧ R k = some t ∧ (∀ j,j < k → R j = none) ∧ ((List.range n).findSome? R).getD t0 = t:=by
 induction n with
 | zero => exact .inl ⟨fun k hk => by omega,rfl⟩
 | succ n ih =>
  rw [List.range_succ,List.findSome?_append]
  rcases ih with ⟨h1,h2⟩ | ⟨k,t,hk,hR,hj,h2⟩
  ·have h3 : (List.range n).findSome? R = none:=List.findSome?_eq_none_iff.2 (fun x hx => h1 x (List.mem_range.1 hx))
   rw [h3]
   cases hR : R n with
   | none => exact .inl ⟨fun k hk => by
    rcases Nat.lt_or_ge k n with h | h
    ·exact h1 k h
    ·rw [show k = n by omega]; exact hR,by simp [hR]⟩
   | some t => exact .inr ⟨n,t,by omega,hR,h1,by simp [hR]⟩
  ·refine .inr ⟨k,t,by omega,hR,hj,?_⟩
   have h3 : ((List.range n).findSome? R) = some t:=by
    cases hf : (List.range n).findSome? R with
    | none => have:=List.findSome?_eq_none_iff.1 hf k (List.mem_range.2 hk); rw [hR] at this; cases this
    | some u => rw [hf] at h2; exact congrArg some h2
   rw [h3]
   rfl
theorem qt {T : Type} {R : Nat → Option T} {n : Nat} {t0 : T} (h : ∀ k,k < n → R k = none) : ((List.range n).findSome? R).getD t0 = t0:=by
 rw [List.findSome?_eq_none_iff.2 (fun x hx => h x (List.mem_range.1 hx))]; rfl
theorem qo {T : Type} {R : Nat → Option T} {n : Nat} {t0 t : T} (k : Nat) (hk : k < n) (hR : R k = some t) (hj : ∀ j,j < k → R j = none) : ((List.range n).findSome? R).getD t0 = t:=by
 rcases gi (R:=R) (n:=n) t0 with ⟨h,_⟩ | ⟨k',t',hk',hR',hj',h⟩
 ·rw [h k hk] at hR; cases hR
 ·rcases Nat.lt_trichotomy k k' with h' | h' | h'
  ·rw [hj' k h'] at hR; cases hR
  ·subst h'; rw [hR] at hR'; cases hR'; exact h
  ·rw [hj k' h'] at hR'; cases hR'
def qE {α : Type} [Inhabited α] (l : List α) (q : α → Bool) : Int:=((List.range l.length).findSome? fun k => if q (l.getD k default) = true then some (k : Int) else none).getD (-1)
theorem fJ {α : Type} [Inhabited α] {l : List α} {k : Nat} (h : k < l.length) : l.getD k default = l[k]:=by
 rw [List.getD_eq_getElem?_getD,List.getElem?_eq_getElem h]; rfl
theorem nV {α : Type} [Inhabited α] (l : List α) (q : α → Bool) : ((∀ x ∈ l,q x = false) ∧ qE l q = -1) ∨ ∃ k,∃ h : k < l.length,q l[k] = true ∧ (∀ j,(hj : j < k) → q (l[j]'(by omega)) = false) ∧ qE l q = (k : Int):=by
 unfold qE
 rcases gi (R:=fun k => if q (l.getD k default) = true then some (k : Int) else none) (n:=l.length) (-1) with ⟨h,h2⟩ | ⟨k,t,hk,hR,hj,h2⟩
 ·refine .inl ⟨fun x hx => ?_,h2⟩
  obtain ⟨k,hk,rfl⟩:=List.mem_iff_getElem.1 hx
  have:=h k hk
  rw [fJ hk] at this
  cases hq : q l[k]
  ·rfl
  ·rw [hq] at this; simp at this
 ·rw [fJ hk] at hR
  cases hq : q l[k] with
  | false => rw [hq] at hR; simp at hR
  | true =>
   rw [hq] at hR
   simp only [if_true] at hR
   refine .inr ⟨k,hk,hq,fun j hj' => ?_,h2.trans (Option.some.inj hR).symm⟩
   have:=hj j hj'
   rw [fJ (by omega)] at this
   cases hq' : q (l[j]'(by omega))
   ·rfl
   ·rw [hq'] at this; simp at this
theorem idxI_ret {α : Type} [Inhabited α] (l : List α) (q : α → Bool) : (match ((List.range l.length).findSome? (fun k => if q (l.getD k default) = true then some (Sum.inl ((k : Int),(k : Int)) : (Int × Int) ⊕ (Int × Int)) else none)).getD (.inr (0,(l.length : Int))) with | .inl u => some u.1 | .inr _ => some (-1)) = some (qE l q):=by
 unfold qE
 rcases gi (R:=fun k => if q (l.getD k default) = true then some (Sum.inl ((k : Int),(k : Int)) : (Int × Int) ⊕ (Int × Int)) else none) (n:=l.length) (.inr (0,(l.length : Int))) with ⟨hn,h2⟩ | ⟨k,t,hk,hR,hj,h2⟩
 ·rw [h2,qt (fun k hk => by have:=hn k hk; split at this <;> simp_all)]
 ·rw [h2]
  have hq : q (l.getD k default) = true:=by
   by_cases hq : q (l.getD k default) = true
   ·exact hq
   ·rw [if_neg hq] at hR; cases hR
  rw [if_pos hq] at hR
  cases hR
  rw [qo k hk (by rw [if_pos hq]) (fun j hj' => by have:=hj j hj'; split at this <;> simp_all)]
theorem lT {α : Type} [Inhabited α] {l : List α} {f : α → Int} (hd : (l.map f).Nodup) {k : Nat} (hk : k < l.length) : qE l (fun x => f x == f l[k]) = (k : Int):=by
 rcases nV l (fun x => f x == f l[k]) with ⟨h,_⟩ | ⟨j,hj,hq,_,h2⟩
 ·have:=h l[k] (List.getElem_mem hk); simp at this
 ·rw [h2]
  have he : f l[j] = f l[k]:=by simpa using hq
  have hpw:=List.pairwise_iff_getElem.1 hd
  rcases Nat.lt_trichotomy j k with h3 | h3 | h3
  ·have:=hpw j k (by simpa using hj) (by simpa using hk) h3
   simp only [List.getElem_map] at this
   exact absurd he this
  ·rw [h3]
  ·have:=hpw k j (by simpa using hk) (by simpa using hj) h3
   simp only [List.getElem_map] at this
   exact absurd he.symm this
theorem idxI_lt {α : Type} [Inhabited α] {l : List α} {f : α → Int} {k : Nat} (hk : k < l.length) : qE l (fun x => f x == f l[k]) < (k : Int) ↔ ∃ j,∃ h : j < k,f (l[j]'(by omega)) = f l[k]:=by
 rcases nV l (fun x => f x == f l[k]) with ⟨h,_⟩ | ⟨j,hj,hq,hm,h2⟩
 ·have:=h l[k] (List.getElem_mem hk); simp at this
 ·rw [h2]
  have he : f l[j] = f l[k]:=by simpa using hq
  refine ⟨fun h => ⟨j,by omega,he⟩,fun ⟨i,hi,hie⟩ => ?_⟩
  rcases Nat.lt_or_ge j k with h3 | h3
  ·omega
  ·exfalso
   have:=hm i (by omega)
   rw [hie] at this
   simp at this
theorem jV {α : Type} [Inhabited α] {l : List α} {f : α → Int} : (∀ k,(hk : k < l.length) → ¬ qE l (fun x => f x == f l[k]) < (k : Int)) ↔ (l.map f).Nodup:=by
 refine ⟨fun h => ?_,fun h k hk => by rw [lT h hk]; omega⟩
 rw [List.Nodup,List.pairwise_iff_getElem]
 intro i j hi hj hij
 simp only [List.length_map] at hi hj
 simp only [List.getElem_map]
 intro e
 exact h j hj ((idxI_lt hj).2 ⟨i,hij,e⟩)
theorem pA (x : TSpan) : TSpan.mk x.fLo x.fHi = x:=rfl
theorem ru (x : TO) : TO.mk x.fID x.fH x.fD x.fW = x:=rfl
theorem TBay_eta (x : TBay) : TBay.mk x.fID x.fHour x.fD = x:=rfl
theorem nZ (x : TT) : TT.mk x.fID x.fFrom x.fTo x.fLong x.fToll x.fK = x:=rfl
theorem ox {l : List TT} {f : TT → Option Bool} {q : TT → Bool} (hl : l.length < 1000000000) (h : ∀ x ∈ l,f x = some (q x)) : bp l f = some (qE l q):=by
 unfold bp
 have:=kA (body:=aX l f) (fun k => ((0 : Int),(k : Int))) l.length (fun k => if q (l.getD k default) = true then some (Sum.inl ((k : Int),(k : Int))) else none) (t0:=.inr (0,(l.length : Int))) (fun k hk => by
  have c1 : decide ((k : Int) < ((l.length : Nat) : Int)) = true:=decide_eq_true (by omega)
  have c2 : (0 : Int) ≤ (k : Int) ∧ (k : Int) < ((l.length : Nat) : Int):=by omega
  unfold aX; dsimp only
  simp only [c1,if_true,gPo c2,bW hk,nZ,h _ (List.getElem_mem hk),oB,fJ hk,du (show k < 9223372036854775807 by omega)]
  cases q l[k] <;> rfl) (by
  unfold aX; dsimp only
  rw [kj (by omega)])
 have h0 : aT (aX l f) (0,0) = _:=this
 rw [h0,oB]
 exact idxI_ret l q
theorem iI (n lo hi : Int) : bk n lo hi = some (decide (lo ≤ n ∧ n ≤ hi)):=by unfold bk; rw [Bool.decide_and]
theorem nf (n : Int) : dF n = some (decide (0 ≤ n ∧ n ≤ 16384)):=by unfold dF; rw [iI]; rfl
def bayI (y : TY) (id : Int) : Int:=qE y.fB fun n => n.fID == id
set_option linter.unusedSimpArgs false
open Classical
def sm : Nat → (Nat → Int) → Int
 | 0,_ => 0
 | n + 1,f => sm n f + f n
theorem eY {f g : Nat → Int} : ∀ {n : Nat},(∀ i,i < n → f i = g i) → sm n f = sm n g
 | 0,_ => rfl
 | n + 1,h => by unfold sm; rw [eY fun i hi => h i (by omega),h n (by omega)]
theorem nK {f g : Nat → Int} : ∀ {n : Nat},(∀ i,i < n → f i ≤ g i) → sm n f ≤ sm n g
 | 0,_ => Int.le_refl _
 | n + 1,h => by
  have h1:=nK (f:=f) (g:=g) (n:=n) fun i hi => h i (by omega)
  have h2:=h n (by omega)
  unfold sm; omega
theorem sm_add (f g : Nat → Int) : ∀ n,sm n (fun i => f i + g i) = sm n f + sm n g
 | 0 => rfl
 | n + 1 => by have:=sm_add f g n; unfold sm; dsimp only; omega
theorem sm_sub (f g : Nat → Int) : ∀ n,sm n (fun i => f i - g i) = sm n f - sm n g
 | 0 => rfl
 | n + 1 => by have:=sm_sub f g n; unfold sm; dsimp only; omega
theorem o1 : ∀ {n : Nat} {f : Nat → Int},(∀ i,i < n → f i = 0) → sm n f = 0
 | 0,_,_ => rfl
 | n + 1,f,h => by have h1:=o1 (n:=n) (f:=f) fun i hi => h i (by omega); have h2:=h n (by omega); unfold sm; omega
theorem kN {n : Nat} {f : Nat → Int} (h : ∀ i,i < n → 0 ≤ f i) : 0 ≤ sm n f:=by
 have:=nK (f:=fun _ => 0) h
 rwa [o1 (f:=fun _ => 0) fun _ _ => rfl] at this
theorem nm {f g : Nat → Int} {k : Nat} : ∀ {n : Nat},k < n → (∀ i,i < n → i ≠ k → g i = f i) → sm n g = sm n f - f k + g k
 | 0,h,_ => by omega
 | n + 1,h,he => by
  unfold sm
  rcases Nat.lt_or_ge k n with hk | hk
  ·have:=nm hk (fun i hi => he i (by omega))
   have h2:=he n (by omega) (by omega)
   omega
  ·have hkn : k = n:=by omega
   subst hkn
   rw [eY (f:=g) (g:=f) fun i hi => he i (by omega) (by omega)]
   omega
theorem sm_lt {f g : Nat → Int} {n k : Nat} (hk : k < n) (h : ∀ i,i < n → f i ≤ g i) (hlt : f k < g k) : sm n f < sm n g:=by
 have h1 : sm n (fun i => if i = k then f k else g i) ≤ sm n g:=nK fun i hi => by
  split
  ·rename_i e; subst e; omega
  ·exact Int.le_refl _
 have h2 : sm n f ≤ sm n (fun i => if i = k then f k else g i):=nK fun i hi => by
  split
  ·rename_i e; subst e; exact Int.le_refl _
  ·exact h i hi
 have h3:=nm (f:=g) (g:=fun i => if i = k then f k else g i) hk (fun i _ hi => by simp only [if_neg hi])
 simp only [if_pos] at h3
 omega
theorem min_ex {P : Nat → Prop} {f : Nat → Int} (hf : ∀ k,0 ≤ f k) : ∀ (m k : Nat),P k → f k ≤ (m : Int) → ∃ k,P k ∧ ∀ k',P k' → f k ≤ f k'
 | 0,k,hk,hm => ⟨k,hk,fun k' _ => by have:=hf k'; omega⟩
 | m + 1,k,hk,hm => by
  by_cases h : ∃ k',P k' ∧ f k' ≤ (m : Int)
  ·obtain ⟨k',h1,h2⟩:=h
   exact min_ex hf m k' h1 h2
  ·refine ⟨k,hk,fun k' hk' => ?_⟩
   have : ¬ f k' ≤ (m : Int):=fun hc => h ⟨k',hk',hc⟩
   omega
structure Mat (S : Nat → Nat → Prop) (h : Nat → Option Nat) : Prop where
 suit : ∀ k o,h k = some o → S o k
 inj : ∀ k k' o,h k = some o → h k' = some o → k = k'
def Dom (h : Nat → Option Nat) (o : Nat) : Prop:=∃ k,h k = some o
def ov (g : Nat → Int) : Option Nat → Int
 | none => 0
 | some o => g o
structure Fit (S : Nat → Nat → Prop) (nB nO : Nat) : Prop where
 bay : ∀ o k,S o k → k < nB
 ord : ∀ o k,S o k → o < nO
theorem tB {nO : Nat} {h : Nat → Option Nat} {g : Nat → Int} (hi : ∀ k k' o,h k = some o → h k' = some o → k = k') (ho : ∀ k o,h k = some o → o < nO) : ∀ n,sm n (fun k => ov g (h k)) = sm nO (fun o => if ∃ k,k < n ∧ h k = some o then g o else 0)
 | 0 => by
  rw [o1 (n:=nO) fun o _ => if_neg (fun ⟨k,hk,_⟩ => by omega)]
  rfl
 | n + 1 => by
  have ih:=tB (nO:=nO) (g:=g) hi ho n
  show sm n (fun k => ov g (h k)) + ov g (h n) = _
  rw [ih]
  cases hn : h n with
  | none =>
   show _ + (0 : Int) = _
   rw [Int.add_zero]
   refine eY fun o _ => ?_
   have : (∃ k,k < n ∧ h k = some o) ↔ (∃ k,k < n + 1 ∧ h k = some o):=⟨fun ⟨k,hk,e⟩ => ⟨k,by omega,e⟩,fun ⟨k,hk,e⟩ => ⟨k,by
    rcases Nat.lt_or_ge k n with h' | h'
    ·exact ⟨h',e⟩
    ·have : k = n:=by omega
     subst this; rw [hn] at e; cases e⟩⟩
   by_cases hc : ∃ k,k < n ∧ h k = some o
   ·rw [if_pos hc,if_pos (this.1 hc)]
   ·rw [if_neg hc,if_neg (fun hh => hc (this.2 hh))]
  | some x =>
   have hx:=ho n x hn
   have hnx : ¬ ∃ k,k < n ∧ h k = some x:=fun ⟨k,hk,e⟩ => by have:=hi k n x e hn; omega
   have e:=nm (f:=fun o => if ∃ k,k < n ∧ h k = some o then g o else 0) (g:=fun o => if ∃ k,k < n + 1 ∧ h k = some o then g o else 0) hx (fun o _ hne => by
    have : (∃ k,k < n ∧ h k = some o) ↔ (∃ k,k < n + 1 ∧ h k = some o):=⟨fun ⟨k,hk,e⟩ => ⟨k,by omega,e⟩,fun ⟨k,hk,e⟩ => ⟨k,by
     rcases Nat.lt_or_ge k n with h' | h'
     ·exact ⟨h',e⟩
     ·have : k = n:=by omega
      subst this; rw [hn] at e; cases e; exact absurd rfl hne⟩⟩
    by_cases hc : ∃ k,k < n ∧ h k = some o
    ·simp only [if_pos hc,if_pos (this.1 hc)]
    ·simp only [if_neg hc,if_neg (fun hh => hc (this.2 hh))])
   rw [e]
   simp only [if_neg hnx,if_pos (show ∃ k,k < n + 1 ∧ h k = some x from ⟨n,by omega,hn⟩)]
   show _ + g x = _
   omega
theorem bij {S : Nat → Nat → Prop} {nB nO : Nat} (hF : Fit S nB nO) {h : Nat → Option Nat} (hM : Mat S h) (g : Nat → Int) : sm nB (fun k => ov g (h k)) = sm nO (fun o => if Dom h o then g o else 0):=by
 rw [tB (nO:=nO) (g:=g) hM.inj (fun k o e => hF.ord o k (hM.suit k o e)) nB]
 refine eY fun o _ => ?_
 have : (∃ k,k < nB ∧ h k = some o) ↔ Dom h o:=⟨fun ⟨k,_,e⟩ => ⟨k,e⟩,fun ⟨k,e⟩ => ⟨k,hF.bay o k (hM.suit k o e),e⟩⟩
 by_cases hc : Dom h o
 ·rw [if_pos hc,if_pos (this.2 hc)]
 ·rw [if_neg hc,if_neg (fun hh => hc (this.1 hh))]
noncomputable def off (p : Prop) : Int:=if p then 0 else 1
theorem off_t {p : Prop} (h : p) : off p = 0:=if_pos h
theorem off_f {p : Prop} (h : ¬ p) : off p = 1:=if_neg h
theorem nj (p : Prop) : (p ∧ off p = 0) ∨ (¬ p ∧ off p = 1):=by
 by_cases h : p
 ·exact .inl ⟨h,off_t h⟩
 ·exact .inr ⟨h,off_f h⟩
noncomputable def unt (nB : Nat) (T : Nat → Prop) : Int:=sm nB fun k => off (T k)
theorem iK (nB : Nat) (T : Nat → Prop) : 0 ≤ unt nB T:=kN fun i _ => by rcases nj (T i) with ⟨_,h⟩ | ⟨_,h⟩ <;> omega
theorem off_mono {p q : Prop} (h : p → q) : off q ≤ off p:=by
 rcases nj p with ⟨h1,e1⟩ | ⟨h1,e1⟩ <;> rcases nj q with ⟨h2,e2⟩ | ⟨h2,e2⟩ <;> first | omega | exact absurd (h h1) h2
theorem sW {nB : Nat} {T T' : Nat → Prop} (h : ∀ k,T k → T' k) : unt nB T' ≤ unt nB T:=nK fun k _ => off_mono (h k)
theorem qk {nB : Nat} {T : Nat → Prop} {k : Nat} (hk : k < nB) (h1 : ¬ T k) : unt nB (fun j => T j ∨ j = k) = unt nB T - 1:=by
 have h0 : sm nB (fun j => off (T j ∨ j = k)) = sm nB (fun j => off (T j)) - off (T k) + off (T k ∨ k = k):=nm (f:=fun j => off (T j)) (g:=fun j => off (T j ∨ j = k)) hk (fun i _ hi => by
  by_cases h : T i
  ·rw [off_t h,off_t (.inl h)]
  ·rw [off_f h,off_f fun hh => hh.elim h hi])
 rw [off_f h1,off_t (Or.inr rfl)] at h0
 show sm nB (fun j => off (T j ∨ j = k)) = sm nB (fun j => off (T j)) - 1
 omega
structure MatX (S : Nat → Nat → Prop) (T : Nat → Prop) (h : Nat → Option Nat) : Prop where
 suit : ∀ k o,¬ T k → h k = some o → S o k
 inj : ∀ k k' o,¬ T k → ¬ T k' → h k = some o → h k' = some o → k = k'
def rS (T : Nat → Prop) (h : Nat → Option Nat) (o : Nat) : Prop:=∃ k,¬ T k ∧ h k = some o
structure AugY (S : Nat → Nat → Prop) (T : Nat → Prop) (o : Nat) (h h' : Nat → Option Nat) : Prop where
 keep : ∀ k,T k → h' k = h k
 mat : MatX S T h'
 dom : ∀ x,rS T h' x ↔ x = o ∨ rS T h x
structure AugN (S : Nat → Nat → Prop) (T T' : Nat → Prop) (o : Nat) (h : Nat → Option Nat) : Prop where
 sub : ∀ k,T k → T' k
 shut : ∀ k,T' k → ¬ T k → ∃ x,h k = some x ∧ ∀ k',S x k' → T' k'
 own : ∀ k',S o k' → T' k'
theorem MatX.more {S : Nat → Nat → Prop} {T T' : Nat → Prop} {h : Nat → Option Nat} (hM : MatX S T h) (hs : ∀ k,T k → T' k) : MatX S T' h :=
 ⟨fun k o hk e => hM.suit k o (fun ht => hk (hs k ht)) e,fun k k' o hk hk' e e' => hM.inj k k' o (fun ht => hk (hs k ht)) (fun ht => hk' (hs k' ht)) e e'⟩
theorem qH {S : Nat → Nat → Prop} {T : Nat → Prop} {o k : Nat} {h : Nat → Option Nat} (hM : MatX S T h) (hk : ¬ T k) (hS : S o k) (hn : h k = none) (ho : ¬ rS T h o) : AugY S T o h (fun j => if j = k then some o else h j) where
 keep:=fun j hj => if_neg (fun (e : j = k) => hk (e ▸ hj))
 mat:=by
  refine ⟨fun j x hj e => ?_,fun j j' x hj hj' e e' => ?_⟩
  ·by_cases hjk : j = k
   ·subst hjk; simp only [if_pos rfl] at e; cases e; exact hS
   ·simp only [if_neg hjk] at e; exact hM.suit j x hj e
  ·by_cases hjk : j = k <;> by_cases hjk' : j' = k
   ·rw [hjk,hjk']
   ·subst hjk
    simp only [if_pos rfl] at e
    simp only [if_neg hjk'] at e'
    cases e
    exact absurd ⟨j',hj',e'⟩ ho
   ·subst hjk'
    simp only [if_pos rfl] at e'
    simp only [if_neg hjk] at e
    cases e'
    exact absurd ⟨j,hj,e⟩ ho
   ·simp only [if_neg hjk] at e
    simp only [if_neg hjk'] at e'
    exact hM.inj j j' x hj hj' e e'
 dom:=fun x => by
  refine ⟨fun ⟨j,hj,e⟩ => ?_,fun hx => ?_⟩
  ·by_cases hjk : j = k
   ·simp only [if_pos hjk] at e; cases e; exact .inl rfl
   ·simp only [if_neg hjk] at e; exact .inr ⟨j,hj,e⟩
  ·rcases hx with rfl | ⟨j,hj,e⟩
   ·exact ⟨k,hk,if_pos rfl⟩
   ·refine ⟨j,hj,?_⟩
    have : j ≠ k:=fun e' => by subst e'; rw [hn] at e; cases e
    simp only [if_neg this]; exact e
theorem pD {S : Nat → Nat → Prop} {T : Nat → Prop} {o k x : Nat} {h h' : Nat → Option Nat} (hM : MatX S T h) (hk : ¬ T k) (hS : S o k) (hx : h k = some x) (ho : ¬ rS T h o) (hA : AugY S (fun j => T j ∨ j = k) x h h') : AugY S T o h (fun j => if j = k then some o else h' j):=by
 have hd : ∀ z,(∃ j,¬ (T j ∨ j = k) ∧ h' j = some z) ↔ rS T h z:=fun z => by
  refine (hA.dom z).trans ⟨fun hz => ?_,fun ⟨j,hj,e⟩ => ?_⟩
  ·rcases hz with rfl | ⟨j,hj,e⟩
   ·exact ⟨k,hk,hx⟩
   ·exact ⟨j,fun ht => hj (.inl ht),e⟩
  ·by_cases hjk : j = k
   ·subst hjk; rw [hx] at e; cases e; exact .inl rfl
   ·exact .inr ⟨j,fun ht => ht.elim hj hjk,e⟩
 have hno : ∀ j,¬ T j → j ≠ k → h' j ≠ some o:=fun j hj hjk e => ho ((hd o).1 ⟨j,fun ht => ht.elim hj hjk,e⟩)
 refine ⟨fun j hj => ?_,⟨fun j z hj e => ?_,fun j j' z hj hj' e e' => ?_⟩,fun z => ⟨fun ⟨j,hj,e⟩ => ?_,fun hz => ?_⟩⟩
 ·have : j ≠ k:=fun e => hk (e ▸ hj)
  simp only [if_neg this]
  exact hA.keep j (.inl hj)
 ·by_cases hjk : j = k
  ·subst hjk; simp only [if_pos rfl] at e; cases e; exact hS
  ·simp only [if_neg hjk] at e; exact hA.mat.suit j z (fun ht => ht.elim hj hjk) e
 ·by_cases hjk : j = k <;> by_cases hjk' : j' = k
  ·rw [hjk,hjk']
  ·simp only [if_pos hjk] at e
   simp only [if_neg hjk'] at e'
   cases e
   exact absurd e' (hno j' hj' hjk')
  ·simp only [if_pos hjk'] at e'
   simp only [if_neg hjk] at e
   cases e'
   exact absurd e (hno j hj hjk)
  ·simp only [if_neg hjk] at e
   simp only [if_neg hjk'] at e'
   exact hA.mat.inj j j' z (fun ht => ht.elim hj hjk) (fun ht => ht.elim hj' hjk') e e'
 ·by_cases hjk : j = k
  ·simp only [if_pos hjk] at e; cases e; exact .inl rfl
  ·simp only [if_neg hjk] at e; exact .inr ((hd z).1 ⟨j,fun ht => ht.elim hj hjk,e⟩)
 ·rcases hz with rfl | hz
  ·exact ⟨k,hk,if_pos rfl⟩
  ·obtain ⟨j,hj,e⟩:=(hd z).2 hz
   have hjk : j ≠ k:=fun e' => hj (.inr e')
   exact ⟨j,fun ht => hj (.inl ht),by simp only [if_neg hjk]; exact e⟩
theorem pc {S : Nat → Nat → Prop} {T T1 : Nat → Prop} {o : Nat} {h h' : Nat → Option Nat} (hM : MatX S T h) (hs : ∀ k,T k → T1 k) (ho : ¬ rS T h o) (hA : AugY S T1 o h h') : AugY S T o h h':=by
 have hk1 : ∀ k z,T1 k → ¬ T k → h' k = some z → ∀ k',¬ T1 k' → h' k' = some z → False:=fun k z ht hn e k' ht' e' => by
  rw [hA.keep k ht] at e
  rcases (hA.dom z).1 ⟨k',ht',e'⟩ with rfl | ⟨j,hj,ej⟩
  ·exact ho ⟨k,hn,e⟩
  ·have:=hM.inj k j z hn (fun t => hj (hs j t)) e ej
   subst this
   exact hj ht
 refine ⟨fun k hk => hA.keep k (hs k hk),⟨fun k z hk e => ?_,fun k k' z hk hk' e e' => ?_⟩,fun z => ⟨fun ⟨k,hk,e⟩ => ?_,fun hz => ?_⟩⟩
 ·by_cases ht : T1 k
  ·rw [hA.keep k ht] at e; exact hM.suit k z hk e
  ·exact hA.mat.suit k z ht e
 ·by_cases ht : T1 k <;> by_cases ht' : T1 k'
  ·rw [hA.keep k ht] at e; rw [hA.keep k' ht'] at e'; exact hM.inj k k' z hk hk' e e'
  ·exact (hk1 k z ht hk e k' ht' e').elim
  ·exact (hk1 k' z ht' hk' e' k ht e).elim
  ·exact hA.mat.inj k k' z ht ht' e e'
 ·by_cases ht : T1 k
  ·rw [hA.keep k ht] at e; exact .inr ⟨k,hk,e⟩
  ·rcases (hA.dom z).1 ⟨k,ht,e⟩ with rfl | ⟨j,hj,ej⟩
   ·exact .inl rfl
   ·exact .inr ⟨j,fun t => hj (hs j t),ej⟩
 ·rcases hz with rfl | ⟨k,hk,e⟩
  ·obtain ⟨k,hk,e⟩:=(hA.dom z).2 (.inl rfl)
   exact ⟨k,fun t => hk (hs k t),e⟩
  ·by_cases ht : T1 k
   ·exact ⟨k,hk,by rw [hA.keep k ht]; exact e⟩
   ·obtain ⟨j,hj,ej⟩:=(hA.dom z).2 (.inr ⟨k,ht,e⟩)
    exact ⟨j,fun t => hj (hs j t),ej⟩
theorem aug {S : Nat → Nat → Prop} {nB : Nat} (hB : ∀ o k,S o k → k < nB) : ∀ (u : Nat) (T : Nat → Prop) (o : Nat) (h : Nat → Option Nat),unt nB T ≤ (u : Int) → MatX S T h → ¬ rS T h o → (∃ h',AugY S T o h h') ∨ ∃ T',AugN S T T' o h:=by
 intro u
 induction u with
 | zero =>
  intro T o h hu hM ho
  refine .inr ⟨T,fun _ h => h,fun k h1 h2 => absurd h1 h2,fun k hS => ?_⟩
  by_cases hk : T k
  ·exact hk
  ·have h1:=qk (hB o k hS) hk
   have h2:=iK nB (fun j => T j ∨ j = k)
   omega
 | succ u ih =>
  intro T o h hu hM ho
  by_cases hex : ∃ k,¬ T k ∧ S o k
  ·obtain ⟨k,hk,hS⟩:=hex
   cases hn : h k with
   | none => exact .inl ⟨_,qH hM hk hS hn ho⟩
   | some x =>
    have h1:=qk (hB o k hS) hk
    have hM1 : MatX S (fun j => T j ∨ j = k) h:=hM.more fun j hj => .inl hj
    have hx1 : ¬ rS (fun j => T j ∨ j = k) h x:=fun ⟨j,hj,e⟩ => hj (.inr (hM.inj j k x (fun t => hj (.inl t)) hk e hn))
    rcases ih (fun j => T j ∨ j = k) x h (by omega) hM1 hx1 with ⟨h',hA⟩ | ⟨T',hA⟩
    ·exact .inl ⟨_,pD hM hk hS hn ho hA⟩
    ·have hu' : unt nB T' ≤ (u : Int):=by have:=sW (nB:=nB) hA.sub; omega
     have hsub : ∀ j,T j → T' j:=fun j hj => hA.sub j (.inl hj)
     rcases ih T' o h hu' (hM.more hsub) (fun ⟨j,hj,e⟩ => ho ⟨j,fun t => hj (hsub j t),e⟩) with ⟨h',hA'⟩ | ⟨T'',hA'⟩
     ·exact .inl ⟨h',pc hM hsub ho hA'⟩
     ·refine .inr ⟨T'',fun j hj => hA'.sub j (hsub j hj),fun j hj hnj => ?_,hA'.own⟩
      by_cases hj' : T' j
      ·by_cases hjk : j = k
       ·subst hjk
        exact ⟨x,hn,fun k' hk' => hA'.sub k' (hA.own k' hk')⟩
       ·obtain ⟨z,e,hz⟩:=hA.shut j hj' (fun t => t.elim hnj hjk)
        exact ⟨z,e,fun k' hk' => hA'.sub k' (hz k' hk')⟩
      ·exact hA'.shut j hj hj'
  ·exact .inr ⟨T,fun _ h => h,fun k h1 h2 => absurd h1 h2,fun k hS => by
    by_cases hk : T k
    ·exact hk
    ·exact absurd ⟨k,hk,hS⟩ hex⟩
structure Shut (S : Nat → Nat → Prop) (C : Nat → Prop) (h : Nat → Option Nat) : Prop where
 shut : ∀ k,C k → ∃ x,h k = some x ∧ ∀ k',S x k' → C k'
theorem Mat.x {S : Nat → Nat → Prop} {h : Nat → Option Nat} (hM : Mat S h) : MatX S (fun _ => False) h:=⟨fun k o _ e => hM.suit k o e,fun k k' o _ _ e e' => hM.inj k k' o e e'⟩
theorem mW {h : Nat → Option Nat} {o : Nat} : rS (fun _ => False) h o ↔ Dom h o:=⟨fun ⟨k,_,e⟩ => ⟨k,e⟩,fun ⟨k,e⟩ => ⟨k,id,e⟩⟩
theorem AugY.mat0 {S : Nat → Nat → Prop} {o : Nat} {h h' : Nat → Option Nat} (hA : AugY S (fun _ => False) o h h') : Mat S h':=⟨fun k o e => hA.mat.suit k o id e,fun k k' o e e' => hA.mat.inj k k' o id id e e'⟩
theorem AugY.dom0 {S : Nat → Nat → Prop} {o : Nat} {h h' : Nat → Option Nat} (hA : AugY S (fun _ => False) o h h') (x : Nat) : Dom h' x ↔ x = o ∨ Dom h x:=by rw [← mW,← mW]; exact hA.dom x
theorem AugN.shut0 {S : Nat → Nat → Prop} {T' : Nat → Prop} {o : Nat} {h : Nat → Option Nat} (hA : AugN S (fun _ => False) T' o h) : Shut S T' h:=⟨fun k hk => hA.shut k hk id⟩
theorem aug0 {S : Nat → Nat → Prop} {nB nO : Nat} (hF : Fit S nB nO) {h : Nat → Option Nat} (hM : Mat S h) {o : Nat} (ho : ¬ Dom h o) : (∃ h',Mat S h' ∧ ∀ x,Dom h' x ↔ x = o ∨ Dom h x) ∨ ∃ C,Shut S C h ∧ ∀ k,S o k → C k:=by
 rcases aug hF.bay (unt nB fun _ => False).toNat (fun _ => False) o h (by have:=iK nB fun _ => False; omega) hM.x (fun hd => ho (mW.1 hd)) with ⟨h',hA⟩ | ⟨T',hA⟩
 ·exact .inl ⟨h',hA.mat0,hA.dom0⟩
 ·exact .inr ⟨T',hA.shut0,hA.own⟩
theorem filled {S : Nat → Nat → Prop} {nB nO : Nat} (hF : Fit S nB nO) {h h2 : Nat → Option Nat} (hM : Mat S h) {C : Nat → Prop} (hC : Shut S C h) (hM2 : Mat S h2) (hX : ∀ k x,C k → h k = some x → Dom h2 x) : ∀ k,C k → ∃ x,h2 k = some x ∧ ∃ k1,C k1 ∧ h k1 = some x:=by
 let X : Nat → Prop:=fun x => ∃ k1,C k1 ∧ h k1 = some x
 have e1:=bij hF hM (fun o => if X o then 1 else 0)
 have e2:=bij hF hM2 (fun o => if X o then 1 else 0)
 have e3 : sm nO (fun o => if Dom h o then (if X o then (1 : Int) else 0) else 0) = sm nO (fun o => if Dom h2 o then (if X o then (1 : Int) else 0) else 0):=eY fun o _ => by
  by_cases hx : X o
  ·obtain ⟨k1,hk1,e⟩:=hx
   rw [if_pos ⟨k1,e⟩,if_pos (hX k1 o hk1 e)]
  ·simp only [if_neg hx]
   split <;> split <;> rfl
 have e4 : ∀ k,ov (fun o => if X o then (1 : Int) else 0) (h k) = if C k then 1 else 0:=fun k => by
  by_cases hk : C k
  ·obtain ⟨x,e,_⟩:=hC.shut k hk
   rw [e,if_pos hk]
   exact if_pos ⟨k,hk,e⟩
  ·rw [if_neg hk]
   cases e : h k with
   | none => rfl
   | some x => exact if_neg fun ⟨k1,hk1,e1⟩ => hk (hM.inj k1 k x e1 e ▸ hk1)
 have e5 : ∀ k,ov (fun o => if X o then (1 : Int) else 0) (h2 k) ≤ ov (fun o => if X o then (1 : Int) else 0) (h k):=fun k => by
  rw [e4]
  cases e : h2 k with
  | none => show (0 : Int) ≤ _; split <;> omega
  | some x =>
   show (if X x then (1 : Int) else 0) ≤ _
   by_cases hx : X x
   ·obtain ⟨k1,hk1,e1⟩:=hx
    obtain ⟨x',e',hs⟩:=hC.shut k1 hk1
    rw [e1] at e'; cases e'
    rw [if_pos (hs k (hM2.suit k x e)),if_pos (show X x from ⟨k1,hk1,e1⟩)]
    omega
   ·rw [if_neg hx]; split <;> omega
 intro k hk
 obtain ⟨x0,e0,_⟩:=hC.shut k hk
 have hkB : k < nB:=hF.bay x0 k (hM.suit k x0 e0)
 by_cases hlt : ov (fun o => if X o then (1 : Int) else 0) (h2 k) < ov (fun o => if X o then (1 : Int) else 0) (h k)
 ·have:=sm_lt hkB (fun i _ => e5 i) hlt
  omega
 ·rw [e4,if_pos hk] at hlt
  cases e : h2 k with
  | none => rw [e] at hlt; exact absurd (show (0 : Int) < 1 by omega) hlt
  | some x =>
   rw [e] at hlt
   by_cases hx : X x
   ·exact ⟨x,rfl,hx⟩
   ·exfalso
    apply hlt
    show (if X x then (1 : Int) else 0) < 1
    rw [if_neg hx]; omega
def Matchable (S : Nat → Nat → Prop) (A : Nat → Prop) : Prop:=∃ h,Mat S h ∧ ∀ x,Dom h x ↔ A x
theorem Matchable.sub {S : Nat → Nat → Prop} {A B : Nat → Prop} (hA : Matchable S A) (hB : ∀ x,B x → A x) : Matchable S B:=by
 obtain ⟨h,hM,hd⟩:=hA
 refine ⟨fun k => match h k with | none => none | some x => if B x then some x else none,⟨fun k o e => ?_,fun k k' o e e' => ?_⟩,fun x => ⟨fun ⟨k,e⟩ => ?_,fun hx => ?_⟩⟩
 ·cases hk : h k with
  | none => simp only [hk] at e; cases e
  | some x =>
   simp only [hk] at e
   split at e
   ·cases e; exact hM.suit k _ hk
   ·cases e
 ·cases hk : h k with
  | none => simp only [hk] at e; cases e
  | some x =>
   cases hk' : h k' with
   | none => simp only [hk'] at e'; cases e'
   | some x' =>
    simp only [hk] at e
    simp only [hk'] at e'
    split at e
    ·split at e'
     ·cases e; cases e'; exact hM.inj k k' _ hk hk'
     ·cases e'
    ·cases e
 ·cases hk : h k with
  | none => simp only [hk] at e; cases e
  | some z =>
   simp only [hk] at e
   split at e
   ·cases e; assumption
   ·cases e
 ·obtain ⟨k,e⟩:=(hd x).2 (hB x hx)
  exact ⟨k,by simp only [e]; exact if_pos hx⟩
set_option linter.unusedSimpArgs false
open Classical
def wor (nB : Nat) (w : Nat → Int) (h : Nat → Option Nat) : Int:=sm nB fun k => ov w (h k)
structure Opt (S : Nat → Nat → Prop) (w : Nat → Int) (nB : Nat) (V : Int) : Prop where
 some : ∃ h,Mat S h ∧ wor nB w h = V
 most : ∀ h,Mat S h → wor nB w h ≤ V
theorem Opt.unique {S : Nat → Nat → Prop} {w : Nat → Int} {nB : Nat} {V V' : Int} (h : Opt S w nB V) (h' : Opt S w nB V') : V = V':=by
 obtain ⟨a,ha,ea⟩:=h.some
 obtain ⟨b,hb,eb⟩:=h'.some
 have h1:=h'.most a ha
 have h2:=h.most b hb
 omega
structure Cert (S : Nat → Nat → Prop) (w : Nat → Int) (L : Nat → Prop) (i : Nat) : Prop where
 out : ∃ h C,Mat S h ∧ (∀ x,Dom h x → L x) ∧ Shut S C h ∧ (∀ k,S i k → C k) ∧ ∀ k x,C k → h k = some x → w i ≤ w x
theorem Cert.more {S : Nat → Nat → Prop} {w : Nat → Int} {L L' : Nat → Prop} {i : Nat} (hc : Cert S w L i) (hs : ∀ x,L x → L' x) : Cert S w L' i:=by
 obtain ⟨h,C,h1,h2,h3,h4,h5⟩:=hc.out
 exact ⟨h,C,h1,fun x hx => hs x (h2 x hx),h3,h4,h5⟩
structure Greedy (S : Nat → Nat → Prop) (w : Nat → Int) (P L : Nat → Prop) : Prop where
 can : Matchable S L
 sub : ∀ x,L x → P x
 cert : ∀ i,P i → ¬ L i → Cert S w L i
theorem Greedy.nil {S : Nat → Nat → Prop} {w : Nat → Int} : Greedy S w (fun _ => False) (fun _ => False):=⟨⟨fun _ => none,⟨fun _ _ e => (by cases e),fun _ _ _ e => (by cases e)⟩,fun x => ⟨fun ⟨k,e⟩ => (by cases e),False.elim⟩⟩,fun _ h => h,fun _ h => h.elim⟩
theorem Greedy.no {S : Nat → Nat → Prop} {w : Nat → Int} {nB nO : Nat} (hF : Fit S nB nO) {P L : Nat → Prop} {i : Nat} (h : Greedy S w P L) (hw : ∀ x,P x → w i ≤ w x) (hm : ¬ Matchable S fun x => L x ∨ x = i) : Greedy S w (fun x => P x ∨ x = i) L:=by
 have hi : ¬ L i:=fun hl => hm (by
  obtain ⟨m,hM,hd⟩:=h.can
  exact ⟨m,hM,fun x => (hd x).trans ⟨.inl,fun hx => hx.elim id fun e => e ▸ hl⟩⟩)
 refine ⟨h.can,fun x hx => .inl (h.sub x hx),fun j hj hn => ?_⟩
 rcases hj with hj | rfl
 ·exact h.cert j hj hn
 ·obtain ⟨m,hM,hd⟩:=h.can
  rcases aug0 hF hM (o:=j) (fun hj => hn ((hd j).1 hj)) with ⟨m',hM',hd'⟩ | ⟨C,hC,hs⟩
  ·exact absurd ⟨m',hM',fun x => (hd' x).trans ⟨fun hx => hx.elim .inr fun hx => .inl ((hd x).1 hx),fun hx => hx.elim (fun hl => .inr ((hd x).2 hl)) .inl⟩⟩ hm
  ·exact ⟨m,C,hM,fun x hx => (hd x).1 hx,hC,hs,fun k x _ e => hw x (h.sub x ((hd x).1 ⟨k,e⟩))⟩
inductive Way (S : Nat → Nat → Prop) (h : Nat → Option Nat) (k : Nat) : Nat → Prop
 | refl : Way S h k k
 | step {k1 k2 x : Nat} : Way S h k k1 → h k1 = some x → S x k2 → Way S h k k2
theorem Way.head {S : Nat → Nat → Prop} {h : Nat → Option Nat} {k k' k2 x : Nat} (e : h k = some x) (hs : S x k') (hw : Way S h k' k2) : Way S h k k2:=by
 induction hw with
 | refl => exact .step .refl e hs
 | step _ e1 s1 ih => exact .step ih e1 s1
structure Prices (S : Nat → Nat → Prop) (w : Nat → Int) (nB nO : Nat) (h : Nat → Option Nat) (q u : Nat → Int) : Prop where
 q0 : ∀ k,0 ≤ q k
 free : ∀ k,h k = none → q k = 0
 held : ∀ k x,h k = some x → q k ≤ w x
 least : ∀ k x k',h k = some x → S x k' → q k ≤ q k'
 out : ∀ i k,i < nO → ¬ Dom h i → S i k → w i ≤ q k
 uset : ∀ k x,h k = some x → u x = w x - q k
 unot : ∀ i,¬ Dom h i → u i = 0
 total : wor nB w h = sm nB q + sm nO u
 less : ∀ k,∃ h',Mat S h' ∧ h' k = none ∧ wor nB w h' = wor nB w h - q k
theorem Prices.u0 {S : Nat → Nat → Prop} {w : Nat → Int} {nB nO : Nat} {h : Nat → Option Nat} {q u : Nat → Int} (hp : Prices S w nB nO h q u) (i : Nat) : 0 ≤ u i:=by
 by_cases hd : Dom h i
 ·obtain ⟨k,e⟩:=hd
  have h1:=hp.uset k i e
  have h2:=hp.held k i e
  omega
 ·rw [hp.unot i hd]; omega
theorem Prices.feas {S : Nat → Nat → Prop} {w : Nat → Int} {nB nO : Nat} {h : Nat → Option Nat} {q u : Nat → Int} (hF : Fit S nB nO) (hp : Prices S w nB nO h q u) {i k : Nat} (hs : S i k) : w i ≤ q k + u i:=by
 by_cases hd : Dom h i
 ·obtain ⟨k',e⟩:=hd
  have h1:=hp.uset k' i e
  have h2:=hp.least k' i k e hs
  omega
 ·rw [hp.unot i hd]; have:=hp.out i k (hF.ord i k hs) hd hs; omega
theorem weak {S : Nat → Nat → Prop} {w : Nat → Int} {nB nO : Nat} (hF : Fit S nB nO) {q u : Nat → Int} (hq : ∀ k,k < nB → 0 ≤ q k) (hu : ∀ i,i < nO → 0 ≤ u i) (hf : ∀ i k,S i k → w i ≤ q k + u i) {h : Nat → Option Nat} (hM : Mat S h) : wor nB w h ≤ sm nB (fun k => if h k = none then 0 else q k) + sm nO u:=by
 have h1 : wor nB w h ≤ sm nB (fun k => (if h k = none then 0 else q k) + ov u (h k)):=nK fun k _ => by
  cases e : h k with
  | none => simp [ov]
  | some x =>
   have:=hf x k (hM.suit k x e)
   simp only [ov,reduceCtorEq,if_false]
   exact this
 have h2:=sm_add (fun k => if h k = none then 0 else q k) (fun k => ov u (h k)) nB
 have h3:=bij hF hM u
 have h4 : sm nO (fun o => if Dom h o then u o else 0) ≤ sm nO u:=nK fun o ho => by
  have:=hu o ho
  split
  ·exact Int.le_refl _
  ·exact this
 omega
theorem weak_but {S : Nat → Nat → Prop} {w : Nat → Int} {nB nO : Nat} (hF : Fit S nB nO) {q u : Nat → Int} (hq : ∀ k,k < nB → 0 ≤ q k) (hu : ∀ i,i < nO → 0 ≤ u i) (hf : ∀ i k,S i k → w i ≤ q k + u i) {h : Nat → Option Nat} (hM : Mat S h) {k : Nat} (hk : k < nB) (hn : h k = none) : wor nB w h ≤ sm nB q - q k + sm nO u:=by
 have h1:=weak hF hq hu hf hM
 have h3:=nm (f:=q) (g:=fun j => if j = k then 0 else q j) hk (fun i _ hi => by simp only [if_neg hi])
 have h4 : (if k = k then (0 : Int) else q k) = 0:=if_pos rfl
 rw [h4] at h3
 have h2 : sm nB (fun j => if h j = none then 0 else q j) ≤ sm nB (fun j => if j = k then 0 else q j):=nK fun j hj => by
  have:=hq j hj
  by_cases hjk : j = k
  ·subst hjk; simp [hn]
  ·simp only [if_neg hjk]
   split
   ·exact this
   ·exact Int.le_refl _
 omega
def freed (h : Nat → Option Nat) (k : Nat) : Nat → Option Nat:=fun j => if j = k then none else h j
theorem qQ (h : Nat → Option Nat) (k : Nat) : freed h k k = none:=if_pos rfl
theorem o7 {h : Nat → Option Nat} {k j : Nat} (hj : j ≠ k) : freed h k j = h j:=if_neg hj
theorem cE {h : Nat → Option Nat} {k j x : Nat} (e : freed h k j = some x) : j ≠ k ∧ h j = some x:=by
 by_cases hj : j = k
 ·subst hj; rw [qQ] at e; cases e
 ·rw [o7 hj] at e; exact ⟨hj,e⟩
theorem Mat.freed {S : Nat → Nat → Prop} {h : Nat → Option Nat} (hM : Mat S h) (k : Nat) : Mat S (freed h k) :=
 ⟨fun j o e => hM.suit j o (cE e).2,fun j j' o e e' => hM.inj j j' o (cE e).2 (cE e').2⟩
theorem tC {nB k : Nat} (hk : k < nB) (w : Nat → Int) (h : Nat → Option Nat) : wor nB w (freed h k) = wor nB w h - ov w (h k):=by
 have:=nm (f:=fun j => ov w (h j)) (g:=fun j => ov w (freed h k j)) hk (fun i _ hi => by simp only [o7 hi])
 simp only [qQ] at this
 have e : ov w none = 0:=rfl
 rw [e] at this
 unfold wor
 omega
theorem wor_dom {S : Nat → Nat → Prop} {nB nO : Nat} (hF : Fit S nB nO) (w : Nat → Int) {h h' : Nat → Option Nat} (hM : Mat S h) (hM' : Mat S h') (hd : ∀ x,Dom h x ↔ Dom h' x) : wor nB w h = wor nB w h':=by
 unfold wor
 rw [bij hF hM w,bij hF hM' w]
 refine eY fun o _ => ?_
 by_cases hc : Dom h o
 ·rw [if_pos hc,if_pos ((hd o).1 hc)]
 ·rw [if_neg hc,if_neg fun hh => hc ((hd o).2 hh)]
theorem way_less {S : Nat → Nat → Prop} {nB nO : Nat} (hF : Fit S nB nO) (w : Nat → Int) {h : Nat → Option Nat} (hM : Mat S h) {k0 k1 : Nat} (hk1 : k1 < nB) (hw : Way S h k0 k1) : ∃ h',Mat S h' ∧ h' k0 = none ∧ wor nB w h' = wor nB w h - ov w (h k1):=by
 have e2:=tC hk1 w h
 have hM2:=hM.freed k1
 cases hk0 : freed h k1 k0 with
 | none => exact ⟨_,hM2,hk0,e2⟩
 | some o =>
  obtain ⟨hne,ho⟩:=cE hk0
  -- without the first bay
  let S' : Nat → Nat → Prop:=fun x k => S x k ∧ k ≠ k0
  have hF' : Fit S' nB nO:=⟨fun x k hs => hF.bay x k hs.1,fun x k hs => hF.ord x k hs.1⟩
  let h3:=freed (freed h k1) k0
  have hM3 : Mat S' h3:=⟨fun k x e => ⟨hM2.suit k x (cE e).2,(cE e).1⟩,(hM2.freed k0).inj⟩
  have hno : ¬ Dom h3 o:=fun ⟨k,e⟩ => (cE e).1 (hM2.inj k k0 o (cE e).2 hk0)
  rcases aug0 hF' hM3 hno with ⟨h',hM',hd⟩ | ⟨C,hC,hs⟩
  ·have hMS : Mat S h':=⟨fun k x e => (hM'.suit k x e).1,hM'.inj⟩
   refine ⟨h',hMS,?_,?_⟩
   ·cases e : h' k0 with
    | none => rfl
    | some x => exact absurd rfl (hM'.suit k0 x e).2
   ·rw [← e2]
    refine wor_dom hF w hMS hM2 fun x => ?_
    rw [hd x]
    refine ⟨fun hx => ?_,fun ⟨k,e⟩ => ?_⟩
    ·rcases hx with rfl | ⟨k,e⟩
     ·exact ⟨k0,hk0⟩
     ·exact ⟨k,(cE e).2⟩
    ·by_cases hk : k = k0
     ·subst hk; rw [hk0] at e; cases e; exact .inl rfl
     ·exact .inr ⟨k,(o7 hk).trans e⟩
  ·exfalso
   have hall : ∀ k,Way S h k0 k → C k ∨ k = k0:=fun k hk => by
    induction hk with
    | refl => exact .inr rfl
    | @step ka kb x _ e s ih =>
     by_cases hkb : kb = k0
     ·exact .inr hkb
     ·rcases ih with hc | rfl
      ·obtain ⟨y,ey,hy⟩:=hC.shut ka hc
       have:=(cE (cE ey).2).2
       rw [e] at this; cases this
       exact .inl (hy kb ⟨s,hkb⟩)
      ·rw [ho] at e; cases e
       exact .inl (hs kb ⟨s,hkb⟩)
   rcases hall k1 hw with hc | e
   ·obtain ⟨y,ey,_⟩:=hC.shut k1 hc
    exact (cE (cE ey).2).1 rfl
   ·exact hne e.symm
theorem prices {S : Nat → Nat → Prop} {w : Nat → Int} {nB nO : Nat} (hF : Fit S nB nO) (hw : ∀ i,0 ≤ w i) {L : Nat → Prop} {h : Nat → Option Nat} (hM : Mat S h) (hd : ∀ x,Dom h x ↔ L x) (hc : ∀ i,i < nO → ¬ L i → Cert S w L i) : ∃ q u,Prices S w nB nO h q u:=by
 have hv : ∀ k,0 ≤ ov w (h k):=fun k => by
  cases h k with
  | none => exact Int.le_refl _
  | some x => exact hw x
 have hex : ∀ k,∃ k',Way S h k k' ∧ ∀ k'',Way S h k k'' → ov w (h k') ≤ ov w (h k''):=fun k => min_ex hv (ov w (h k)).toNat k .refl (by have:=hv k; omega)
 let r : Nat → Nat:=fun k => Classical.choose (hex k)
 have hr : ∀ k,Way S h k (r k) ∧ ∀ k'',Way S h k k'' → ov w (h (r k)) ≤ ov w (h k''):=fun k => Classical.choose_spec (hex k)
 let q : Nat → Int:=fun k => ov w (h (r k))
 let u : Nat → Int:=fun i => if hx : Dom h i then w i - q (Classical.choose hx) else 0
 have huset : ∀ k x,h k = some x → u x = w x - q k:=fun k x e => by
  have hx : Dom h x:=⟨k,e⟩
  have:=hM.inj _ _ x (Classical.choose_spec hx) e
  show (if hx : Dom h x then w x - q (Classical.choose hx) else 0) = _
  rw [dif_pos hx,this]
 have hunot : ∀ i,¬ Dom h i → u i = 0:=fun i hi => dif_neg hi
 have hfree : ∀ k,h k = none → q k = 0:=fun k e => by
  have h1:=(hr k).2 k .refl
  have h2:=hv (r k)
  rw [e] at h1
  have e0 : ov w none = 0:=rfl
  show ov w (h (r k)) = 0
  omega
 refine ⟨q,u,fun k => hv (r k),hfree,fun k x e => ?_,fun k x k' e hs => (hr k).2 _ (.head e hs (hr k').1),fun i k hi hn hs => ?_,huset,hunot,?_,fun k => ?_⟩
 ·have h1:=(hr k).2 k .refl
  rw [e] at h1
  exact h1
 ·obtain ⟨h0,C,hM0,hd0,hC,hsC,hwC⟩:=(hc i hi (fun hl => hn ((hd i).2 hl))).out
  have hf:=filled hF hM0 hC hM (fun k x _ e => (hd x).2 (hd0 x ⟨k,e⟩))
  have hall : ∀ k',Way S h k k' → C k':=fun k' hk' => by
   induction hk' with
   | refl => exact hsC k hs
   | @step ka kb x _ e s ih =>
    obtain ⟨y,ey,k1,hk1,e1⟩:=hf ka ih
    rw [e] at ey; cases ey
    obtain ⟨z,ez,hz⟩:=hC.shut k1 hk1
    rw [e1] at ez; cases ez
    exact hz kb s
  obtain ⟨y,ey,k1,hk1,e1⟩:=hf _ (hall _ (hr k).1)
  show w i ≤ ov w (h (r k))
  rw [ey]
  exact hwC k1 y hk1 e1
 ·have h1:=bij hF hM u
  have h2 : sm nO (fun o => if Dom h o then u o else 0) = sm nO u:=eY fun o _ => by
   by_cases hx : Dom h o
   ·rw [if_pos hx]
   ·rw [if_neg hx,hunot o hx]
  have h3 : sm nB (fun k => ov u (h k)) = sm nB (fun k => ov w (h k) - q k):=eY fun k _ => by
   cases e : h k with
   | none => rw [hfree k e]; rfl
   | some x => exact huset k x e
  have h4:=sm_sub (fun k => ov w (h k)) q nB
  have e5 : sm nB (fun k => ov w (h k)) = wor nB w h:=rfl
  omega
 ·by_cases hk : r k < nB
  ·exact way_less hF w hM hk (hr k).1
  ·have hout : h (r k) = none:=by
    cases e : h (r k) with
    | none => rfl
    | some x => exact absurd (hF.bay x _ (hM.suit _ x e)) hk
   have hq : q k = 0:=by show ov w (h (r k)) = 0; rw [hout]; rfl
   by_cases hk2 : h k = none
   ·exact ⟨h,hM,hk2,by omega⟩
   ·exfalso
    have:=(hr k).1
    have hstep : ∀ k',Way S h k k' → k' < nB:=fun k' hk' => by
     cases hk' with
     | refl =>
      cases e : h k with
      | none => exact absurd e hk2
      | some x => exact hF.bay x k (hM.suit k x e)
     | step _ _ s => exact hF.bay _ _ s
    exact hk (hstep _ this)
theorem Prices.without {S : Nat → Nat → Prop} {w : Nat → Int} {nB nO : Nat} (hF : Fit S nB nO) {h : Nat → Option Nat} (hM : Mat S h) {q u : Nat → Int} (hp : Prices S w nB nO h q u) {k : Nat} (hk : k < nB) : Opt (fun i j => S i j ∧ j ≠ k) w nB (wor nB w h - q k):=by
 refine ⟨?_,fun h2 hM2 => ?_⟩
 ·obtain ⟨h',hM',hn,e⟩:=hp.less k
  refine ⟨h',⟨fun j o ej => ⟨hM'.suit j o ej,fun ejk => ?_⟩,hM'.inj⟩,e⟩
  subst ejk; rw [hn] at ej; cases ej
 ·have hM3 : Mat S h2:=⟨fun j o e => (hM2.suit j o e).1,hM2.inj⟩
  have hn : h2 k = none:=by
   cases e : h2 k with
   | none => rfl
   | some x => exact absurd rfl (hM2.suit k x e).2
  have:=weak_but (w:=w) (q:=q) (u:=u) hF (fun k _ => hp.q0 k) (fun i _ => hp.u0 i) (fun i k hs => hp.feas hF hs) hM3 hk hn
  rw [hp.total]
  omega
theorem Greedy.prices {S : Nat → Nat → Prop} {w : Nat → Int} {nB nO : Nat} (hF : Fit S nB nO) (hw : ∀ i,0 ≤ w i) {P L : Nat → Prop} (hg : Greedy S w P L) (hP : ∀ i,i < nO → P i) {h : Nat → Option Nat} (hM : Mat S h) (hd : ∀ x,Dom h x ↔ L x) : ∃ q u,Prices S w nB nO h q u:=Go.Proofs.YthndghnkebboaabGreat.prices hF hw hM hd fun i hi hn => hg.cert i (hP i hi) hn
set_option linter.unusedSimpArgs false
def oat (y : TY) (o : Nat) : TO:=y.fOrders.getD o default
def bat (y : TY) (k : Nat) : TBay:=y.fB.getD k default
theorem rdL_oat (y : TY) (o : Nat) : rdL y.fOrders (o : Int) = oat y o:=by unfold rdL oat; rw [Int.toNat_natCast]
theorem so (y : TY) (k : Nat) : rdL y.fB (k : Int) = bat y k:=by unfold rdL bat; rw [Int.toNat_natCast]
def oQ (o : TO) (b : TBay) : Bool:=decide (o.fH.fLo ≤ b.fHour ∧ b.fHour ≤ o.fH.fHi) && decide (o.fD ≤ b.fD)
theorem suits_eq (o : TO) (b : TBay) : iJ o b = some (oQ o b):=by unfold iJ; rw [iI]; rfl
def Su (y : TY) (o k : Nat) : Prop:=o < y.fOrders.length ∧ k < y.fB.length ∧ oQ (oat y o) (bat y k) = true
def wo (y : TY) (o : Nat) : Int:=(oat y o).fW
theorem Su.fit (y : TY) : Fit (Su y) y.fB.length y.fOrders.length:=⟨fun o k h => h.2.1,fun o k h => h.1⟩
def oe (g : List (Int × Int)) (k : Nat) : Option Nat:=if bi g (k : Int) = true then some (aw 0 g (k : Int)).toNat else none
def tri (t : List (Int × Bool)) (k : Nat) : Prop:=aw false t (k : Int) = true
def OkG (nB nO : Nat) (g : List (Int × Int)) : Prop:=∀ p ∈ g,∃ k o : Nat,p = ((k : Int),(o : Int)) ∧ k < nB ∧ o < nO
theorem OkG.nil {nB nO : Nat} : OkG nB nO []:=fun p hp => by cases hp
theorem OkG.cons {nB nO k o : Nat} {g : List (Int × Int)} (h : OkG nB nO g) (hk : k < nB) (ho : o < nO) : OkG nB nO (((k : Int),(o : Int)) :: g):=fun p hp => by
 rcases List.mem_cons.1 hp with rfl | hp
 ·exact ⟨k,o,rfl,hk,ho⟩
 ·exact h p hp
theorem nn (g : List (Int × Int)) (k o : Nat) : oe (((k : Int),(o : Int)) :: g) = fun j => if j = k then some o else oe g j:=by
 funext j
 unfold oe
 rw [dT,eP]
 by_cases h : j = k
 ·subst h
  rw [if_pos rfl,if_pos rfl,if_pos rfl,if_pos rfl,Int.toNat_natCast]
 ·rw [if_neg (show ¬ ((k : Int) = (j : Int)) by omega),if_neg (show ¬ ((k : Int) = (j : Int)) by omega),if_neg h]
theorem la (t : List (Int × Bool)) (k : Nat) : tri (((k : Int),true) :: t) = fun j => tri t j ∨ j = k:=by
 funext j
 unfold tri
 rw [eP]
 refine propext ?_
 by_cases h : j = k
 ·subst h; rw [if_pos rfl]; exact ⟨fun _ => .inr rfl,fun _ => rfl⟩
 ·rw [if_neg (show ¬ ((k : Int) = (j : Int)) by omega)]; exact ⟨.inl,fun hh => hh.elim id fun e => absurd e h⟩
theorem q9 {nB nO : Nat} : ∀ {g : List (Int × Int)},OkG nB nO g → ∀ {k x : Nat},oe g k = some x → bi g (k : Int) = true ∧ aw 0 g (k : Int) = (x : Int) ∧ k < nB ∧ x < nO
 | [],_,k,x,e => by cases e
 | p :: g,hg,k,x,e => by
  obtain ⟨k',o,rfl,hk',ho⟩:=hg p (List.mem_cons_self ..)
  rw [nn] at e
  rw [dT,eP]
  by_cases h : k = k'
  ·subst h
   rw [if_pos rfl,if_pos rfl]
   simp only [if_true] at e
   cases e
   exact ⟨rfl,rfl,hk',ho⟩
  ·rw [if_neg (show ¬ ((k' : Int) = (k : Int)) by omega),if_neg (show ¬ ((k' : Int) = (k : Int)) by omega)]
   simp only [if_neg h] at e
   exact q9 (g:=g) (fun q hq => hg q (List.mem_cons_of_mem _ hq)) e
theorem hold_has {g : List (Int × Int)} {k : Nat} (e : oe g k = none) : bi g (k : Int) = false:=by
 unfold oe at e
 by_cases h : bi g (k : Int) = true
 ·rw [if_pos h] at e; cases e
 ·exact Bool.eq_false_iff.2 h
theorem nl {k : Nat} (h : k < 1000000) : dW (k : Int) = true:=by
 unfold dW
 rw [Bool.and_eq_true,decide_eq_true_eq,decide_eq_true_eq]; omega
theorem look (y : TY) (hB : y.fB.length ≤ 1000) (hO : y.fOrders.length ≤ 1000) : ∀ (fuel o : Nat) (t : List (Int × Bool)) (g : List (Int × Int)),o < y.fOrders.length → OkG y.fB.length y.fOrders.length g → unt y.fB.length (tri t) < (fuel : Int) → (t.length : Int) + unt y.fB.length (tri t) ≤ 2000 → (g.length : Int) + unt y.fB.length (tri t) ≤ 100000 → MatX (Su y) (tri t) (oe g) → ¬ rS (tri t) (oe g) o →
  ∃ r t' g',bo fuel (o : Int) y t g = some (r,t',g') ∧ OkG y.fB.length y.fOrders.length g' ∧ (t'.length : Int) + unt y.fB.length (tri t') ≤ (t.length : Int) + unt y.fB.length (tri t) ∧ (g'.length : Int) + unt y.fB.length (tri t') ≤ (g.length : Int) + unt y.fB.length (tri t) ∧ (∀ k,tri t k → tri t' k) ∧ ((r = true ∧ AugY (Su y) (tri t) o (oe g) (oe g')) ∨ (r = false ∧ g' = g ∧ AugN (Su y) (tri t) (tri t') o (oe g))):=by
 intro fuel
 induction fuel with
 | zero =>
  intro o t g _ _ hu
  have:=iK y.fB.length (tri t)
  omega
 | succ fuel ih =>
  intro o t g ho hg hu hlt hlg hM hn
  have hinv:=em (body:=bQ (o : Int) y (bo fuel))
   (fun s => ∃ (i : Nat) (t1 : List (Int × Bool)),s = (false,(i : Int),t1,g) ∧ i ≤ y.fB.length ∧ (∀ k,tri t k → tri t1 k) ∧ (t1.length : Int) + unt y.fB.length (tri t1) ≤ (t.length : Int) + unt y.fB.length (tri t) ∧ (∀ k,tri t1 k → ¬ tri t k → ∃ x,oe g k = some x ∧ ∀ k',Su y x k' → tri t1 k') ∧ (∀ k,k < i → Su y o k → tri t1 k))
   (fun _ out => match out with
    | .inl u => u.1 = true ∧ OkG y.fB.length y.fOrders.length u.2.2.2 ∧ (u.2.2.1.length : Int) + unt y.fB.length (tri u.2.2.1) ≤ (t.length : Int) + unt y.fB.length (tri t) ∧ (u.2.2.2.length : Int) + unt y.fB.length (tri u.2.2.1) ≤ (g.length : Int) + unt y.fB.length (tri t) ∧ (∀ k,tri t k → tri u.2.2.1 k) ∧ AugY (Su y) (tri t) o (oe g) (oe u.2.2.2)
    | .inr u => u.2.2.2 = g ∧ (u.2.2.1.length : Int) + unt y.fB.length (tri u.2.2.1) ≤ (t.length : Int) + unt y.fB.length (tri t) ∧ AugN (Su y) (tri t) (tri u.2.2.1) o (oe g))
   (fun s => y.fB.length - s.2.1.toNat) (by
    rintro _ ⟨i,t1,rfl,hi,hsub,hlen,hsh,hown⟩
    have hu1 : unt y.fB.length (tri t1) ≤ unt y.fB.length (tri t):=sW hsub
    have hu0:=iK y.fB.length (tri t1)
    rcases Nat.lt_or_ge i y.fB.length with hlt' | hge
    ·have c1 : (0 : Int) ≤ (i : Int) ∧ (i : Int) < ((y.fB.length : Nat) : Int):=by omega
     have c2 : (0 : Int) ≤ (o : Int) ∧ (o : Int) < ((y.fOrders.length : Nat) : Int):=by omega
     have hb : bQ (o : Int) y (bo fuel) (false,(i : Int),t1,g) = (if (aw false t1 (i : Int) || !oQ (oat y o) (bat y i)) = true then some (.inl (false,((i + 1 : Nat) : Int),t1,g)) else ak (dW (i : Int) = true ∧ List.length t1 < 1000000000) ((if (!(bi g (i : Int))) = true then (ak (dW (i : Int) = true ∧ List.length g < 1000000000) (some (.inr (.inl (true,(i : Int),(((i : Int),true) :: t1),(((i : Int),(o : Int)) :: g)))))) else ((bo fuel (aw 0 g (i : Int)) y (((i : Int),true) :: t1) g).bind fun y17 => (if y17.1 = true then ak (dW (i : Int) = true ∧ List.length y17.2.2 < 1000000000) (some (.inr (.inl (true,(i : Int),y17.2.1,(((i : Int),(o : Int)) :: y17.2.2))))) else some (.inl (false,((i + 1 : Nat) : Int),y17.2.1,y17.2.2))))))):=by
      unfold bQ; dsimp only
      rw [jz (show (i : Int) < ((y.fB.length : Nat) : Int) by omega),gPo c1,gPo (nl (by omega))]
      simp only [rdL_oat,so,pA,ru,TBay_eta,suits_eq,oB,gPo c2,du (show i < 9223372036854775807 by omega),gPo (nl (show i < 1000000 by omega))]
      cases aw false t1 (i : Int) <;> cases oQ (oat y o) (bat y i) <;> rfl
     by_cases hsk : (aw false t1 (i : Int) || !oQ (oat y o) (bat y i)) = true
     ·refine .inl ⟨_,by rw [hb,if_pos hsk],⟨i + 1,t1,rfl,hlt',hsub,hlen,hsh,fun k hk hs => ?_⟩,by dsimp only; omega,fun t h => h⟩
      rcases Nat.lt_or_ge k i with h | h
      ·exact hown k h hs
      ·have : k = i:=by omega
       subst this
       rcases Bool.or_eq_true_iff.1 hsk with h | h
       ·exact h
       ·rw [hs.2.2] at h; cases h
     ·rw [if_neg hsk] at hb
      have hsk2:=Bool.eq_false_iff.2 hsk
      rw [Bool.or_eq_false_iff] at hsk2
      have hnt : ¬ tri t1 i:=by unfold tri; rw [hsk2.1]; exact Bool.false_ne_true
      have hS : Su y o i:=⟨ho,hlt',by have:=hsk2.2; simpa using this⟩
      have hua:=qk hlt' hnt
      rw [← la] at hua
      have hM1 : MatX (Su y) (tri t1) (oe g):=hM.more hsub
      have hn1 : ¬ rS (tri t1) (oe g) o:=fun ⟨j,hj,e⟩ => hn ⟨j,fun h => hj (hsub j h),e⟩
      have hsub' : ∀ k,tri t1 k → tri (((i : Int),true) :: t1) k:=fun k hk => by rw [la]; exact .inl hk
      have hi1 : tri (((i : Int),true) :: t1) i:=by rw [la]; exact .inr rfl
      rw [gPo ⟨nl (by omega),by omega⟩] at hb
      cases hh : oe g i with
      | none =>
       rw [hold_has hh,if_pos (by rfl),gPo ⟨nl (by omega),by omega⟩] at hb
       refine .inr ⟨_,hb,rfl,hg.cons hlt' ho,?_,?_,fun k hk => hsub' k (hsub k hk),?_⟩
       ·dsimp only; rw [List.length_cons]; omega
       ·dsimp only; rw [List.length_cons]; omega
       ·dsimp only
        rw [nn]
        exact pc hM hsub hn (qH hM1 hnt hS hh hn1)
      | some x =>
       obtain ⟨hx1,hx2,_,hx3⟩:=q9 hg hh
       rw [hx1,if_neg (by simp),hx2] at hb
       have hMi : MatX (Su y) (tri (((i : Int),true) :: t1)) (oe g):=hM1.more hsub'
       have hni : ¬ rS (tri (((i : Int),true) :: t1)) (oe g) x:=fun ⟨j,hj,e⟩ => by
        have : j = i:=hM1.inj j i x (fun h => hj (hsub' j h)) hnt e hh
        subst this; exact hj hi1
       obtain ⟨r,t',g',hr,hg',hl1,hl2,hs',hcase⟩:=ih x (((i : Int),true) :: t1) g hx3 hg (by omega) (by rw [List.length_cons]; omega) (by omega) hMi hni
       rw [hr,oB] at hb
       dsimp only at hb
       rw [List.length_cons] at hl1
       have hut:=iK y.fB.length (tri t')
       rcases hcase with ⟨rfl,hA⟩ | ⟨rfl,rfl,hA⟩
       ·rw [if_pos rfl,gPo ⟨nl (by omega),by omega⟩] at hb
        refine .inr ⟨_,hb,rfl,hg'.cons hlt' ho,?_,?_,fun k hk => hs' k (hsub' k (hsub k hk)),?_⟩
        ·dsimp only; omega
        ·dsimp only; rw [List.length_cons]; omega
        ·dsimp only
         rw [nn]
         rw [la] at hA
         exact pc hM hsub hn (pD hM1 hnt hS hh hn1 hA)
       ·rw [if_neg (by simp)] at hb
        refine .inl ⟨_,hb,⟨i + 1,t',rfl,hlt',fun k hk => hs' k (hsub' k (hsub k hk)),by omega,fun k hk hnk => ?_,fun k hk hs => ?_⟩,by dsimp only; omega,fun t h => h⟩
        ·by_cases hk1 : tri (((i : Int),true) :: t1) k
         ·by_cases hki : k = i
          ·subst hki
           exact ⟨x,hh,fun k' hk' => hA.own k' hk'⟩
          ·rw [la] at hk1
           have hk2 : tri t1 k:=hk1.elim id fun e => absurd e hki
           obtain ⟨z,e,hz⟩:=hsh k hk2 hnk
           exact ⟨z,e,fun k' hk' => hs' k' (hsub' k' (hz k' hk'))⟩
         ·exact hA.shut k hk hk1
        ·rcases Nat.lt_or_ge k i with h | h
         ·exact hs' k (hsub' k (hown k h hs))
         ·have : k = i:=by omega
          subst this; exact hs' k hi1
    ·have : i = y.fB.length:=by omega
     subst this
     refine .inr ⟨.inr (false,((y.fB.length : Nat) : Int),t1,g),?_,rfl,hlen,hsub,hsh,fun k hs => hown k hs.2.1 hs⟩
     unfold bQ; dsimp only
     rw [kj (by omega)]) (false,0,t,g) ⟨0,t,rfl,Nat.zero_le _,fun _ h => h,Int.le_refl _,fun k h1 h2 => absurd h1 h2,fun k hk => absurd hk (Nat.not_lt_zero _)⟩
  obtain ⟨out,hr,hpost⟩:=hinv
  unfold bo dP
  rw [hr,oB]
  rcases out with u | u
  ·obtain ⟨h1,h2,h3,h4,h5,h6⟩:=hpost
   refine ⟨u.1,u.2.2.1,u.2.2.2,rfl,h2,h3,h4,h5,.inl ⟨h1,h6⟩⟩
  ·obtain ⟨h1,h2,h3⟩:=hpost
   have:=sW (nB:=y.fB.length) h3.sub
   refine ⟨false,u.2.2.1,u.2.2.2,rfl,by rw [h1]; exact hg,h2,by rw [h1]; omega,h3.sub,.inr ⟨rfl,h1,h3⟩⟩
set_option linter.unusedSimpArgs false
structure Fine (y : TY) : Prop where
 bays : y.fB.length ≤ 24
 ords : y.fOrders.length < 20
 low : ∀ i,0 ≤ wo y i
 high : ∀ i,wo y i ≤ 2000
def isum (f : Int → Int) : List Int → Int
 | [] => 0
 | k :: ks => f k + isum f ks
open Classical in
theorem tl {f : Int → Int} {n : Nat} : ∀ (ks : List Int),ks.Nodup → (∀ k ∈ ks,∃ j : Nat,k = (j : Int) ∧ j < n) → isum f ks = sm n fun j => if (j : Int) ∈ ks then f (j : Int) else 0
 | [],_,_ => by rw [o1 fun i _ => by simp]; rfl
 | k :: ks,hn,h => by
  obtain ⟨j,rfl,hj⟩:=h k (List.mem_cons_self ..)
  rw [List.nodup_cons] at hn
  have ih:=tl (f:=f) (n:=n) ks hn.2 fun k hk => h k (List.mem_cons_of_mem _ hk)
  show f (j : Int) + isum f ks = _
  rw [ih]
  have:=nm (f:=fun i : Nat => if (i : Int) ∈ ks then f (i : Int) else 0) (g:=fun i : Nat => if (i : Int) ∈ (j : Int) :: ks then f (i : Int) else 0) hj (fun i _ hi => by
   have e : ((i : Int) ∈ (j : Int) :: ks) ↔ ((i : Int) ∈ ks):=by rw [List.mem_cons]; exact ⟨fun h => h.elim (fun e => absurd (by omega) hi) id,.inr⟩
   by_cases hc : (i : Int) ∈ ks
   ·rw [if_pos hc,if_pos (e.2 hc)]
   ·rw [if_neg hc,if_neg fun hh => hc (e.1 hh)])
  rw [this,if_neg hn.1,if_pos (List.mem_cons_self ..)]
  omega
theorem Opt.bound {S : Nat → Nat → Prop} {w : Nat → Int} {nB : Nat} {V : Int} (h : Opt S w nB V) (hl : ∀ i,0 ≤ w i) (hw : ∀ i,w i ≤ 2000) : 0 ≤ V ∧ V ≤ 2000 * (nB : Int):=by
 obtain ⟨m,_,e⟩:=h.some
 have h1 : ∀ n,sm n (fun k => ov w (m k)) ≤ 2000 * (n : Int):=fun n => by
  induction n with
  | zero => exact Int.le_refl _
  | succ n ih =>
   show sm n (fun k => ov w (m k)) + ov w (m n) ≤ _
   have : ov w (m n) ≤ 2000:=by
    cases m n with
    | none => show (0 : Int) ≤ 2000; omega
    | some x => exact hw x
   omega
 have h2 : 0 ≤ wor nB w m:=kN fun k _ => by
  cases m k with
  | none => exact Int.le_refl _
  | some x => exact hl x
 have:=h1 nB
 unfold wor at h2 e
 omega
set_option linter.unusedSimpArgs false
def bayB (b : TBay) : Bool:=decide (1 ≤ b.fID ∧ b.fID ≤ 1099511627776) && (decide (0 ≤ b.fHour ∧ b.fHour ≤ 16384) && decide (0 ≤ b.fD ∧ b.fD ≤ 9))
def ordB (o : TO) : Bool:=decide (1 ≤ o.fID ∧ o.fID ≤ 1099511627776) && (decide (0 ≤ o.fH.fLo ∧ o.fH.fLo ≤ 16384) && (decide (0 ≤ o.fH.fHi ∧ o.fH.fHi ≤ 16384) && (!decide (o.fH.fHi < o.fH.fLo) && (decide (0 ≤ o.fD ∧ o.fD ≤ 9) && decide (1 ≤ o.fW ∧ o.fW ≤ 1000)))))
def rJ {α : Type} [Inhabited α] (l : List α) (ok : α → Bool) (id : α → Int) (k : Nat) : Option Int:=if ok (l.getD k default) = false then some 1 else if qE l (fun x => id x == id (l.getD k default)) < (k : Int) then some 6 else none
def qh {α : Type} [Inhabited α] (l : List α) (ok : α → Bool) (id : α → Int) : Option Int:=(List.range l.length).findSome? (rJ l ok id)
theorem od {α : Type} [Inhabited α] {l : List α} {ok : α → Bool} {id : α → Int} : qh l ok id = none ↔ (∀ x ∈ l,ok x = true) ∧ (l.map id).Nodup:=by
 unfold qh
 rw [List.findSome?_eq_none_iff]
 constructor
 ·intro h
  have h1 : ∀ k,(hk : k < l.length) → ok l[k] = true ∧ ¬ qE l (fun x => id x == id l[k]) < (k : Int):=fun k hk => by
   have:=h k (List.mem_range.2 hk)
   unfold rJ at this
   rw [fJ hk] at this
   split at this
   ·cases this
   ·split at this
    ·cases this
    ·rename_i a b
     exact ⟨by cases hh : ok l[k]; exact absurd hh a; rfl,b⟩
  refine ⟨fun x hx => ?_,jV.1 fun k hk => (h1 k hk).2⟩
  obtain ⟨k,hk,rfl⟩:=List.mem_iff_getElem.1 hx
  exact (h1 k hk).1
 ·rintro ⟨h1,h2⟩ k hk
  have hk':=List.mem_range.1 hk
  unfold rJ
  rw [fJ hk',if_neg (by rw [h1 _ (List.getElem_mem hk')]; simp),if_neg (jV.2 h2 k hk')]
theorem rH {α : Type} [Inhabited α] {l : List α} {ok : α → Bool} {id : α → Int} {e : Int} (h : qh l ok id = some e) : e = 1 ∨ e = 6:=by
 obtain ⟨k,hk,he⟩:=List.exists_of_findSome?_eq_some h
 unfold rJ at he
 split at he
 ·cases he; exact .inl rfl
 ·split at he
  ·cases he; exact .inr rfl
  ·cases he
structure Good (y : TY) : Prop where
 bays : y.fB.length ≤ 24
 ords : y.fOrders.length ≤ 24
 bay : ∀ b ∈ y.fB,bayB b = true
 ord : ∀ o ∈ y.fOrders,ordB o = true
 bayN : (y.fB.map (·.fID)).Nodup
 ordN : (y.fOrders.map (·.fID)).Nodup
theorem r9 {n : Nat} (R : Nat → Option Int) : (List.range n).findSome? (fun k => (R k).map fun e => (Sum.inl (e,(k : Int)) : (Int × Int) ⊕ (Int × Int))) = none ∧ (List.range n).findSome? R = none ∨ ∃ e k,(List.range n).findSome? (fun k => (R k).map fun e => (Sum.inl (e,(k : Int)) : (Int × Int) ⊕ (Int × Int))) = some (.inl (e,k)) ∧ (List.range n).findSome? R = some e:=by
 induction n with
 | zero => exact .inl ⟨rfl,rfl⟩
 | succ n ih =>
  rw [List.range_succ,List.findSome?_append,List.findSome?_append]
  rcases ih with ⟨h1,h2⟩ | ⟨e,k,h1,h2⟩
  ·rw [h1,h2]
   cases hR : R n with
   | none => exact .inl (by simp [hR])
   | some e => exact .inr ⟨e,(n : Int),by simp [hR]⟩
  ·rw [h1,h2]
   exact .inr ⟨e,k,rfl,rfl⟩
theorem err_loop {body : (Int × Int) → Option ((Int × Int) ⊕ ((Int × Int) ⊕ (Int × Int)))} {n : Nat} (R : Nat → Option Int) {e0 : Int} (h : ∀ k,k < n → body (e0,(k : Int)) = some (match R k with | none => .inl (e0,((k + 1 : Nat) : Int)) | some e => .inr (.inl (e,(k : Int))))) (hs : body (e0,(n : Int)) = some (.inr (.inr (e0,(n : Int))))) :
  ((List.range n).findSome? R = none ∧ aT body (e0,0) = some (.inr (e0,(n : Int)))) ∨ ∃ e k,(List.range n).findSome? R = some e ∧ aT body (e0,0) = some (.inl (e,k)):=by
 have:=kA (body:=body) (fun k => (e0,(k : Int))) n (fun k => (R k).map fun e => (Sum.inl (e,(k : Int)) : (Int × Int) ⊕ (Int × Int))) (t0:=.inr (e0,(n : Int))) (fun k hk => by
  rw [h k hk]
  cases R k <;> rfl) hs
 have h0 : aT body (e0,0) = _:=this
 rw [h0]
 rcases r9 (n:=n) R with ⟨h1,h2⟩ | ⟨e,k,h1,h2⟩
 ·exact .inl ⟨h2,by rw [h1]; rfl⟩
 ·exact .inr ⟨e,k,h2,by rw [h1]; rfl⟩
theorem Good.worth {y : TY} (h : Good y) {i : Nat} (hi : i < y.fOrders.length) : 1 ≤ wo y i ∧ wo y i ≤ 1000:=by
 have:=h.ord y.fOrders[i] (List.getElem_mem hi)
 unfold ordB at this
 simp only [Bool.and_eq_true,decide_eq_true_eq] at this
 unfold wo oat
 rw [fJ hi]
 exact this.2.2.2.2.2
set_option linter.unusedSimpArgs false
theorem orB {b c : Bool} : (if b = true then (some true) else (some c)) = some (b || c):=by cases b <;> rfl
def sx (n : Int) : Bool:=decide (0 ≤ n ∧ n ≤ 16384)
def dl (last : Int) : List TSpan → Bool
 | [] => true
 | s :: l => !((decide (s.fLo < last + 2) || decide (s.fHi < s.fLo)) || decide (16384 < s.fHi)) && dl s.fHi l
theorem pN (last : Int) (s : TSpan) (l : List TSpan) : dl last (s :: l) = (!((decide (s.fLo < last + 2) || decide (s.fHi < s.fLo)) || decide (16384 < s.fHi)) && dl s.fHi l):=rfl
theorem dS {last : Int} {s : TSpan} {l : List TSpan} : dl last (s :: l) = true ↔ last + 2 ≤ s.fLo ∧ s.fLo ≤ s.fHi ∧ s.fHi ≤ 16384 ∧ dl s.fHi l = true:=by
 rw [pN,Bool.and_eq_true,Bool.not_eq_true',Bool.or_eq_false_iff,Bool.or_eq_false_iff,decide_eq_false_iff_not,decide_eq_false_iff_not,decide_eq_false_iff_not]
 constructor
 ·rintro ⟨⟨⟨h1,h2⟩,h3⟩,h4⟩
  exact ⟨by omega,by omega,by omega,h4⟩
 ·rintro ⟨h1,h2,h3,h4⟩
  exact ⟨⟨⟨by omega,by omega⟩,by omega⟩,h4⟩
theorem rV {l : List TSpan} (hl : l.length ≤ 1000000) : f7 l = some (dl (-2) l && decide (l.length ≤ 4)):=by
 have hinv:=em (body:=eS l)
  (fun s => ∃ (k : Nat) (last : Int),s = (false,last,(k : Int)) ∧ k ≤ l.length ∧ -2 ≤ last ∧ last ≤ 16384 ∧ dl (-2) l = dl last (l.drop k))
  (fun _ out => match out with
   | .inl u => u.1 = false ∧ dl (-2) l = false
   | .inr _ => dl (-2) l = true)
  (fun s => l.length - s.2.2.toNat) (by
   rintro _ ⟨k,last,rfl,hk,h1,h2,hs⟩
   rcases Nat.lt_or_ge k l.length with hlt | hge
   ·rw [List.drop_eq_getElem_cons hlt,pN] at hs
    unfold eS; dsimp only
    rw [jz (by omega),gPo (by omega),bW hlt,dk (by omega) (by omega),du (by omega)]
    by_cases hc : ((decide (l[k].fLo < last + 2) || decide (l[k].fHi < l[k].fLo)) || decide (16384 < l[k].fHi)) = true
    ·rw [if_pos hc]
     exact .inr ⟨_,rfl,rfl,by rw [hs,hc]; rfl⟩
    ·rw [if_neg hc]
     have hc2:=Bool.eq_false_iff.2 hc
     rw [Bool.or_eq_false_iff,Bool.or_eq_false_iff,decide_eq_false_iff_not,decide_eq_false_iff_not,decide_eq_false_iff_not] at hc2
     refine .inl ⟨_,rfl,⟨k + 1,_,rfl,hlt,by omega,by omega,?_⟩,by dsimp only; omega,fun t h => ?_⟩
     ·rw [hs,Bool.eq_false_iff.2 hc,Bool.not_false,Bool.true_and]
     ·exact h
   ·have hke : k = l.length:=by omega
    subst hke
    rw [List.drop_length] at hs
    refine .inr ⟨.inr (false,last,(l.length : Int)),?_,hs⟩
    unfold eS; dsimp only
    rw [kj (by omega)]) (false,-2,0) ⟨0,-2,rfl,Nat.zero_le _,by omega,by omega,rfl⟩
 obtain ⟨out,hr,hp⟩:=hinv
 unfold f7
 rw [hr,oB]
 rcases out with u | u
 ·rw [hp.2]; exact congrArg some hp.1
 ·rw [hp,Bool.true_and]
  exact congrArg some (decide_eq_decide.2 (by omega))
def ia (h : Int) (s : TSpan) : Int:=if s.fLo ≤ h ∧ h ≤ s.fHi then s.fHi + 1 else h
def go (l : List TSpan) (h : Int) : Int:=l.foldl ia h
theorem stepS_le (h : Int) (s : TSpan) : h ≤ ia h s:=by unfold ia; split <;> omega
theorem rE {h h' : Int} (hh : h ≤ h') (s : TSpan) : ia h s ≤ ia h' s:=by unfold ia; split <;> split <;> omega
theorem lR : ∀ (l : List TSpan) (h : Int),h ≤ go l h
 | [],h => Int.le_refl _
 | s :: l,h => Int.le_trans (stepS_le h s) (lR l (ia h s))
theorem pp : ∀ (l : List TSpan) {h h' : Int},h ≤ h' → go l h ≤ go l h'
 | [],_,_,hh => hh
 | s :: l,_,_,hh => pp l (rE hh s)
theorem mD : ∀ {l : List TSpan} {last h : Int},dl last l = true → h < last + 2 → go l h = h
 | [],_,_,_,_ => rfl
 | s :: l,last,h,hs,hh => by
  obtain ⟨h1,h2,h3,h4⟩:=dS.1 hs
  show go l (ia h s) = h
  have : ia h s = h:=if_neg (by omega)
  rw [this]
  exact mD h4 (by omega)
theorem pC : ∀ {l : List TSpan} {last : Int} (h : Int),dl last l = true → go l (go l h) = go l h
 | [],_,_,_ => rfl
 | s :: l,last,h,hs => by
  obtain ⟨h1,h2,h3,h4⟩:=dS.1 hs
  show go l (ia (go l (ia h s)) s) = go l (ia h s)
  by_cases hc : s.fLo ≤ h ∧ h ≤ s.fHi
  ·have e : ia h s = s.fHi + 1:=if_pos hc
   have e2 : go l (s.fHi + 1) = s.fHi + 1:=mD h4 (by omega)
   rw [e,e2,show ia (s.fHi + 1) s = s.fHi + 1 from if_neg (by omega),e2]
  ·have e : ia h s = h:=if_neg hc
   rw [e]
   have hn : ia (go l h) s = go l h:=by
    refine if_neg fun h5 => ?_
    by_cases h6 : h < s.fLo
    ·rw [mD h4 (by omega)] at h5; omega
    ·have:=lR l h; omega
   rw [hn]
   exact pC h h4
theorem r8 : ∀ {l : List TSpan} {last h : Int},dl last l = true → h ≤ 16384 → go l h ≤ 16385
 | [],_,_,_,hh => by unfold go; simp; omega
 | s :: l,last,h,hs,hh => by
  obtain ⟨h1,h2,h3,h4⟩:=dS.1 hs
  show go l (ia h s) ≤ 16385
  unfold ia
  split
  ·rw [mD h4 (by omega)]; omega
  ·exact r8 h4 hh
theorem qM : ∀ {l : List TSpan} {last : Int},dl last l = true → -2 ≤ last → ∀ s ∈ l,-2 ≤ s.fHi ∧ s.fHi ≤ 16384
 | [],_,_,_,s,hm => by cases hm
 | s :: l,last,hs,h0,x,hm => by
  obtain ⟨h1,h2,h3,h4⟩:=dS.1 hs
  rcases List.mem_cons.1 hm with rfl | hm
  ·omega
  ·exact qM h4 (by omega) x hm
theorem enter_eq {t : TT} (hs : dl (-2) t.fK = true) (hl : t.fK.length ≤ 1000000) (h : Int) : gQ t h = some (go t.fK h,sx (go t.fK h)):=by
 have hh:=qM hs (by omega)
 have hrun:=mI (body:=eH t) (fun k => (go (t.fK.take k) h,(k : Int))) t.fK.length (t:=(go t.fK h,(t.fK.length : Int))) (fun k hk => by
  have h1:=hh _ (List.getElem_mem hk)
  unfold eH; dsimp only
  have e : go (t.fK.take (k + 1)) h = ia (go (t.fK.take k) h) t.fK[k]:=by
   rw [List.take_succ_eq_append_getElem hk]
   unfold go
   rw [List.foldl_append]
   rfl
  rw [jz (by omega),gPo (by omega),bW hk,iI,oB,du (by omega),dk (by omega) (by omega),e]
  unfold ia
  by_cases hc : (t.fK[k]).fLo ≤ go (t.fK.take k) h ∧ go (t.fK.take k) h ≤ (t.fK[k]).fHi
  ·rw [if_pos (decide_eq_true hc),if_pos hc]
  ·rw [if_neg (by rw [decide_eq_true_eq]; exact hc),if_neg hc]) (by
  unfold eH; dsimp only
  rw [kj (by omega),List.take_length])
 have h0 : aT (eH t) (h,0) = _:=hrun
 unfold gQ
 rw [h0,oB,nf]
 rfl
def qi (l : List TSpan) : Bool:=dl (-2) l && decide (l.length ≤ 4)
def trB (n : Int) (t : TT) : Bool:=!((((((!decide (1 ≤ t.fID ∧ t.fID ≤ 1099511627776) || !decide (0 ≤ t.fFrom ∧ t.fFrom ≤ n - 1)) || !decide (0 ≤ t.fTo ∧ t.fTo ≤ n - 1)) || t.fFrom == t.fTo) || !decide (1 ≤ t.fLong ∧ t.fLong ≤ 72)) || !decide (0 ≤ t.fToll ∧ t.fToll ≤ 40)) || !qi t.fK)
structure GoodT (n : Int) (t : TT) : Prop where
 id : 1 ≤ t.fID ∧ t.fID ≤ 1099511627776
 fr : 0 ≤ t.fFrom ∧ t.fFrom ≤ n - 1
 to : 0 ≤ t.fTo ∧ t.fTo ≤ n - 1
 ne : t.fFrom ≠ t.fTo
 long : 1 ≤ t.fLong ∧ t.fLong ≤ 72
 toll : 0 ≤ t.fToll ∧ t.fToll ≤ 40
 spans : dl (-2) t.fK = true
 few : t.fK.length ≤ 4
theorem ti {n : Int} {t : TT} : trB n t = true ↔ GoodT n t:=by
 unfold trB qi
 simp only [Bool.not_eq_true',Bool.or_eq_false_iff,Bool.not_eq_false',decide_eq_true_eq,beq_eq_false_iff_ne,Bool.and_eq_true]
 constructor
 ·rintro ⟨⟨⟨⟨⟨⟨h1,h2⟩,h3⟩,h4⟩,h5⟩,h6⟩,h7,h8⟩
  exact ⟨h1,h2,h3,h4,h5,h6,h7,h8⟩
 ·intro h
  exact ⟨⟨⟨⟨⟨⟨h.id,h.fr⟩,h.to⟩,h.ne⟩,h.long⟩,h.toll⟩,h.spans,h.few⟩
def lV (r : TR) : Int:=if ¬ (1 ≤ r.fL ∧ r.fL ≤ 16) then 1 else if r.fT.length > 48 then 2 else (qh r.fT (trB r.fL) (·.fID)).getD 0
structure GoodR (r : TR) : Prop where
 places : 1 ≤ r.fL ∧ r.fL ≤ 16
 len : r.fT.length ≤ 48
 trk : ∀ t ∈ r.fT,GoodT r.fL t
 once : (r.fT.map (·.fID)).Nodup
theorem i6 {r : TR} : lV r = 0 ↔ GoodR r:=by
 unfold lV
 constructor
 ·intro h
  by_cases h1 : 1 ≤ r.fL ∧ r.fL ≤ 16
  ·rw [if_neg (by simp [h1])] at h
   by_cases h2 : r.fT.length > 48
   ·rw [if_pos h2] at h; cases h
   ·rw [if_neg h2] at h
    cases he : qh r.fT (trB r.fL) (·.fID) with
    | some e => rw [he] at h; have:=rH he; dsimp only [Option.getD] at h; omega
    | none =>
     obtain ⟨h3,h4⟩:=od.1 he
     exact ⟨h1,by omega,fun t ht => ti.1 (h3 t ht),h4⟩
  ·rw [if_pos h1] at h; cases h
 ·intro h
  rw [if_neg (by simp [h.places]),if_neg (by have:=h.len; omega),od.2 ⟨fun t ht => ti.2 (h.trk t ht),h.once⟩]
  rfl
def f0 (r : TR) (id : Int) : Int:=qE r.fT fun n => n.fID == id
theorem ra {r : TR} (hl : r.fT.length < 1000000000) (id : Int) : gS r id = some (f0 r id):=by
 unfold gS cd
 rw [ox (f:=fun x3 => gu x3 id) (q:=fun x => x.fID == id) hl (fun x _ => rfl)]
 rfl
theorem qF {r : TR} (hr : ∀ t ∈ r.fT,t.fK.length ≤ 1000000) : gR r = some (lV r):=by
 unfold gR lV
 rw [iI,oB]
 by_cases h1 : 1 ≤ r.fL ∧ r.fL ≤ 16
 ·rw [if_neg (show ¬((!decide (1 ≤ r.fL ∧ r.fL ≤ 16)) = true) by simp [h1]),if_neg (show ¬¬(1 ≤ r.fL ∧ r.fL ≤ 16) by simp [h1])]
  by_cases h2 : r.fT.length > 48
  ·rw [if_pos (by rw [decide_eq_true_eq]; omega),if_pos h2]
  ·rw [if_neg (by rw [decide_eq_true_eq]; omega),if_neg h2]
   have hb:=err_loop (body:=fU r) (n:=r.fT.length) (rJ r.fT (trB r.fL) (·.fID)) (e0:=0) (fun k hk => by
    have hc:=rV (hr _ (List.getElem_mem hk))
    unfold fU gy; dsimp only
    rw [jz (by omega),gPo (by omega),dk (by omega) (by omega),bW hk,hc]
    simp only [iI,oB,orB,ra (show r.fT.length < 1000000000 by omega),du (show k < 9223372036854775807 by omega)]
    unfold rJ
    rw [fJ hk,show (((((((!decide (1 ≤ (r.fT[k]).fID ∧ (r.fT[k]).fID ≤ 1099511627776)) || !decide (0 ≤ (r.fT[k]).fFrom ∧ (r.fT[k]).fFrom ≤ r.fL - 1)) || !decide (0 ≤ (r.fT[k]).fTo ∧ (r.fT[k]).fTo ≤ r.fL - 1)) || (r.fT[k]).fFrom == (r.fT[k]).fTo) || !decide (1 ≤ (r.fT[k]).fLong ∧ (r.fT[k]).fLong ≤ 72)) || !decide (0 ≤ (r.fT[k]).fToll ∧ (r.fT[k]).fToll ≤ 40)) || !(dl (-2) (r.fT[k]).fK && decide ((r.fT[k]).fK.length ≤ 4))) = !trB r.fL r.fT[k] from by unfold trB qi; rw [Bool.not_not]]
    cases hT : trB r.fL r.fT[k] with
    | false => rfl
    | true =>
     rw [if_neg (show ¬((!true) = true) by simp),if_neg (show ¬(true = false) by simp)]
     unfold f0
     dsimp only
     by_cases hi : qE r.fT (fun n => n.fID == (r.fT[k]).fID) < (k : Int)
     ·rw [if_pos (decide_eq_true hi),if_pos hi]
     ·rw [if_neg (by simpa using hi),if_neg hi]) (by
    unfold fU; dsimp only
    rw [kj (by omega)])
   rcases hb with ⟨h3,h4⟩ | ⟨e,k,h3,h4⟩
   ·rw [h4,show qh r.fT (trB r.fL) (·.fID) = none from h3]; rfl
   ·rw [h4,show qh r.fT (trB r.fL) (·.fID) = some e from h3]; rfl
 ·rw [if_pos (by simp; omega),if_pos h1]
def inB (r : TR) (f t h p : Int) : Bool:=((decide (0 ≤ f ∧ f ≤ r.fL - 1) && decide (0 ≤ t ∧ t ≤ r.fL - 1)) && decide (0 ≤ h ∧ h ≤ 16384)) && decide (0 ≤ p ∧ p ≤ 60)
def mL (r : TR) (f t h p : Int) : Int:=if lV r ≠ 0 then lV r else if inB r f t h p = true then 0 else 1
theorem asked_eq {r : TR} (hr : ∀ t ∈ r.fT,t.fK.length ≤ 1000000) (f t h p : Int) : fj r f t h p = some (mL r f t h p):=by
 unfold fj mL
 rw [qF hr,oB]
 by_cases hv : lV r = 0
 ·rw [if_neg (by simp [hv]),if_neg (by simp [hv])]
  have hp:=(i6.1 hv).places
  rw [dk (by omega) (by omega)]
  simp only [iI,nf,oB,orB]
  unfold inB
  cases decide (0 ≤ f ∧ f ≤ r.fL - 1) <;> cases decide (0 ≤ t ∧ t ≤ r.fL - 1) <;> cases decide (0 ≤ h ∧ h ≤ 16384) <;> cases decide (0 ≤ p ∧ p ≤ 60) <;> rfl
 ·rw [if_pos (by simpa using hv),if_pos hv]
structure AskedOk (r : TR) (f t h p : Int) : Prop where
 good : GoodR r
 fr : 0 ≤ f ∧ f < r.fL
 to : 0 ≤ t ∧ t < r.fL
 hour : 0 ≤ h ∧ h ≤ 16384
 purse : 0 ≤ p ∧ p ≤ 60
theorem lE {r : TR} {f t h p : Int} : mL r f t h p = 0 ↔ AskedOk r f t h p:=by
 unfold mL inB
 by_cases hv : lV r = 0
 ·rw [if_neg (by simp [hv])]
  constructor
  ·intro h1
   split at h1
   ·rename_i h2
    simp only [Bool.and_eq_true,decide_eq_true_eq] at h2
    obtain ⟨⟨⟨a,b⟩,c⟩,d⟩:=h2
    exact ⟨i6.1 hv,⟨a.1,by omega⟩,⟨b.1,by omega⟩,c,d⟩
   ·cases h1
  ·intro h1
   have h2:=h1.fr; have h3:=h1.to
   rw [if_pos]
   simp only [Bool.and_eq_true,decide_eq_true_eq]
   exact ⟨⟨⟨by omega,by omega⟩,h1.hour⟩,h1.purse⟩
 ·rw [if_pos hv]
  exact ⟨fun h => absurd h hv,fun h => absurd (i6.2 h.good) hv⟩
set_option linter.unusedSimpArgs false
theorem oO {q : List Twait} {i k : Nat} (hi : i < q.length) (hk : k < q.length) : cl q (i : Int) (k : Int) = some (decide ((q[i]).f_at < (q[k]).f_at)):=by
 unfold cl
 rw [gPo (by omega),gPo (by omega),bW hi,bW hk]
theorem qw {q : List Twait} {i k : Nat} (hi : i < q.length) (hk : k < q.length) : ∃ q',bN q (i : Int) (k : Int) = some q' ∧ q'.Perm q:=by
 unfold bN
 rw [gPo (by omega),gPo (by omega),gPo (by omega),gPo (by omega),bW hi,bW hk,Int.toNat_natCast,Int.toNat_natCast]
 exact ⟨_,rfl,List.set_set_perm hi hk⟩
theorem up_ok {q : List Twait} (hl : q.length ≤ 1000000000) {j : Nat} (hj : j < q.length) : ∃ q',dz q (j : Int) = some q' ∧ q'.Perm q:=by
 have hinv:=em (body:=dq) (fun s => ∃ (k : Nat) (p : List Twait),s = ((k : Int),p) ∧ k < q.length ∧ p.Perm q) (fun _ t => t.2.Perm q) (fun s => s.1.toNat) (by
  rintro _ ⟨k,p,rfl,hk,hp⟩
  have hpl:=hp.length_eq
  unfold dq; dsimp only
  rcases Nat.eq_zero_or_pos k with rfl | h0
  ·have e : w64 (Int.tdiv (w64 (((0 : Nat) : Int) - 1)) 2) = 0:=by decide
   rw [e,if_pos (by rfl),oB,if_pos rfl]
   exact .inr ⟨_,rfl,hp⟩
  ·have e1 : w64 ((k : Int) - 1) = ((k - 1 : Nat) : Int):=by rw [dk (by omega) (by omega)]; omega
   have e2 : Int.tdiv ((k - 1 : Nat) : Int) 2 = (((k - 1) / 2 : Nat) : Int):=rfl
   have e : w64 (Int.tdiv (w64 ((k : Int) - 1)) 2) = (((k - 1) / 2 : Nat) : Int):=by rw [e1,e2,dk (by omega) (by omega)]
   rw [e,if_neg (by rw [beq_iff_eq]; omega),oO (q:=p) (by omega) (by omega),oB,oB]
   by_cases hc : (p[k]).f_at < (p[(k - 1) / 2]).f_at
   ·obtain ⟨p',hs,hp'⟩:=qw (q:=p) (i:=(k - 1) / 2) (k:=k) (by omega) (by omega)
    rw [decide_eq_true hc,if_neg (by simp),hs,oB]
    exact .inl ⟨_,rfl,⟨(k - 1) / 2,p',rfl,by omega,hp'.trans hp⟩,by dsimp only; omega,fun t h => h⟩
   ·rw [decide_eq_false hc,if_pos (by rfl)]
    exact .inr ⟨_,rfl,hp⟩) ((j : Int),q) ⟨j,q,rfl,hj,List.Perm.refl _⟩
 obtain ⟨t,ht,hp⟩:=hinv
 unfold dz
 rw [ht]
 exact ⟨_,rfl,hp⟩
theorem down_ok {q : List Twait} (hl : q.length ≤ 1000000000) {n : Nat} (hn : n ≤ q.length) : ∃ b q',cL q 0 (n : Int) = some (b,q') ∧ q'.Perm q:=by
 have hinv:=em (body:=cP (n : Int)) (fun s => ∃ (k : Nat) (p : List Twait),s = ((k : Int),p) ∧ k ≤ q.length ∧ p.Perm q) (fun _ t => t.2.Perm q) (fun s => q.length - s.1.toNat) (by
  rintro _ ⟨k,p,rfl,hk,hp⟩
  have hpl:=hp.length_eq
  have e1 : w64 (2 * (k : Int)) = ((2 * k : Nat) : Int):=by rw [dk (by omega) (by omega)]; omega
  have e2 : w64 (w64 (2 * (k : Int)) + 1) = ((2 * k + 1 : Nat) : Int):=by rw [e1,dk (by omega) (by omega)]; omega
  have e3 : w64 (w64 (w64 (2 * (k : Int)) + 1) + 1) = ((2 * k + 2 : Nat) : Int):=by rw [e2,dk (by omega) (by omega)]; omega
  unfold cP; dsimp only
  rw [e3,e2]
  have move : ∀ j : Nat,k < j → j < n → ∃ s',(bN p (k : Int) (j : Int)).bind (fun y => (some (Sum.inl ((j : Int),y)) : Option ((Int × List Twait) ⊕ (Int × List Twait)))) = some (.inl s') ∧ (∃ (k : Nat) (p : List Twait),s' = ((k : Int),p) ∧ k ≤ q.length ∧ p.Perm q) ∧ q.length - s'.1.toNat < q.length - k ∧ ∀ t : Int × List Twait,t.2.Perm q → t.2.Perm q:=fun j h1 h2 => by
   obtain ⟨p',hs,hp'⟩:=qw (q:=p) (i:=k) (k:=j) (by omega) (by omega)
   rw [hs,oB]
   exact ⟨_,rfl,⟨j,p',rfl,by omega,hp'.trans hp⟩,by dsimp only; omega,fun t h => h⟩
  have hk2 : (k : Int).toNat = k:=Int.toNat_natCast k
  by_cases h1 : n ≤ 2 * k + 1
  ·rw [if_pos (by rw [Bool.or_eq_true,decide_eq_true_eq]; exact .inl (by omega))]
   exact .inr ⟨_,rfl,hp⟩
  ·rw [if_neg (by rw [Bool.or_eq_true,decide_eq_true_eq,decide_eq_true_eq]; omega)]
   have hc1:=oO (q:=p) (i:=2 * k + 1) (k:=k) (by omega) (by omega)
   by_cases h2 : 2 * k + 2 < n
   ·have hc2:=oO (q:=p) (i:=2 * k + 2) (k:=2 * k + 1) (by omega) (by omega)
    have hc3:=oO (q:=p) (i:=2 * k + 2) (k:=k) (by omega) (by omega)
    rw [jz (by omega),hc2,oB,oB]
    by_cases hc : (p[2 * k + 2]'(by omega)).f_at < (p[2 * k + 1]'(by omega)).f_at
    ·rw [if_pos (decide_eq_true hc),hc3,oB]
     by_cases hd : (p[2 * k + 2]'(by omega)).f_at < (p[k]'(by omega)).f_at
     ·rw [decide_eq_true hd,if_neg (by simp),hk2]
      exact .inl (move (2 * k + 2) (by omega) h2)
     ·rw [decide_eq_false hd,if_pos (by rfl)]
      exact .inr ⟨_,rfl,hp⟩
    ·rw [if_neg (by simp [hc]),hc1,oB]
     by_cases hd : (p[2 * k + 1]'(by omega)).f_at < (p[k]'(by omega)).f_at
     ·rw [decide_eq_true hd,if_neg (by simp),hk2]
      exact .inl (move (2 * k + 1) (by omega) (by omega))
     ·rw [decide_eq_false hd,if_pos (by rfl)]
      exact .inr ⟨_,rfl,hp⟩
   ·rw [kj (by omega),oB,if_neg (by simp),hc1,oB]
    by_cases hd : (p[2 * k + 1]'(by omega)).f_at < (p[k]'(by omega)).f_at
    ·rw [decide_eq_true hd,if_neg (by simp),hk2]
     exact .inl (move (2 * k + 1) (by omega) (by omega))
    ·rw [decide_eq_false hd,if_pos (by rfl)]
     exact .inr ⟨_,rfl,hp⟩) (0,q) ⟨0,q,rfl,Nat.zero_le _,List.Perm.refl _⟩
 obtain ⟨t,ht,hp⟩:=hinv
 unfold cL
 rw [ht]
 exact ⟨_,_,rfl,hp⟩
theorem Pop_ok {q : List Twait} (hl : q.length ≤ 1000000000) (h0 : 0 < q.length) : ∃ x l,cZ q = some (x,l) ∧ (x :: l).Perm q:=by
 have ew : w64 (((q.length : Nat) : Int) - 1) = ((q.length - 1 : Nat) : Int):=by rw [dk (by omega) (by omega)]; omega
 obtain ⟨q1,h1,p1⟩:=qw (q:=q) (i:=0) (k:=q.length - 1) (by omega) (by omega)
 have l1:=p1.length_eq
 obtain ⟨b,q2,h2,p2⟩:=down_ok (q:=q1) (by omega) (n:=q.length - 1) (by omega)
 have l2:=p2.length_eq
 unfold cZ cj
 rw [oB,ew,show (0 : Int) = ((0 : Nat) : Int) from rfl,h1,oB,show ((0 : Nat) : Int) = 0 from rfl,h2,oB]
 unfold gj
 dsimp only
 have ew2 : w64 (((q2.length : Nat) : Int) - 1) = ((q2.length - 1 : Nat) : Int):=by rw [dk (by omega) (by omega)]; omega
 rw [ew2,gPo (by omega),gPo (by omega),bW (by omega),oB,Int.toNat_natCast]
 refine ⟨_,_,rfl,?_⟩
 have e : q2.take (q2.length - 1) ++ [q2[q2.length - 1]'(by omega)] = q2:=by
  rw [← List.take_succ_eq_append_getElem (by omega),List.take_of_length_le (by omega)]
 refine List.Perm.trans ?_ (p2.trans p1)
 show ((q2[q2.length - 1]'(by omega)) :: q2.take (q2.length - 1)).Perm q2
 conv => rhs; rw [← e]
 exact (List.perm_append_comm (l₁:=[q2[q2.length - 1]'(by omega)]) (l₂:=q2.take (q2.length - 1)))
theorem Push_ok {q : List Twait} (hl : q.length + 1 ≤ 1000000000) (x : Twait) : ∃ q',cN q x = some q' ∧ q'.Perm (x :: q):=by
 unfold cN fM cj
 have e : (q ++ [x]).length = q.length + 1:=by simp
 obtain ⟨q',h,hp⟩:=up_ok (q:=q ++ [x]) (by omega) (j:=q.length) (by omega)
 have ew : w64 (((q ++ [x]).length : Int) - 1) = (q.length : Int):=by rw [e,dk (by omega) (by omega)]; omega
 rw [gPo hl,oB,oB,ew,h]
 exact ⟨_,rfl,hp.trans (List.perm_append_comm (l₁:=q) (l₂:=[x]))⟩
set_option linter.unusedSimpArgs false
def lb0 : Tl:=Tl.mk 0 (Ts.mk 0 0) (TLeg.mk 0 0) false
def lab (m : List (Ts × Tl)) (s : Ts) : Option Tl:=if bi m s = true then some (aw lb0 m s) else none
theorem fI (k : Ts) (v : Tl) (m : List (Ts × Tl)) (s : Ts) : lab ((k,v) :: m) s = if k = s then some v else lab m s:=by
 unfold lab
 rw [dT,eP]
 by_cases h : k = s
 ·rw [if_pos h,if_pos h,if_pos h,if_pos rfl]
 ·rw [if_neg h,if_neg h,if_neg h]
theorem kX {m : List (Ts × Tl)} {s : Ts} {l : Tl} (h : lab m s = some l) : bi m s = true ∧ aw lb0 m s = l:=by
 unfold lab at h
 by_cases hh : bi m s = true
 ·rw [if_pos hh] at h; exact ⟨hh,Option.some.inj h⟩
 ·rw [if_neg hh] at h; cases h
theorem qZ {m : List (Ts × Tl)} {s : Ts} (h : lab m s = none) : bi m s = false:=by
 unfold lab at h
 by_cases hh : bi m s = true
 ·rw [if_pos hh] at h; cases h
 ·exact Bool.eq_false_iff.2 hh
def arr (t : TT) (h : Int) : Int:=if go t.fK h + t.fLong ≤ 16384 then go t.fK h + t.fLong else -1
theorem ta {t : TT} {h : Int} (h1 : 0 ≤ arr t h) : go t.fK h + t.fLong ≤ 16384 ∧ arr t h = go t.fK h + t.fLong:=by
 unfold arr at h1 ⊢
 by_cases hc : go t.fK h + t.fLong ≤ 16384
 ·rw [if_pos hc]; exact ⟨hc,rfl⟩
 ·rw [if_neg hc] at h1; omega
structure LOk (r : TR) (f h : Int) (m : List (Ts × Tl)) (s : Ts) (l : Tl) : Prop where
 at0 : h ≤ l.f_at
 at1 : l.f_at ≤ 16384
 place : 0 ≤ s.f_place ∧ s.f_place < r.fL
 toll : 0 ≤ s.f_toll ∧ s.f_toll ≤ 60
 src : (l.f_begin = true ∧ s = ⟨f,0⟩ ∧ l.f_at = h) ∨ (l.f_begin = false ∧ ∃ lp t,lab m l.f_from = some lp ∧ t ∈ r.fT ∧ t.fFrom = l.f_from.f_place ∧ s = ⟨t.fTo,l.f_from.f_toll + t.fToll⟩ ∧ l.f_leg.fTrack = t.fID ∧ lp.f_at ≤ l.f_leg.fHour ∧ go t.fK l.f_leg.fHour = l.f_leg.fHour ∧ l.f_at = l.f_leg.fHour + t.fLong)
def Relax (m : List (Ts × Tl)) (s : Ts) (l : Tl) (t : TT) : Prop:=s.f_toll + t.fToll ≤ 60 → 0 ≤ arr t l.f_at → ∃ l',lab m ⟨t.fTo,s.f_toll + t.fToll⟩ = some l' ∧ l'.f_at ≤ arr t l.f_at
def pY (m : List (Ts × Tl)) (p c : Nat) : Int:=match lab m ⟨(p : Int),(c : Int)⟩ with
 | some l => l.f_at
 | none => 16385
def pot (m : List (Ts × Tl)) : Int:=sm 16 fun p => sm 61 fun c => pY m p c
structure LInv (r : TR) (f h : Int) (D : Ts → List TT) (q : List Twait) (m : List (Ts × Tl)) : Prop where
 beg : lab m ⟨f,0⟩ = some ⟨h,⟨0,0⟩,⟨0,0⟩,true⟩
 lok : ∀ s l,lab m s = some l → LOk r f h m s l
 que : ∀ w ∈ q,∃ l,lab m w.f_stop = some l ∧ l.f_at ≤ w.f_at
 rel : ∀ s l,lab m s = some l → (Twait.mk l.f_at s) ∈ q ∨ ∀ t ∈ D s,Relax m s l t
 szm : (m.length : Int) + pot m ≤ 16000000
 szq : (q.length : Int) + pot m ≤ 16000000
theorem sm_ub {f : Nat → Int} {B : Int} : ∀ {n : Nat},(∀ i,i < n → f i ≤ B) → sm n f ≤ (n : Int) * B
 | 0,_ => by show (0 : Int) ≤ _; omega
 | n + 1,h => by
  have ih:=sm_ub (n:=n) fun i hi => h i (by omega)
  have h1:=h n (by omega)
  show sm n f + f n ≤ _
  have e : ((n + 1 : Nat) : Int) * B = (n : Int) * B + B:=by rw [Int.natCast_add,Int.add_mul]; simp
  omega
theorem pval_hi {m : List (Ts × Tl)} (h : ∀ s l,lab m s = some l → l.f_at ≤ 16384) (p c : Nat) : pY m p c ≤ 16385:=by
 unfold pY
 cases e : lab m ⟨(p : Int),(c : Int)⟩ with
 | none => exact Int.le_refl _
 | some l => have:=h _ _ e; dsimp only; omega
theorem pot_hi {m : List (Ts × Tl)} (h : ∀ s l,lab m s = some l → l.f_at ≤ 16384) : pot m ≤ 15991760:=by
 have h1:=sm_ub (n:=16) (f:=fun p => sm 61 fun c => pY m p c) (B:=999485) fun p _ => by
  have:=sm_ub (n:=61) (f:=fun c => pY m p c) (B:=16385) fun c _ => pval_hi h p c
  omega
 unfold pot
 omega
theorem pot_lo {m : List (Ts × Tl)} (h : ∀ s l,lab m s = some l → 0 ≤ l.f_at) : 0 ≤ pot m:=kN fun p _ => kN fun c _ => by
 unfold pY
 cases e : lab m ⟨(p : Int),(c : Int)⟩ with
 | none => dsimp only; omega
 | some l => have:=h _ _ e; dsimp only; omega
theorem LInv.pot0 {r : TR} {f h : Int} {D : Ts → List TT} {q : List Twait} {m : List (Ts × Tl)} (hI : LInv r f h D q m) (hh : 0 ≤ h) : 0 ≤ pot m:=pot_lo fun s l e => Int.le_trans hh (hI.lok s l e).at0
theorem tv {m : List (Ts × Tl)} {k : Ts} {v : Tl} (hp : 0 ≤ k.f_place ∧ k.f_place < 16) (ht : 0 ≤ k.f_toll ∧ k.f_toll ≤ 60) (hv : v.f_at ≤ 16384) (h0 : 0 ≤ v.f_at) (hlt : ∀ l,lab m k = some l → v.f_at < l.f_at) : pot ((k,v) :: m) + 1 ≤ pot m:=by
 obtain ⟨p,ep⟩ : ∃ p : Nat,k.f_place = (p : Int):=⟨k.f_place.toNat,by omega⟩
 obtain ⟨c,ec⟩ : ∃ c : Nat,k.f_toll = (c : Int):=⟨k.f_toll.toNat,by omega⟩
 have ek : k = ⟨(p : Int),(c : Int)⟩:=by cases k; simp only at ep ec; rw [ep,ec]
 have hle : ∀ i j,pY ((k,v) :: m) i j ≤ pY m i j:=fun i j => by
  unfold pY
  rw [fI]
  by_cases e : k = ⟨(i : Int),(j : Int)⟩
  ·rw [if_pos e]
   cases el : lab m ⟨(i : Int),(j : Int)⟩ with
   | none => dsimp only; omega
   | some l => have:=hlt l (by rw [e]; exact el); dsimp only; omega
  ·rw [if_neg e]; exact Int.le_refl _
 have hlt2 : pY ((k,v) :: m) p c < pY m p c:=by
  unfold pY
  rw [fI,if_pos ek]
  cases el : lab m ⟨(p : Int),(c : Int)⟩ with
  | none => dsimp only; omega
  | some l => have:=hlt l (by rw [ek]; exact el); dsimp only; omega
 have h1:=sm_lt (n:=61) (k:=c) (by omega) (f:=fun j => pY ((k,v) :: m) p j) (g:=fun j => pY m p j) (fun j _ => hle p j) hlt2
 have h2:=sm_lt (n:=16) (k:=p) (by omega) (f:=fun i => sm 61 fun j => pY ((k,v) :: m) i j) (g:=fun i => sm 61 fun j => pY m i j) (fun i _ => nK fun j _ => hle i j) h1
 unfold pot
 omega
theorem LInv.put {r : TR} (hR : GoodR r) {f h : Int} (hh : 0 ≤ h) {D : Ts → List TT} {q q' : List Twait} {m : List (Ts × Tl)} (hI : LInv r f h D q m) {k : Ts} {v : Tl} (hv : LOk r f h m k v) (hb : v.f_begin = false) (hne : v.f_from ≠ k) (hlt : ∀ l,lab m k = some l → v.f_at < l.f_at) (hq : q'.Perm (⟨v.f_at,k⟩ :: q)) : LInv r f h D q' ((k,v) :: m):=by
 have hk : k ≠ ⟨f,0⟩:=fun e => by
  have h1:=hlt _ (by rw [e]; exact hI.beg)
  have h2:=hv.at0
  dsimp only at h1
  omega
 have hp:=tv (m:=m) (k:=k) (v:=v) (by have:=hv.place; have:=hR.places; omega) hv.toll hv.at1 (by have:=hv.at0; omega) hlt
 have low : ∀ s l,lab m s = some l → ∃ l',lab ((k,v) :: m) s = some l' ∧ l'.f_at ≤ l.f_at:=fun s l e => by
  rw [fI]
  by_cases e2 : k = s
  ·rw [if_pos e2]
   have:=hlt l (by rw [e2]; exact e)
   exact ⟨v,rfl,by omega⟩
  ·rw [if_neg e2]; exact ⟨l,e,Int.le_refl _⟩
 refine ⟨by rw [fI,if_neg hk]; exact hI.beg,fun s l e => ?_,fun w hw => ?_,fun s l e => ?_,?_,?_⟩
 ·rw [fI] at e
  have key : ∀ s l,LOk r f h m s l → (l.f_begin = false → l.f_from ≠ k ∨ True) → LOk r f h ((k,v) :: m) s l:=fun s l ho _ => by
   refine ⟨ho.at0,ho.at1,ho.place,ho.toll,?_⟩
   rcases ho.src with hs | ⟨hs,lp,t,h1,h2,h3,h4,h5,h6,h7,h8⟩
   ·exact .inl hs
   ·obtain ⟨l',e1,e2⟩:=low _ _ h1
    exact .inr ⟨hs,l',t,e1,h2,h3,h4,h5,by omega,h7,h8⟩
  by_cases e2 : k = s
  ·rw [if_pos e2] at e
   cases e
   rw [← e2]
   exact key k v hv fun _ => .inr trivial
  ·rw [if_neg e2] at e
   exact key s l (hI.lok s l e) fun _ => .inr trivial
 ·rcases List.mem_cons.1 (hq.mem_iff.1 hw) with rfl | hw
  ·exact ⟨v,by rw [fI,if_pos rfl],Int.le_refl _⟩
  ·obtain ⟨l,e1,e2⟩:=hI.que w hw
   obtain ⟨l',e3,e4⟩:=low _ _ e1
   exact ⟨l',e3,by omega⟩
 ·rw [fI] at e
  by_cases e2 : k = s
  ·rw [if_pos e2] at e
   cases e
   subst e2
   exact .inl (hq.mem_iff.2 List.mem_cons_self)
  ·rw [if_neg e2] at e
   rcases hI.rel s l e with hw | hr
   ·exact .inl (hq.mem_iff.2 (List.mem_cons_of_mem _ hw))
   ·refine .inr fun t ht h1 h2 => ?_
    obtain ⟨l',e3,e4⟩:=hr t ht h1 h2
    obtain ⟨l2,e5,e6⟩:=low _ _ e3
    exact ⟨l2,e5,by omega⟩
 ·have:=hI.szm
  rw [List.length_cons]; omega
 ·have:=hI.szq
  rw [hq.length_eq,List.length_cons]; omega
theorem r2_ok {r : TR} (hR : GoodR r) {x : Twait × List Twait} (ha : 0 ≤ x.1.f_at ∧ x.1.f_at ≤ 16384) (hc : 0 ≤ x.1.f_stop.f_toll ∧ x.1.f_stop.f_toll ≤ 60) {t : TT} (ht : t ∈ r.fT) {m : List (Ts × Tl)} {q : List Twait} (hm : m.length < 1000000000) (hq : q.length + 1 ≤ 1000000000) :
  (cC x (m,q) t = some (.inl (m,q)) ∧ (x.1.f_stop.f_toll + t.fToll ≤ 60 → 0 ≤ arr t x.1.f_at → ∃ l',lab m ⟨t.fTo,x.1.f_stop.f_toll + t.fToll⟩ = some l' ∧ l'.f_at ≤ arr t x.1.f_at)) ∨
  (x.1.f_stop.f_toll + t.fToll ≤ 60 ∧ 0 ≤ arr t x.1.f_at ∧ (∀ l',lab m ⟨t.fTo,x.1.f_stop.f_toll + t.fToll⟩ = some l' → arr t x.1.f_at < l'.f_at) ∧ ∃ q',cC x (m,q) t = some (.inl ((⟨t.fTo,x.1.f_stop.f_toll + t.fToll⟩,⟨arr t x.1.f_at,x.1.f_stop,⟨t.fID,go t.fK x.1.f_at⟩,false⟩) :: m,q')) ∧ q'.Perm (⟨arr t x.1.f_at,⟨t.fTo,x.1.f_stop.f_toll + t.fToll⟩⟩ :: q)):=by
 have hT:=hR.trk t ht
 have h1:=hT.long
 have h2:=hT.toll
 have h3:=lR t.fK x.1.f_at
 have h4:=r8 hT.spans ha.2
 have h5:=hT.to
 have hp:=hR.places
 have ew : w64 (x.1.f_stop.f_toll + t.fToll) = x.1.f_stop.f_toll + t.fToll:=dk (by omega) (by omega)
 have ew2 : w64 (go t.fK x.1.f_at + t.fLong) = go t.fK x.1.f_at + t.fLong:=dk (by omega) (by omega)
 have hokk : aO ⟨t.fTo,x.1.f_stop.f_toll + t.fToll⟩ = true:=by
  unfold aO dW
  simp only [Bool.and_eq_true,decide_eq_true_eq]
  exact ⟨⟨by omega,by omega⟩,by omega,by omega⟩
 unfold cC
 rw [enter_eq hT.spans (by have:=hT.few; omega),oB]
 dsimp only
 rw [ew,ew2,nf,oB,orB,oB]
 by_cases hgo : x.1.f_stop.f_toll + t.fToll ≤ 60 ∧ go t.fK x.1.f_at + t.fLong ≤ 16384
 ·have ea : arr t x.1.f_at = go t.fK x.1.f_at + t.fLong:=if_pos hgo.2
  have c1 : ((!sx (go t.fK x.1.f_at) || decide (60 < x.1.f_stop.f_toll + t.fToll)) || !decide (0 ≤ go t.fK x.1.f_at + t.fLong ∧ go t.fK x.1.f_at + t.fLong ≤ 16384)) = false:=by
   unfold sx
   simp only [Bool.or_eq_false_iff,Bool.not_eq_false',decide_eq_true_eq,decide_eq_false_iff_not]
   omega
  rw [c1,if_neg (by simp),gPo hokk,gPo ⟨hokk,hm⟩,← ea]
  obtain ⟨q',hpu,hpp⟩:=Push_ok (q:=q) hq ⟨arr t x.1.f_at,⟨t.fTo,x.1.f_stop.f_toll + t.fToll⟩⟩
  rw [hpu,oB]
  cases el : lab m ⟨t.fTo,x.1.f_stop.f_toll + t.fToll⟩ with
  | none =>
   rw [qZ el,if_neg (by simp)]
   exact .inr ⟨hgo.1,by omega,fun l' e => (by cases e),q',rfl,hpp⟩
  | some l =>
   obtain ⟨e1,e2⟩:=kX el
   rw [e1,show (Tl.mk 0 (Ts.mk 0 0) (TLeg.mk 0 0) false) = lb0 from rfl,e2,Bool.true_and]
   by_cases hle : l.f_at ≤ arr t x.1.f_at
   ·rw [if_pos (decide_eq_true hle)]
    exact .inl ⟨rfl,fun _ _ => ⟨l,rfl,hle⟩⟩
   ·rw [if_neg (by simpa using hle)]
    exact .inr ⟨hgo.1,by omega,fun l' e => by cases e; omega,q',rfl,hpp⟩
 ·have c1 : ((!sx (go t.fK x.1.f_at) || decide (60 < x.1.f_stop.f_toll + t.fToll)) || !decide (0 ≤ go t.fK x.1.f_at + t.fLong ∧ go t.fK x.1.f_at + t.fLong ≤ 16384)) = true:=by
   unfold sx
   simp only [Bool.or_eq_true,Bool.not_eq_true',decide_eq_true_eq,decide_eq_false_iff_not]
   omega
  rw [c1,if_pos rfl]
  refine .inl ⟨rfl,fun h6 h7 => ?_⟩
  have:=(ta h7).1
  omega
theorem pT {S T α : Type} {fn : S → α → Option (S ⊕ T)} (J : List α → S → Prop) : ∀ (l done : List α) (s : S),J done s → (∀ done x s,x ∈ l → J done s → ∃ s',fn s x = some (.inl s') ∧ J (done ++ [x]) s') → ∃ s',gC fn l s = some (.inl s') ∧ J (done ++ l) s'
 | [],done,s,h,_ => ⟨s,rfl,by rw [List.append_nil]; exact h⟩
 | x :: l,done,s,h,hs => by
  obtain ⟨s',e,h'⟩:=hs done x s List.mem_cons_self h
  obtain ⟨s2,e2,h2⟩:=pT J l (done ++ [x]) s' h' fun d z u hz hu => hs d z u (List.mem_cons_of_mem _ hz) hu
  refine ⟨s2,?_,by rw [List.append_assoc] at h2; exact h2⟩
  show (match fn s x with | none => none | some (.inl s') => gC fn l s' | some (.inr t) => some (.inr t)) = _
  rw [e]
  exact e2
def ml (r : TR) (s : Ts) : List TT:=r.fT.filter fun z => z.fFrom == s.f_place
theorem pu {r : TR} (hR : GoodR r) {f h : Int} (hh : 0 ≤ h) {q : List Twait} {m : List (Ts × Tl)} (hI : LInv r f h (ml r) q m) (h0 : 0 < q.length) : ∃ q' m',dV r (q,m) = some (.inl (q',m')) ∧ LInv r f h (ml r) q' m' ∧ 2 * pot m' + (q'.length : Int) < 2 * pot m + (q.length : Int):=by
 have hp0:=hI.pot0 hh
 have hzq:=hI.szq
 obtain ⟨x,rest,hpop,hperm⟩:=Pop_ok (q:=q) (by omega) h0
 have hlen:=hperm.length_eq
 rw [List.length_cons] at hlen
 obtain ⟨l0,hl0,hle0⟩:=hI.que x (hperm.mem_iff.1 List.mem_cons_self)
 have hlo:=hI.lok _ _ hl0
 obtain ⟨e1,e2⟩:=kX hl0
 have hpl:=hlo.place
 have htl:=hlo.toll
 have hpr:=hR.places
 have ha0:=hlo.at0
 have ha1:=hlo.at1
 have hokk : aO x.f_stop = true:=by
  unfold aO dW
  simp only [Bool.and_eq_true,decide_eq_true_eq]
  exact ⟨⟨by omega,by omega⟩,by omega,by omega⟩
 unfold dV cj
 dsimp only
 rw [oB,jz (by omega),hpop,oB]
 dsimp only
 rw [gPo hokk,show (Tl.mk 0 (Ts.mk 0 0) (TLeg.mk 0 0) false) = lb0 from rfl,e2]
 by_cases hlt : l0.f_at < x.f_at
 ·rw [if_pos (decide_eq_true hlt)]
  refine ⟨rest,m,rfl,⟨hI.beg,hI.lok,fun w hw => hI.que w (hperm.mem_iff.1 (List.mem_cons_of_mem _ hw)),fun s l e => ?_,hI.szm,by omega⟩,by omega⟩
  rcases hI.rel s l e with hw | hr
  ·rcases List.mem_cons.1 (hperm.mem_iff.2 hw) with hx | hw
   ·rw [← hx] at hl0 hlt
    dsimp only at hl0 hlt
    rw [e] at hl0; cases hl0
    omega
   ·exact .inl hw
  ·exact .inr hr
 ·rw [if_neg (by simpa using hlt)]
  have hat : x.f_at = l0.f_at:=by omega
  unfold jd
  rw [oB,gPo (show fq (r,x.f_stop.f_place) by show r.fT.length ≤ 1000; have:=hR.len; omega)]
  have hstart : LInv r f h (fun s => if s = x.f_stop then [] else ml r s) rest m:=⟨hI.beg,hI.lok,fun w hw => hI.que w (hperm.mem_iff.1 (List.mem_cons_of_mem _ hw)),fun s l e => by
   by_cases hs : s = x.f_stop
   ·refine .inr fun t ht => ?_
    rw [if_pos hs] at ht; cases ht
   ·rw [if_neg hs]
    rcases hI.rel s l e with hw | hr
    ·rcases List.mem_cons.1 (hperm.mem_iff.2 hw) with hx | hw
     ·rw [← hx] at hs; exact absurd rfl hs
     ·exact .inl hw
    ·exact .inr hr,hI.szm,by omega⟩
  obtain ⟨⟨m',q'⟩,hf,hJ⟩:=pT (fn:=cC (x,rest)) (fun done (s : List (Ts × Tl) × List Twait) => LInv r f h (fun z => if z = x.f_stop then done else ml r z) s.2 s.1 ∧ lab s.1 x.f_stop = some l0 ∧ 2 * pot s.1 + (s.2.length : Int) ≤ 2 * pot m + (rest.length : Int)) (mU (r,x.f_stop.f_place)) [] (m,rest) ⟨hstart,hl0,Int.le_refl _⟩ (fun done t s hts hs => by
   obtain ⟨m1,q1⟩:=s
   obtain ⟨j1,j2,j3⟩:=hs
   dsimp only at j1 j2 j3
   unfold mU at hts
   obtain ⟨htr,hfr⟩:=List.mem_filter.1 hts
   have hfr2 : t.fFrom = x.f_stop.f_place:=by simpa using hfr
   have hT:=hR.trk t htr
   have hpt:=hT.to
   have hne:=hT.ne
   have htt:=hT.toll
   have hp1:=j1.pot0 hh
   have hz1:=j1.szm
   have hz2:=j1.szq
   have hkne : (⟨t.fTo,x.f_stop.f_toll + t.fToll⟩ : Ts) ≠ x.f_stop:=fun e => by
    have:=congrArg Ts.f_place e
    dsimp only at this
    omega
   rcases r2_ok hR (x:=(x,rest)) (by dsimp only; omega) (by dsimp only; omega) htr (m:=m1) (q:=q1) (by omega) (by omega) with ⟨h1,h2⟩ | ⟨h1,h2,h3,q2,h4,h5⟩
   ·dsimp only at h2
    refine ⟨_,h1,⟨j1.beg,j1.lok,j1.que,fun s l e => ?_,j1.szm,j1.szq⟩,j2,j3⟩
    rcases j1.rel s l e with hw | hr
    ·exact .inl hw
    ·refine .inr fun t' ht' => ?_
     by_cases hs : s = x.f_stop
     ·rw [if_pos hs] at ht' hr
      rcases List.mem_append.1 ht' with h6 | h6
      ·exact hr t' h6
      ·rw [List.mem_singleton.1 h6]
       subst hs
       rw [j2] at e; cases e
       intro h7 h8
       rw [hat] at h2
       exact h2 h7 h8
     ·rw [if_neg hs] at ht' hr
      exact hr t' ht'
   ·dsimp only at h1 h2 h3 h4 h5
    obtain ⟨ea1,ea2⟩:=ta h2
    have hen:=lR t.fK x.f_at
    have hidem:=pC x.f_at hT.spans
    have hlg:=hT.long
    have hput:=j1.put hR hh (k:=⟨t.fTo,x.f_stop.f_toll + t.fToll⟩) (v:=⟨arr t x.f_at,x.f_stop,⟨t.fID,go t.fK x.f_at⟩,false⟩) ⟨by dsimp only; omega,by dsimp only; omega,⟨hpt.1,by dsimp only; omega⟩,by dsimp only; omega,.inr ⟨rfl,l0,t,j2,htr,hfr2,rfl,rfl,by dsimp only; omega,hidem,ea2⟩⟩ rfl (fun e => hkne e.symm) h3 h5
    have hpp:=tv (m:=m1) (k:=⟨t.fTo,x.f_stop.f_toll + t.fToll⟩) (v:=⟨arr t x.f_at,x.f_stop,⟨t.fID,go t.fK x.f_at⟩,false⟩) ⟨hpt.1,by dsimp only; omega⟩ (by dsimp only; omega) (by dsimp only; omega) (by dsimp only; omega) h3
    have hl5:=h5.length_eq
    rw [List.length_cons] at hl5
    refine ⟨_,h4,⟨hput.beg,hput.lok,hput.que,fun s l e => ?_,hput.szm,hput.szq⟩,by dsimp only; rw [fI,if_neg hkne]; exact j2,by dsimp only; omega⟩
    rcases hput.rel s l e with hw | hr
    ·exact .inl hw
    ·refine .inr fun t' ht' => ?_
     by_cases hs : s = x.f_stop
     ·rw [if_pos hs] at ht' hr
      rcases List.mem_append.1 ht' with h6 | h6
      ·exact hr t' h6
      ·rw [List.mem_singleton.1 h6]
       subst hs
       rw [fI,if_neg hkne,j2] at e; cases e
       intro h7 h8
       refine ⟨_,by rw [fI,if_pos rfl],?_⟩
       dsimp only
       rw [hat]
       exact Int.le_refl _
     ·rw [if_neg hs] at ht' hr
      exact hr t' ht')
  rw [hf]
  obtain ⟨j1,j2,j3⟩:=hJ
  dsimp only at j1 j2 j3
  refine ⟨q',m',rfl,⟨j1.beg,j1.lok,j1.que,fun s l e => ?_,j1.szm,j1.szq⟩,by omega⟩
  rcases j1.rel s l e with hw | hr
  ·exact .inl hw
  ·refine .inr ?_
   by_cases hs : s = x.f_stop
   ·rw [if_pos hs] at hr
    rw [hs]
    rw [hs] at hr
    exact hr
   ·rw [if_neg hs] at hr
    exact hr
theorem tw {r : TR} (hR : GoodR r) {f h : Int} (hf : 0 ≤ f ∧ f < r.fL) (hh : 0 ≤ h ∧ h ≤ 16384) : ∃ m,fb r f h = some m ∧ LInv r f h (ml r) [] m:=by
 have hpr:=hR.places
 have hokk : aO ⟨f,0⟩ = true:=by
  unfold aO dW
  simp only [Bool.and_eq_true,decide_eq_true_eq]
  exact ⟨⟨by omega,by omega⟩,by omega,by omega⟩
 have hlab : ∀ s,lab [(⟨f,0⟩,⟨h,⟨0,0⟩,⟨0,0⟩,true⟩)] s = if (⟨f,0⟩ : Ts) = s then some ⟨h,⟨0,0⟩,⟨0,0⟩,true⟩ else none:=fun s => fI _ _ [] s
 have hst : LInv r f h (ml r) [⟨h,⟨f,0⟩⟩] [(⟨f,0⟩,⟨h,⟨0,0⟩,⟨0,0⟩,true⟩)]:=by
  have hall : ∀ s l,lab [((⟨f,0⟩ : Ts),(⟨h,⟨0,0⟩,⟨0,0⟩,true⟩ : Tl))] s = some l → s = ⟨f,0⟩ ∧ l = ⟨h,⟨0,0⟩,⟨0,0⟩,true⟩:=fun s l e => by
   rw [hlab] at e
   by_cases e2 : (⟨f,0⟩ : Ts) = s
   ·rw [if_pos e2] at e; exact ⟨e2.symm,(Option.some.inj e).symm⟩
   ·rw [if_neg e2] at e; cases e
  have hpot:=pot_hi (m:=[((⟨f,0⟩ : Ts),(⟨h,⟨0,0⟩,⟨0,0⟩,true⟩ : Tl))]) fun s l e => by rw [(hall s l e).2]; exact hh.2
  refine ⟨by rw [hlab,if_pos rfl],fun s l e => ?_,fun w hw => ?_,fun s l e => ?_,by simp; omega,by simp; omega⟩
  ·obtain ⟨rfl,rfl⟩:=hall s l e
   exact ⟨Int.le_refl _,hh.2,hf,⟨Int.le_refl _,by dsimp only; omega⟩,.inl ⟨rfl,rfl,rfl⟩⟩
  ·rw [List.mem_singleton.1 hw]
   exact ⟨_,by rw [hlab,if_pos rfl],Int.le_refl _⟩
  ·obtain ⟨rfl,rfl⟩:=hall s l e
   exact .inl List.mem_cons_self
 have hinv:=em (body:=dV r) (fun s => LInv r f h (ml r) s.1 s.2) (fun _ t => LInv r f h (ml r) [] t.2) (fun s => (2 * pot s.2 + (s.1.length : Int)).toNat) (by
  rintro ⟨q,m⟩ hI
  dsimp only at hI
  rcases Nat.eq_zero_or_pos q.length with h0 | h0
  ·have hq : q = []:=List.eq_nil_of_length_eq_zero h0
   subst hq
   refine .inr ⟨([],m),?_,hI⟩
   unfold dV cj
   rfl
  ·obtain ⟨q',m',h1,h2,h3⟩:=pu hR hh.1 hI h0
   have hp:=h2.pot0 hh.1
   exact .inl ⟨_,h1,h2,by dsimp only; omega,fun t h => h⟩) ([⟨h,⟨f,0⟩⟩],[(⟨f,0⟩,⟨h,⟨0,0⟩,⟨0,0⟩,true⟩)]) hst
 obtain ⟨t,ht,hI⟩:=hinv
 unfold fb
 rw [gPo ⟨hokk,by simp⟩,ht]
 exact ⟨t.2,rfl,hI⟩
set_option linter.unusedSimpArgs false
structure PlanOf (y : TY) (h : Nat → Option Nat) (q : Nat → Int) (p : TPlan) : Prop where
 worth : p.fW = wor y.fB.length (wo y) h
 len : p.fG.length = y.fOrders.length
 got : ∀ o k,h k = some o → p.fG.getD o 0 = (bat y k).fID
 not : ∀ o,¬ Dom h o → p.fG.getD o 0 = 0
 plen : p.fP.length = y.fB.length
 price : ∀ k,k < y.fB.length → p.fP.getD k 0 = q k
set_option linter.unusedSimpArgs false
def OkH (nB nO : Nat) (held : List Int) : Prop:=held.length = nB ∧ ∀ k,k < nB → rdL held (k : Int) < 0 ∨ ∃ o : Nat,rdL held (k : Int) = (o : Int) ∧ o < nO
theorem qf {α : Type} [Inhabited α] (l : List α) {k : Nat} (hk : k < l.length) (v : α) (j : Nat) : rdL (l.set k v) (j : Int) = if j = k then v else rdL l (j : Int):=by
 unfold rdL
 rw [Int.toNat_natCast,List.getD_eq_getElem?_getD,List.getD_eq_getElem?_getD]
 by_cases h : j = k
 ·subst h; rw [if_pos rfl,List.getElem?_set_self hk]; rfl
 ·rw [if_neg h,List.getElem?_set_ne (fun e => h e.symm)]
theorem OkH.set {nB nO : Nat} {held : List Int} (h : OkH nB nO held) {k o : Nat} (hk : k < nB) (ho : o < nO) : OkH nB nO (held.set k (o : Int)):=by
 refine ⟨by rw [List.length_set]; exact h.1,fun j hj => ?_⟩
 rw [qf held (by rw [h.1]; exact hk)]
 by_cases e : j = k
 ·rw [if_pos e]; exact .inr ⟨o,rfl,ho⟩
 ·rw [if_neg e]; exact h.2 j hj
structure Nums (n : Nat) (l : List Int) : Prop where
 nat : ∀ x ∈ l,∃ k : Nat,x = (k : Int) ∧ k < n
 once : l.Nodup
set_option linter.unusedSimpArgs false
inductive Tr (r : TR) (f h : Int) : Int → Int → Int → Prop
 | start : Tr r f h f 0 h
 | step {p c a : Int} (t : TT) (n : Int) : Tr r f h p c a → t ∈ r.fT → t.fFrom = p → a ≤ n → go t.fK n = n → Tr r f h t.fTo (c + t.fToll) (n + t.fLong)
theorem Tr.low {r : TR} (hR : GoodR r) {f h p c a : Int} (ht : Tr r f h p c a) : h ≤ a ∧ 0 ≤ c:=by
 induction ht with
 | start => exact ⟨Int.le_refl _,Int.le_refl _⟩
 | step t n _ hm _ hn _ ih =>
  have h1:=(hR.trk t hm).long
  have h2:=(hR.trk t hm).toll
  omega
theorem LInv.reach {r : TR} (hR : GoodR r) {f h : Int} {m : List (Ts × Tl)} (hh : 0 ≤ h) (hI : LInv r f h (ml r) [] m) {p c a : Int} (ht : Tr r f h p c a) : c ≤ 60 → a ≤ 16384 → ∃ l,lab m ⟨p,c⟩ = some l ∧ l.f_at ≤ a:=by
 induction ht with
 | start => exact fun _ _ => ⟨_,hI.beg,Int.le_refl _⟩
 | @step p c a t n hp hm hf hn he ih =>
  intro hc ha
  have hT:=hR.trk t hm
  have h1:=hT.long
  have h2:=hT.toll
  obtain ⟨l,hl,hle⟩:=ih (by omega) (by omega)
  rcases hI.rel _ _ hl with hw | hr
  ·cases hw
  ·have h3:=pp t.fK (Int.le_trans hle hn)
   have e : arr t l.f_at = go t.fK l.f_at + t.fLong:=if_pos (by omega)
   have h4:=lR t.fK l.f_at
   have h5:=(hI.lok _ _ hl).at0
   obtain ⟨l',h6,h7⟩:=hr t (List.mem_filter.2 ⟨hm,by rw [beq_iff_eq]; exact hf⟩) hc (by omega)
   exact ⟨l',h6,by omega⟩
theorem LInv.attain {r : TR} (hR : GoodR r) {f h : Int} {q : List Twait} {D : Ts → List TT} {m : List (Ts × Tl)} (hI : LInv r f h D q m) : ∀ (n : Nat) (s : Ts) (l : Tl),l.f_at - h ≤ (n : Int) → lab m s = some l → Tr r f h s.f_place s.f_toll l.f_at:=by
 intro n
 induction n with
 | zero =>
  intro s l hn hl
  rcases (hI.lok s l hl).src with ⟨_,e,e2⟩ | ⟨_,lp,t,h1,h2,h3,h4,h5,h6,h7,h8⟩
  ·rw [e,e2]; exact .start
  ·have:=(hI.lok _ _ h1).at0
   have:=(hR.trk t h2).long
   omega
 | succ n ih =>
  intro s l hn hl
  rcases (hI.lok s l hl).src with ⟨_,e,e2⟩ | ⟨_,lp,t,h1,h2,h3,h4,h5,h6,h7,h8⟩
  ·rw [e,e2]; exact .start
  ·have hlg:=(hR.trk t h2).long
   have h9:=ih l.f_from lp (by omega) h1
   rw [h4,h8]
   exact .step t _ h9 h2 h3 h6 h7
def tr (r : TR) : List TLeg → Int → Int → Int → Option (Int × Int × Int)
 | [],p,h,c => some (p,h,c)
 | l :: ls,p,h,c => if 0 ≤ f0 r l.fTrack ∧ (rdL r.fT (f0 r l.fTrack)).fFrom = p ∧ h ≤ l.fHour ∧ (0 ≤ l.fHour ∧ l.fHour ≤ 16384) ∧ go (rdL r.fT (f0 r l.fTrack)).fK l.fHour = l.fHour then tr r ls (rdL r.fT (f0 r l.fTrack)).fTo (l.fHour + (rdL r.fT (f0 r l.fTrack)).fLong) (c + (rdL r.fT (f0 r l.fTrack)).fToll) else none
theorem m4 (r : TR) (l : TLeg) (ls : List TLeg) (p h c : Int) : tr r (l :: ls) p h c = if 0 ≤ f0 r l.fTrack ∧ (rdL r.fT (f0 r l.fTrack)).fFrom = p ∧ h ≤ l.fHour ∧ (0 ≤ l.fHour ∧ l.fHour ≤ 16384) ∧ go (rdL r.fT (f0 r l.fTrack)).fK l.fHour = l.fHour then tr r ls (rdL r.fT (f0 r l.fTrack)).fTo (l.fHour + (rdL r.fT (f0 r l.fTrack)).fLong) (c + (rdL r.fT (f0 r l.fTrack)).fToll) else none:=rfl
theorem qD (r : TR) : ∀ (a b : List TLeg) (p h c : Int),tr r (a ++ b) p h c = (tr r a p h c).bind fun x => tr r b x.1 x.2.1 x.2.2
 | [],b,p,h,c => rfl
 | l :: a,b,p,h,c => by
  rw [List.cons_append,m4,m4]
  split
  ·exact qD r a b _ _ _
  ·rfl
theorem sS {r : TR} (hR : GoodR r) {t : TT} (ht : t ∈ r.fT) : 0 ≤ f0 r t.fID ∧ rdL r.fT (f0 r t.fID) = t:=by
 obtain ⟨k,hk,rfl⟩:=List.mem_iff_getElem.1 ht
 have:=lT hR.once hk
 unfold f0
 rw [this,bW hk]
 exact ⟨by omega,rfl⟩
theorem rv {L : List TLeg} (hl : L.length ≤ 1000000) : bV L = some L.reverse:=by
 unfold bV
 have e0 : w64 (((L.length : Nat) : Int) - 1) = (L.length : Int) - 1:=dk (by omega) (by omega)
 have key : ∃ u,aT (bD L) (0,(L.length : Int) - 1,L) = some u ∧ u.2.2.length = L.length ∧ ∀ p : Nat,p < L.length → rdL u.2.2 (p : Int) = rdL L ((L.length - 1 - p : Nat) : Int):=by
  refine em (body:=bD L) (fun s => ∃ i : Nat,s.1 = (i : Int) ∧ s.2.1 = (L.length : Int) - 1 - (i : Int) ∧ 2 * i ≤ L.length ∧ s.2.2.length = L.length ∧ ∀ p : Nat,p < L.length → rdL s.2.2 (p : Int) = if p < i ∨ L.length < p + i + 1 then rdL L ((L.length - 1 - p : Nat) : Int) else rdL L (p : Int)) (fun s u => u.2.2.length = L.length ∧ ∀ p : Nat,p < L.length → rdL u.2.2 (p : Int) = rdL L ((L.length - 1 - p : Nat) : Int)) (fun s => ((L.length : Int) - s.1).toNat) (fun s hs => ?_) _ ⟨0,rfl,by dsimp only; omega,by omega,rfl,fun p hp => by rw [if_neg (by omega)]⟩
  obtain ⟨a,b,X⟩:=s
  obtain ⟨i,i1,i2,i3,i4,i5⟩:=hs
  dsimp only at i1 i2 i4 i5 ⊢
  subst i1 i2
  unfold bD; dsimp only
  by_cases hc : (i : Int) < (L.length : Int) - 1 - (i : Int)
  ·obtain ⟨j,hj⟩ : ∃ j : Nat,j = L.length - 1 - i:=⟨_,rfl⟩
   have hji : (L.length : Int) - 1 - (i : Int) = (j : Int):=by omega
   rw [jz hc,hji,gPo (by omega),gPo (by omega),gPo (by omega),gPo (by omega),du (by omega),dk (x:=(j : Int) - 1) (by omega) (by omega),Int.toNat_natCast,Int.toNat_natCast]
   have ri:=i5 i (by omega)
   have rj:=i5 j (by omega)
   rw [if_neg (by omega)] at ri rj
   refine .inl ⟨_,rfl,⟨i + 1,rfl,by dsimp only; omega,by omega,by dsimp only; rw [List.length_set,List.length_set]; exact i4,fun p hp => ?_⟩,by dsimp only; omega,fun u hu => hu⟩
   dsimp only
   rw [qf _ (by rw [List.length_set]; omega),qf _ (by omega),ri,rj]
   by_cases e1 : p = j
   ·subst e1
    rw [if_pos rfl,if_pos (by omega),show L.length - 1 - p = i by omega]
   ·rw [if_neg e1]
    by_cases e2 : p = i
    ·subst e2
     rw [if_pos rfl,if_pos (by omega),show L.length - 1 - p = j by omega]
    ·rw [if_neg e2,i5 p hp]
     by_cases e3 : p < i ∨ L.length < p + i + 1
     ·rw [if_pos e3,if_pos (by omega)]
     ·rw [if_neg e3,if_neg (by omega)]
  ·rw [kj hc]
   refine .inr ⟨_,rfl,i4,fun p hp => ?_⟩
   dsimp only
   rw [i5 p hp]
   by_cases e3 : p < i ∨ L.length < p + i + 1
   ·rw [if_pos e3]
   ·rw [if_neg e3,show L.length - 1 - p = p by omega]
 obtain ⟨u,u1,u2,u3⟩:=key
 rw [e0,u1,oB]
 refine congrArg some (List.ext_getElem (by rw [u2,List.length_reverse]) (fun p h1 h2 => ?_))
 have h3:=u3 p (by omega)
 rw [bW h1,bW (by omega)] at h3
 rw [h3,List.getElem_reverse]
theorem sa {r : TR} (hR : GoodR r) {f h : Int} (hh : 0 ≤ h) {q : List Twait} {D : Ts → List TT} {m : List (Ts × Tl)} (hI : LInv r f h D q m) : ∀ (n : Nat) (s : Ts) (l : Tl),l.f_at - h ≤ (n : Int) → lab m s = some l → ∃ legs,tr r legs f h 0 = some (s.f_place,l.f_at,s.f_toll) ∧ legs.length ≤ n ∧ ∀ acc : List TLeg,acc.length + n ≤ 1000000000 → ∃ u,aT (cM m) (l,acc) = some (u,acc ++ legs.reverse):=by
 have base : ∀ (n : Nat) (s : Ts) (l : Tl),l.f_begin = true → s = ⟨f,0⟩ → l.f_at = h → ∃ legs,tr r legs f h 0 = some (s.f_place,l.f_at,s.f_toll) ∧ legs.length ≤ n ∧ ∀ acc : List TLeg,acc.length + n ≤ 1000000000 → ∃ u,aT (cM m) (l,acc) = some (u,acc ++ legs.reverse):=fun n s l hb e e2 => by
  refine ⟨[],by rw [e,e2]; rfl,Nat.zero_le _,fun acc _ => ⟨l,?_⟩⟩
  rw [bZ (t:=(l,acc)) (by unfold cM; dsimp only; rw [hb,if_neg (by simp)])]
  simp
 intro n
 induction n with
 | zero =>
  intro s l hn hl
  rcases (hI.lok s l hl).src with ⟨hb,e,e2⟩ | ⟨_,lp,t,h1,h2,h3,h4,h5,h6,h7,h8⟩
  ·exact base 0 s l hb e e2
  ·have:=(hI.lok _ _ h1).at0
   have:=(hR.trk t h2).long
   omega
 | succ n ih =>
  intro s l hn hl
  have hlo:=hI.lok s l hl
  rcases hlo.src with ⟨hb,e,e2⟩ | ⟨hb,lp,t,h1,h2,h3,h4,h5,h6,h7,h8⟩
  ·exact base (n + 1) s l hb e e2
  ·have hT:=hR.trk t h2
   have hlg:=hT.long
   have hlp:=hI.lok _ _ h1
   have hp0:=hlp.at0
   have hp1:=hlp.place
   have hp2:=hlp.toll
   have hat:=hlo.at1
   have hpr:=hR.places
   obtain ⟨legs,g1,g2,g3⟩:=ih l.f_from lp (by omega) h1
   obtain ⟨i1,i2⟩:=sS hR h2
   refine ⟨legs ++ [l.f_leg],?_,by rw [List.length_append]; simp; omega,fun acc hacc => ?_⟩
   ·rw [qD,g1,oB]
    dsimp only
    rw [m4,h5,i2,if_pos ⟨i1,h3,h6,⟨by omega,by omega⟩,h7⟩,h4,h8]
    rfl
   ·have hokk : aO l.f_from = true:=by
     unfold aO dW
     simp only [Bool.and_eq_true,decide_eq_true_eq]
     exact ⟨⟨by omega,by omega⟩,by omega,by omega⟩
    obtain ⟨u,hu⟩:=g3 (acc ++ [l.f_leg]) (by rw [List.length_append]; simp; omega)
    have hstep : cM m (l,acc) = some (.inl (lp,acc ++ [l.f_leg])):=by
     unfold cM; dsimp only
     rw [hb,if_pos (by rfl),gPo (by omega),gPo hokk,show (Tl.mk 0 (Ts.mk 0 0) (TLeg.mk 0 0) false) = lb0 from rfl,(kX h1).2]
    refine ⟨u,?_⟩
    rw [fv hstep,hu,List.reverse_append,List.append_assoc]
    rfl
theorem rq {r : TR} (hR : GoodR r) {f h : Int} (hh : 0 ≤ h) {q : List Twait} {D : Ts → List TT} {m : List (Ts × Tl)} (hI : LInv r f h D q m) {s : Ts} {l : Tl} (hl : lab m s = some l) : ∃ legs,gz m s = some ⟨legs,l.f_at,s.f_toll⟩ ∧ tr r legs f h 0 = some (s.f_place,l.f_at,s.f_toll) ∧ legs.length ≤ 16384:=by
 have hlo:=hI.lok s l hl
 have h0:=hlo.at0
 have h1:=hlo.at1
 have hp1:=hlo.place
 have hp2:=hlo.toll
 have hpr:=hR.places
 have hokk : aO s = true:=by
  unfold aO dW
  simp only [Bool.and_eq_true,decide_eq_true_eq]
  exact ⟨⟨by omega,by omega⟩,by omega,by omega⟩
 obtain ⟨legs,g1,g2,g3⟩:=sa hR hh hI 16384 s l (by omega) hl
 obtain ⟨u,hu⟩:=g3 [] (by simp)
 refine ⟨legs,?_,g1,g2⟩
 unfold gz
 rw [gPo hokk,gPo hokk,show (Tl.mk 0 (Ts.mk 0 0) (TLeg.mk 0 0) false) = lb0 from rfl,(kX hl).2]
 rw [show Tl.mk l.f_at (Ts.mk l.f_from.f_place l.f_from.f_toll) (TLeg.mk l.f_leg.fTrack l.f_leg.fHour) l.f_begin = l from rfl,hu,oB,List.nil_append,rv (by rw [List.length_reverse]; omega),oB,List.reverse_reverse]
set_option linter.unusedSimpArgs false
structure Least (r : TR) (f h p c v : Int) : Prop where
 lo : -1 ≤ v
 hi : v ≤ 16384
 some : 0 ≤ v → ∃ c',c' ≤ c ∧ Tr r f h p c' v
 all : ∀ c' a,Tr r f h p c' a → c' ≤ c → a ≤ 16384 → 0 ≤ v ∧ v ≤ a
theorem Least.unique {r : TR} {f h p c v v' : Int} (a : Least r f h p c v) (b : Least r f h p c v') : v = v':=by
 have h1:=a.lo; have h2:=b.lo
 by_cases hv : 0 ≤ v
 ·obtain ⟨c1,e1,t1⟩:=a.some hv
  obtain ⟨g1,g2⟩:=b.all c1 v t1 e1 a.hi
  obtain ⟨c2,e2,t2⟩:=b.some g1
  have:=a.all c2 v' t2 e2 b.hi
  omega
 ·by_cases hv' : 0 ≤ v'
  ·obtain ⟨c2,e2,t2⟩:=b.some hv'
   have:=a.all c2 v' t2 e2 b.hi
   omega
  ·omega
def eb (m : List (Ts × Tl)) (p : Int) : Nat → Int
 | 0 => -1
 | c + 1 => match lab m ⟨p,(c : Int)⟩ with
  | some l => if eb m p c < 0 ∨ l.f_at < eb m p c then l.f_at else eb m p c
  | none => eb m p c
theorem qA (m : List (Ts × Tl)) (p : Int) (c : Nat) : eb m p (c + 1) = match lab m ⟨p,(c : Int)⟩ with | some l => if eb m p c < 0 ∨ l.f_at < eb m p c then l.f_at else eb m p c | none => eb m p c:=rfl
theorem eb_ok {m : List (Ts × Tl)} {p : Int} (h0 : ∀ s l,lab m s = some l → 0 ≤ l.f_at) : ∀ c : Nat,-1 ≤ eb m p c ∧ (0 ≤ eb m p c → ∃ c' l,c' < c ∧ lab m ⟨p,((c' : Nat) : Int)⟩ = some l ∧ l.f_at = eb m p c) ∧ ∀ c' l,c' < c → lab m ⟨p,((c' : Nat) : Int)⟩ = some l → 0 ≤ eb m p c ∧ eb m p c ≤ l.f_at
 | 0 => ⟨Int.le_refl _,fun h => by unfold eb at h; omega,fun c' l h => by omega⟩
 | c + 1 => by
  obtain ⟨h1,h2,h3⟩:=eb_ok (p:=p) h0 c
  rw [qA]
  have old : ∀ c' l,c' < c + 1 → lab m ⟨p,((c' : Nat) : Int)⟩ = some l → c' < c ∨ c' = c:=fun c' l h _ => by omega
  cases e : lab m ⟨p,(c : Int)⟩ with
  | none =>
   refine ⟨h1,fun h => ?_,fun c' l hc hl => ?_⟩
   ·obtain ⟨c',l,a,b,d⟩:=h2 h
    exact ⟨c',l,by omega,b,d⟩
   ·rcases old c' l hc hl with h | h
    ·exact h3 c' l h hl
    ·rw [h,e] at hl; cases hl
  | some l0 =>
   have hl0:=h0 _ _ e
   dsimp only
   by_cases hc : eb m p c < 0 ∨ l0.f_at < eb m p c
   ·rw [if_pos hc]
    refine ⟨by omega,fun _ => ⟨c,l0,by omega,e,rfl⟩,fun c' l hc' hl => ?_⟩
    rcases old c' l hc' hl with h | h
    ·have:=h3 c' l h hl; omega
    ·rw [h,e] at hl; cases hl; omega
   ·rw [if_neg hc]
    refine ⟨h1,fun h => ?_,fun c' l hc' hl => ?_⟩
    ·obtain ⟨c',l,a,b,d⟩:=h2 h
     exact ⟨c',l,by omega,b,d⟩
    ·rcases old c' l hc' hl with h | h
     ·exact h3 c' l h hl
     ·rw [h,e] at hl; cases hl; omega
theorem tK {m : List (Ts × Tl)} {p : Int} {c : Nat} (hne : eb m p (c + 1) ≠ eb m p c) : ∃ l,lab m ⟨p,(c : Int)⟩ = some l ∧ l.f_at = eb m p (c + 1) ∧ (eb m p c < 0 ∨ l.f_at < eb m p c):=by
 rw [qA] at hne ⊢
 cases e : lab m ⟨p,(c : Int)⟩ with
 | none => rw [e] at hne; exact absurd rfl hne
 | some l =>
  rw [e] at hne
  dsimp only at hne ⊢
  by_cases hc : eb m p c < 0 ∨ l.f_at < eb m p c
  ·rw [if_pos hc]; exact ⟨l,rfl,rfl,hc⟩
  ·rw [if_neg hc] at hne; exact absurd rfl hne
theorem tE {m : List (Ts × Tl)} {p : Int} (h0 : ∀ s l,lab m s = some l → 0 ≤ l.f_at) {c : Nat} : ∀ d,eb m p c < 0 ∨ (0 ≤ eb m p (c + d) ∧ eb m p (c + d) ≤ eb m p c)
 | 0 => by by_cases h : eb m p c < 0; exact .inl h; exact .inr ⟨by rw [Nat.add_zero]; omega,Int.le_refl _⟩
 | d + 1 => by
  rcases tE h0 (c:=c) d with h | h
  ·exact .inl h
  ·refine .inr ?_
   by_cases hne : eb m p (c + d + 1) = eb m p (c + d)
   ·rw [← Nat.add_assoc,hne]; exact h
   ·obtain ⟨l,h1,h2,h3⟩:=tK hne
    have:=h0 _ _ h1
    rw [← Nat.add_assoc]
    omega
theorem LInv.at0 {r : TR} {f h : Int} {q : List Twait} {D : Ts → List TT} {m : List (Ts × Tl)} (hI : LInv r f h D q m) (hh : 0 ≤ h) : ∀ s l,lab m s = some l → 0 ≤ l.f_at:=fun s l e => Int.le_trans hh (hI.lok s l e).at0
theorem my {r : TR} (hR : GoodR r) {f h : Int} (hh : 0 ≤ h) {m : List (Ts × Tl)} (hI : LInv r f h (ml r) [] m) (p : Int) {c : Nat} (hc : c ≤ 60) : Least r f h p (c : Int) (eb m p (c + 1)):=by
 obtain ⟨h1,h2,h3⟩:=eb_ok (p:=p) (hI.at0 hh) (c + 1)
 refine ⟨h1,?_,fun hv => ?_,fun c' a ht hc' ha => ?_⟩
 ·by_cases hv : 0 ≤ eb m p (c + 1)
  ·obtain ⟨c',l,a,b,d⟩:=h2 hv
   have:=(hI.lok _ _ b).at1
   omega
  ·omega
 ·obtain ⟨c',l,a,b,d⟩:=h2 hv
  have ht:=hI.attain hR (l.f_at - h).toNat _ l (by have:=(hI.lok _ _ b).at0; omega) b
  exact ⟨(c' : Int),by omega,by rw [← d]; exact ht⟩
 ·obtain ⟨l,e1,e2⟩:=hI.reach hR hh ht (by omega) ha
  have hl:=ht.low hR
  obtain ⟨k,ek⟩ : ∃ k : Nat,c' = (k : Int):=⟨c'.toNat,by omega⟩
  rw [ek] at e1
  have:=h3 k l (by omega) e1
  omega
def eRow (m : List (Ts × Tl)) (p : Int) : List Int:=(List.range 61).map fun c => eb m p (c + 1)
theorem eRow_at (m : List (Ts × Tl)) (p : Int) {c : Nat} (hc : c < 61) : rdL (eRow m p) (c : Int) = eb m p (c + 1):=by
 have hl : (eRow m p).length = 61:=by simp [eRow]
 rw [bW (by omega)]
 unfold eRow
 rw [List.getElem_map,List.getElem_range]
theorem p7 {r : TR} (hR : GoodR r) {f h : Int} (hh : 0 ≤ h) {q : List Twait} {D : Ts → List TT} {m : List (Ts × Tl)} (hI : LInv r f h D q m) {p : Int} (hp : 0 ≤ p ∧ p < r.fL) : eF m p = some (eRow m p):=by
 have hpr:=hR.places
 have hset : ∀ k,k < 61 → ((List.range k).map (fun c => eb m p (c + 1)) ++ List.replicate (61 - k) 0).set k (eb m p (k + 1)) = (List.range (k + 1)).map (fun c => eb m p (c + 1)) ++ List.replicate (61 - (k + 1)) 0:=fun k hk => by
  rw [List.set_append_right _ _ (by simp),List.length_map,List.length_range,Nat.sub_self,show 61 - k = (61 - (k + 1)) + 1 by omega,List.replicate_succ,List.set_cons_zero,List.range_succ,List.map_append,List.append_assoc]
  rfl
 have hrun:=mI (body:=cX m p) (fun k => (eb m p k,(k : Int),(List.range k).map (fun c => eb m p (c + 1)) ++ List.replicate (61 - k) 0)) 61 (t:=(eb m p 61,(61 : Int),eRow m p)) (fun k hk => by
  have hokk : aO ⟨p,(k : Int)⟩ = true:=by
   unfold aO dW
   simp only [Bool.and_eq_true,decide_eq_true_eq]
   exact ⟨⟨by omega,by omega⟩,by omega,by omega⟩
  unfold cX; dsimp only
  rw [jz (by omega),gPo hokk,gPo (by omega),gPo (by omega),du (by omega),Int.toNat_natCast,show (Tl.mk 0 (Ts.mk 0 0) (TLeg.mk 0 0) false) = lb0 from rfl,← hset k hk,qA]
  cases e : lab m ⟨p,(k : Int)⟩ with
  | none =>
   rw [qZ e,if_neg (by simp)]
  | some l =>
   obtain ⟨e1,e2⟩:=kX e
   rw [e1,e2,Bool.true_and]
   dsimp only
   by_cases hc : eb m p k < 0 ∨ l.f_at < eb m p k
   ·rw [if_pos (by simpa using hc),if_pos hc]
   ·rw [if_neg (by simpa using hc),if_neg hc]) (by
  unfold cX; dsimp only
  rw [kj (by omega)]
  simp [eRow])
 have h0 : aT (cX m p) (-1,0,List.replicate 61 0) = _:=hrun
 unfold eF
 rw [h0]
 rfl
structure FrontOf (r : TR) (f to h : Int) (m : List (Ts × Tl)) (k : Nat) (js : List TJ) : Prop where
 each : ∀ j ∈ js,∃ c : Nat,c < k ∧ j.fToll = (c : Int) ∧ j.fA = eb m to (c + 1) ∧ eb m to (c + 1) ≠ eb m to c ∧ tr r j.fLegs f h 0 = some (to,j.fA,j.fToll) ∧ j.fLegs.length ≤ 16384
 every : ∀ c,c < k → eb m to (c + 1) ≠ eb m to c → ∃ j ∈ js,j.fToll = (c : Int)
 sorted : js.Pairwise fun a b => a.fToll < b.fToll
 len : js.length ≤ k
theorem front_ok {r : TR} (hR : GoodR r) {f to h : Int} (hf : 0 ≤ f ∧ f < r.fL) (ht : 0 ≤ to ∧ to < r.fL) (hh : 0 ≤ h ∧ h ≤ 16384) : ∃ m js,fb r f h = some m ∧ LInv r f h (ml r) [] m ∧ gT r f to h = some js ∧ FrontOf r f to h m 61 js:=by
 obtain ⟨m,hm,hI⟩:=tw hR hf hh
 have hinv:=em (body:=fS to m (eRow m to))
  (fun s => ∃ (k : Nat) (js : List TJ),s = (eb m to k,(k : Int),js) ∧ k ≤ 61 ∧ FrontOf r f to h m k js)
  (fun _ t => FrontOf r f to h m 61 t.2.2)
  (fun s => 61 - s.2.1.toNat) (by
   rintro _ ⟨k,js,rfl,hk,hF⟩
   rcases Nat.lt_or_ge k 61 with hlt | hge
   ·have hl:=hF.len
    unfold fS; dsimp only
    rw [jz (by omega),gPo (by omega),eRow_at m to hlt,du (by omega)]
    by_cases hne : eb m to (k + 1) = eb m to k
    ·rw [if_neg (by simp [hne])]
     refine .inl ⟨_,rfl,⟨k + 1,js,rfl,hlt,fun j hj => ?_,fun c hc hc2 => ?_,hF.sorted,by omega⟩,by dsimp only; omega,fun t h => h⟩
     ·obtain ⟨c,h1,h2⟩:=hF.each j hj
      exact ⟨c,by omega,h2⟩
     ·by_cases e : c = k
      ·rw [e] at hc2; exact absurd hne hc2
      ·exact hF.every c (by omega) hc2
    ·obtain ⟨l,h1,h2,_⟩:=tK hne
     obtain ⟨legs,g1,g2,g3⟩:=rq hR hh.1 hI h1
     rw [if_pos (by simpa using hne),g1,oB,gPo (by omega)]
     refine .inl ⟨_,rfl,⟨k + 1,_,rfl,hlt,fun j hj => ?_,fun c hc hc2 => ?_,?_,by rw [List.length_append]; simp; exact hl⟩,by dsimp only; omega,fun t h => h⟩
     ·rcases List.mem_append.1 hj with hj | hj
      ·obtain ⟨c,a1,a2⟩:=hF.each j hj
       exact ⟨c,by omega,a2⟩
      ·rw [List.mem_singleton.1 hj]
       exact ⟨k,by omega,rfl,h2,hne,g2,g3⟩
     ·by_cases e : c = k
      ·exact ⟨_,List.mem_append.2 (.inr List.mem_cons_self),by rw [e]⟩
      ·obtain ⟨j,a1,a2⟩:=hF.every c (by omega) hc2
       exact ⟨j,List.mem_append.2 (.inl a1),a2⟩
     ·rw [List.pairwise_append]
      refine ⟨hF.sorted,List.pairwise_singleton _ _,fun a ha b hb => ?_⟩
      obtain ⟨c,a1,a2,_⟩:=hF.each a ha
      rw [List.mem_singleton.1 hb]
      dsimp only
      omega
   ·have hke : k = 61:=by omega
    subst hke
    refine .inr ⟨(eb m to 61,((61 : Nat) : Int),js),?_,hF⟩
    unfold fS; dsimp only
    rw [kj (by omega)]) (-1,0,[]) ⟨0,[],rfl,Nat.zero_le _,fun j hj => (by cases hj),fun c hc => by omega,List.Pairwise.nil,Nat.le_refl _⟩
 obtain ⟨t,htl,hF⟩:=hinv
 refine ⟨m,t.2.2,hm,hI,?_,hF⟩
 unfold gT
 rw [hm,oB,p7 hR hh.1 hI ht,oB,htl]
 rfl
theorem tz {purse : Int} {js : List TJ} (hl : js.length ≤ 1000000) : ∃ u,aT (gr purse js) (false,0,[],0,0) = some u ∧ ((u.1 = false ∧ u.2.2 = ([],0,0) ∧ ∀ j ∈ js,purse < j.fToll) ∨ (u.1 = true ∧ ∃ i,∃ hi : i < js.length,u.2.2 = (js[i].fLegs,js[i].fA,js[i].fToll) ∧ js[i].fToll ≤ purse ∧ ∀ i',(hi' : i' < js.length) → i < i' → purse < js[i'].fToll)):=by
 refine em (body:=gr purse js)
  (fun s => ∃ (k : Nat),s.2.1 = (k : Int) ∧ k ≤ js.length ∧ ((s.1 = false ∧ s.2.2 = ([],0,0) ∧ ∀ i,(hi : i < js.length) → i < k → purse < js[i].fToll) ∨ (s.1 = true ∧ ∃ i,∃ hi : i < js.length,i < k ∧ s.2.2 = (js[i].fLegs,js[i].fA,js[i].fToll) ∧ js[i].fToll ≤ purse ∧ ∀ i',(hi' : i' < js.length) → i < i' → i' < k → purse < js[i'].fToll)))
  (fun _ u => (u.1 = false ∧ u.2.2 = ([],0,0) ∧ ∀ j ∈ js,purse < j.fToll) ∨ (u.1 = true ∧ ∃ i,∃ hi : i < js.length,u.2.2 = (js[i].fLegs,js[i].fA,js[i].fToll) ∧ js[i].fToll ≤ purse ∧ ∀ i',(hi' : i' < js.length) → i < i' → purse < js[i'].fToll))
  (fun s => js.length - s.2.1.toNat) (fun s hs => ?_) _ ⟨0,rfl,Nat.zero_le _,.inl ⟨rfl,rfl,fun i hi h => by omega⟩⟩
 obtain ⟨b,i0,x,y,z⟩:=s
 obtain ⟨k,rfl,hk,hs⟩:=hs
 dsimp only at hs ⊢
 unfold gr; dsimp only
 rcases Nat.lt_or_ge k js.length with hlt | hge
 ·rw [jz (by omega),gPo (by omega),bW hlt,du (by omega)]
  by_cases hc : (js[k]).fToll ≤ purse
  ·rw [if_pos (decide_eq_true hc)]
   exact .inl ⟨_,rfl,⟨k + 1,rfl,hlt,.inr ⟨rfl,k,hlt,by omega,rfl,hc,fun i' hi' h1 h2 => by omega⟩⟩,by dsimp only; omega,fun t h => h⟩
  ·rw [if_neg (by simpa using hc)]
   refine .inl ⟨_,rfl,⟨k + 1,rfl,hlt,?_⟩,by dsimp only; omega,fun t h => h⟩
   rcases hs with ⟨h1,h2,h3⟩ | ⟨h1,i,hi,h2,h3,h4,h5⟩
   ·refine .inl ⟨h1,h2,fun i hi h => ?_⟩
    rcases Nat.lt_or_ge i k with h' | h'
    ·exact h3 i hi h'
    ·have : i = k:=by omega
     subst this; omega
   ·refine .inr ⟨h1,i,hi,by omega,h3,h4,fun i' hi' a1 a2 => ?_⟩
    rcases Nat.lt_or_ge i' k with h' | h'
    ·exact h5 i' hi' a1 h'
    ·have : i' = k:=by omega
     subst this; omega
 ·have hke : k = js.length:=by omega
  subst hke
  rw [kj (by omega)]
  refine .inr ⟨_,rfl,?_⟩
  rcases hs with ⟨h1,h2,h3⟩ | ⟨h1,i,hi,h2,h3,h4,h5⟩
  ·exact .inl ⟨h1,h2,fun j hj => by obtain ⟨i,hi,rfl⟩:=List.mem_iff_getElem.1 hj; exact h3 i hi hi⟩
  ·exact .inr ⟨h1,i,hi,h3,h4,fun i' hi' a1 => h5 i' hi' a1 hi'⟩
structure BestJ (r : TR) (f to h purse : Int) (j : TJ) : Prop where
 pos : 0 ≤ j.fA
 least : Least r f h to purse j.fA
 toll : 0 ≤ j.fToll ∧ j.fToll ≤ purse
 legs : tr r j.fLegs f h 0 = some (to,j.fA,j.fToll)
 len : j.fLegs.length ≤ 16384
 least2 : Least r f h to j.fToll j.fA
 first : ∀ c v,0 ≤ c → c < j.fToll → Least r f h to c v → v ≠ j.fA
theorem best_of {r : TR} (hR : GoodR r) {f to h : Int} (hh : 0 ≤ h) {m : List (Ts × Tl)} (hI : LInv r f h (ml r) [] m) {js : List TJ} (hF : FrontOf r f to h m 61 js) {purse : Int} (hp : 0 ≤ purse ∧ purse ≤ 60) : (∀ j ∈ js,purse < j.fToll) ∧ Least r f h to purse (-1) ∨ ∃ i,∃ hi : i < js.length,js[i].fToll ≤ purse ∧ BestJ r f to h purse js[i] ∧ ∀ i',(hi' : i' < js.length) → i < i' → purse < js[i'].fToll:=by
 obtain ⟨pn,ep⟩ : ∃ pn : Nat,purse = (pn : Int):=⟨purse.toNat,by omega⟩
 subst ep
 have hat:=hI.at0 hh
 -- the last change up to a number
 have key : ∀ n,n ≤ 61 → (∀ c,c < n → eb m to (c + 1) = eb m to c) ∧ eb m to n = -1 ∨ ∃ k,k < n ∧ eb m to (k + 1) ≠ eb m to k ∧ eb m to n = eb m to (k + 1) ∧ ∀ c,k < c → c < n → eb m to (c + 1) = eb m to c:=by
  intro n
  induction n with
  | zero => exact fun _ => .inl ⟨fun c h => by omega,rfl⟩
  | succ n ih =>
   intro hn
   by_cases hne : eb m to (n + 1) = eb m to n
   ·rcases ih (by omega) with ⟨h1,h2⟩ | ⟨k,h1,h2,h3,h4⟩
    ·refine .inl ⟨fun c hc => ?_,by rw [hne,h2]⟩
     by_cases e : c = n
     ·rw [e]; exact hne
     ·exact h1 c (by omega)
    ·refine .inr ⟨k,by omega,h2,by rw [hne,h3],fun c a1 a2 => ?_⟩
     by_cases e : c = n
     ·rw [e]; exact hne
     ·exact h4 c a1 (by omega)
   ·exact .inr ⟨n,by omega,hne,rfl,fun c a1 a2 => by omega⟩
 rcases key (pn + 1) (by omega) with ⟨h1,h2⟩ | ⟨k,h1,h2,h3,h4⟩
 ·refine .inl ⟨fun j hj => ?_,by have:=my hR hh hI to (c:=pn) (by omega); rw [h2] at this; exact this⟩
  obtain ⟨c,a1,a2,_,a3,_⟩:=hF.each j hj
  by_cases hc : c < pn + 1
  ·exact absurd (h1 c hc) a3
  ·omega
 ·obtain ⟨j,hj,ej⟩:=hF.every k (by omega) h2
  obtain ⟨i,hi,rfl⟩:=List.mem_iff_getElem.1 hj
  refine .inr ⟨i,hi,by omega,?_,fun i' hi' hlt => ?_⟩
  ·obtain ⟨c,a1,a2,a3,a4,a5,a6⟩:=hF.each _ hj
   have hck : c = k:=by omega
   subst hck
   obtain ⟨l,b1,b2,b3⟩:=tK h2
   have hl:=hat _ _ b1
   have hleast:=my hR hh hI to (c:=pn) (by omega)
   rw [h3,← a3] at hleast
   have hleast2:=my hR hh hI to (c:=c) (by omega)
   rw [← a3,← a2] at hleast2
   refine ⟨by omega,hleast,by omega,a5,a6,hleast2,fun c0 v hc0 hc1 hv e => ?_⟩
   obtain ⟨n0,en⟩ : ∃ n0 : Nat,c0 = (n0 : Int):=⟨c0.toNat,by omega⟩
   subst en
   have hu:=hv.unique (my hR hh hI to (c:=n0) (by omega))
   rcases tE hat (p:=to) (c:=n0 + 1) (c - (n0 + 1)) with g | ⟨g1,g2⟩
   ·omega
   ·rw [show n0 + 1 + (c - (n0 + 1)) = c by omega] at g1 g2
    omega
  ·have hs:=List.pairwise_iff_getElem.1 hF.sorted i i' hi hi' hlt
   obtain ⟨c,a1,a2,_,a3,_⟩:=hF.each _ (List.getElem_mem hi')
   by_cases hc : c < pn + 1
   ·exact absurd (h4 c (by omega) hc) a3
   ·omega
theorem sy {r : TR} (hR : GoodR r) {f to h purse : Int} (hf : 0 ≤ f ∧ f < r.fL) (ht : 0 ≤ to ∧ to < r.fL) (hh : 0 ≤ h ∧ h ≤ 16384) (hp : 0 ≤ purse ∧ purse ≤ 60) : ∃ j b,ik r f to h purse = some (j,b) ∧ ((b = false ∧ j = ⟨[],0,0⟩ ∧ Least r f h to purse (-1)) ∨ (b = true ∧ BestJ r f to h purse j)):=by
 obtain ⟨m,js,hm,hI,hfr,hF⟩:=front_ok hR hf ht hh
 have hlen:=hF.len
 obtain ⟨u,hu,hcase⟩:=tz (purse:=purse) (js:=js) (by omega)
 unfold ik
 rw [hfr,oB,hu,oB]
 refine ⟨_,_,rfl,?_⟩
 rcases best_of hR hh.1 hI hF hp with ⟨h1,h2⟩ | ⟨i,hi,h1,h2,h3⟩
 ·rcases hcase with ⟨g1,g2,_⟩ | ⟨_,i,hi,_,g2,_⟩
  ·refine .inl ⟨g1,?_,h2⟩
   rw [g2]
  ·have:=h1 _ (List.getElem_mem hi); omega
 ·rcases hcase with ⟨_,_,g3⟩ | ⟨g0,i',hi',g1,g2,g3⟩
  ·have:=g3 _ (List.getElem_mem hi); omega
  ·have hii : i = i':=by
    rcases Nat.lt_trichotomy i i' with h | h | h
    ·have:=h3 i' hi' h; omega
    ·exact h
    ·have:=g3 i hi h; omega
   subst hii
   refine .inr ⟨g0,?_⟩
   rw [g1]
   exact h2
set_option linter.unusedSimpArgs false
theorem lK {r : TR} (hr : ∀ t ∈ r.fT,t.fK.length ≤ 1000000) (f to h p : Int) : (mL r f to h p ≠ 0 ∧ c8 r f to h p = some (⟨[],0,0⟩,mL r f to h p)) ∨ (AskedOk r f to h p ∧ ((c8 r f to h p = some (⟨[],0,0⟩,5) ∧ Least r f h to p (-1)) ∨ ∃ j,c8 r f to h p = some (j,0) ∧ BestJ r f to h p j)):=by
 unfold c8
 rw [asked_eq hr,oB]
 by_cases hv : mL r f to h p = 0
 ·have hA:=lE.1 hv
  obtain ⟨j,b,e,hc⟩:=sy hA.good hA.fr hA.to hA.hour hA.purse
  rw [if_neg (by simp [hv]),e,oB]
  refine .inr ⟨hA,?_⟩
  rcases hc with ⟨rfl,_,h2⟩ | ⟨rfl,h2⟩
  ·exact .inl ⟨by rw [if_pos (by rfl)],h2⟩
  ·exact .inr ⟨j,by rw [if_neg (by simp)],h2⟩
 ·rw [if_pos (by simpa using hv)]
  exact .inl ⟨hv,rfl⟩
theorem few_eq {r : TR} (hl : r.fT.length ≤ 9223372036854775807) : ∃ b,dR r = some b ∧ (b = true → ∀ t ∈ r.fT,t.fK.length ≤ 12):=by
 have hinv:=em (body:=cY r)
  (fun s => ∃ k : Nat,s = (false,(k : Int)) ∧ k ≤ r.fT.length ∧ ∀ i,(hi : i < r.fT.length) → i < k → (r.fT[i]).fK.length ≤ 12)
  (fun _ out => match out with
   | .inl u => u.1 = false
   | .inr _ => ∀ i,(hi : i < r.fT.length) → (r.fT[i]).fK.length ≤ 12)
  (fun s => r.fT.length - s.2.toNat) (by
   rintro _ ⟨k,rfl,hk,hall⟩
   unfold cY; dsimp only
   rcases Nat.lt_or_ge k r.fT.length with hlt | hge
   ·rw [jz (by omega),gPo (by omega),bW hlt,du (by omega)]
    by_cases hc : 12 < (((r.fT[k]).fK.length : Nat) : Int)
    ·rw [if_pos (decide_eq_true hc)]
     exact .inr ⟨_,rfl,rfl⟩
    ·rw [if_neg (by simpa using hc)]
     refine .inl ⟨_,rfl,⟨k + 1,rfl,hlt,fun i hi h => ?_⟩,by dsimp only; omega,fun t h => h⟩
     rcases Nat.lt_or_ge i k with h' | h'
     ·exact hall i hi h'
     ·have : i = k:=by omega
      subst this; omega
   ·rw [kj (by omega)]
    exact .inr ⟨_,rfl,fun i hi => hall i hi (by omega)⟩) (false,0) ⟨0,rfl,Nat.zero_le _,fun i hi h => by omega⟩
 obtain ⟨out,hr,hp⟩:=hinv
 unfold dR
 rw [hr,oB]
 rcases out with u | u
 ·exact ⟨_,rfl,fun h => by dsimp only at hp h; rw [hp] at h; cases h⟩
 ·exact ⟨_,rfl,fun _ t ht => by obtain ⟨i,hi,rfl⟩:=List.mem_iff_getElem.1 ht; exact hp i hi⟩
set_option linter.unusedSimpArgs false
open Classical
theorem Matchable.mono {S S' : Nat → Nat → Prop} {A : Nat → Prop} (h : Matchable S A) (hs : ∀ x k,A x → S x k → S' x k) : Matchable S' A:=by
 obtain ⟨m,hM,hd⟩:=h
 exact ⟨m,⟨fun k o e => hs o k ((hd o).1 ⟨k,e⟩) (hM.suit k o e),hM.inj⟩,hd⟩
theorem Matchable.congr {S : Nat → Nat → Prop} {A B : Nat → Prop} (h : Matchable S A) (hab : ∀ x,A x ↔ B x) : Matchable S B:=by
 obtain ⟨m,hM,hd⟩:=h
 exact ⟨m,hM,fun x => (hd x).trans (hab x)⟩
def w1 (y : TY) (first wi : Int) (x : Nat) : Int:=if (x : Int) = first ∨ (x : Int) = wi then 1001 else wo y x
def S1 (y : TY) (wi : Int) (x k : Nat) : Prop:=Su y x k ∧ (x : Int) ≠ wi
theorem S1.fit (y : TY) (wi : Int) : Fit (S1 y wi) y.fB.length y.fOrders.length:=⟨fun o k h => h.1.2.1,fun o k h => h.1.1⟩
def Seen (y : TY) (first wi w : Int) (i : Nat) (x : Nat) : Prop:=(x < y.fOrders.length ∧ (w < wo y x ∨ (wo y x = w ∧ x < i))) ∨ (x : Int) = first ∨ (x : Int) = wi
structure BestI (y : TY) (first wi w : Int) (i : Nat) (l : List Int) : Prop where
 nums : Nums y.fOrders.length l
 greedy : Greedy (S1 y wi) (w1 y first wi) (Seen y first wi w i) (fun x => (x : Int) ∈ l)
 no : ¬ wi ∈ l
theorem Nums.len {n : Nat} {l : List Int} (h : Nums n l) : l.length ≤ n:=by
 have h1 : ∀ (ks : List Int),isum (fun _ => 1) ks = (ks.length : Int):=fun ks => by
  induction ks with
  | nil => rfl
  | cons k ks ih => show 1 + isum (fun _ => 1) ks = _; rw [ih,List.length_cons]; omega
 have h2:=tl (f:=fun _ => 1) (n:=n) l h.once h.nat
 have h3 : ∀ n,sm n (fun _ => 1) = (n : Int):=fun n => by
  induction n with
  | zero => rfl
  | succ n ih => show sm n (fun _ => 1) + 1 = _; rw [ih]; omega
 have h4:=h3 n
 have h5 : sm n (fun j => if (j : Int) ∈ l then (1 : Int) else 0) ≤ sm n (fun _ => 1):=nK fun i _ => by split <;> omega
 rw [h1] at h2
 omega
theorem Opt.congr {S S' : Nat → Nat → Prop} {w w' : Nat → Int} {nB : Nat} {V : Int} (h : Opt S w nB V) (hS : ∀ o k,S o k ↔ S' o k) (hw : ∀ o k,S o k → w o = w' o) : Opt S' w' nB V:=by
 have e : S = S':=funext fun o => funext fun k => propext (hS o k)
 subst e
 have hv : ∀ m,Mat S m → wor nB w m = wor nB w' m:=fun m hM => eY fun k _ => by
  cases e : m k with
  | none => rfl
  | some x => exact hw x k (hM.suit k x e)
 obtain ⟨m,hM,e⟩:=h.some
 exact ⟨⟨m,hM,by rw [← hv m hM]; exact e⟩,fun m hM => by rw [← hv m hM]; exact h.most m hM⟩
set_option linter.unusedSimpArgs false
open Classical
def ga (p : TPlan) (i : Nat) : Int:=p.fG.getD i 0
def pa (p : TPlan) (k : Nat) : Int:=p.fP.getD k 0
def rP (y : TY) (f : Nat → Int) (i : Nat) (a : Int) : Nat → Int
 | 0 => a
 | n + 1 => if oQ (oat y i) (bat y n) = true then min (rP y f i a n) (f n) else rP y f i a n
theorem sj (y : TY) (f : Nat → Int) (i : Nat) (a : Int) : ∀ n,rP y f i a n ≤ a ∧ ∀ k,k < n → oQ (oat y i) (bat y k) = true → rP y f i a n ≤ f k
 | 0 => ⟨Int.le_refl _,fun k hk => by omega⟩
 | n + 1 => by
  obtain ⟨h1,h2⟩:=sj y f i a n
  unfold rP
  split
  ·rename_i hs
   refine ⟨by omega,fun k hk hk2 => ?_⟩
   rcases Nat.lt_or_ge k n with h | h
   ·have:=h2 k h hk2; omega
   ·have : k = n:=by omega
    subst this; omega
  ·rename_i hs
   refine ⟨h1,fun k hk hk2 => ?_⟩
   rcases Nat.lt_or_ge k n with h | h
   ·exact h2 k h hk2
   ·have : k = n:=by omega
    subst this; exact absurd hk2 hs
theorem qc (y : TY) (f : Nat → Int) (i : Nat) (a : Int) : ∀ n,rP y f i a n = a ∨ ∃ k,k < n ∧ oQ (oat y i) (bat y k) = true ∧ rP y f i a n = f k
 | 0 => .inl rfl
 | n + 1 => by
  unfold rP
  split
  ·rename_i hs
   rcases qc y f i a n with h | ⟨k,h1,h2,h3⟩
   ·rcases Int.le_total (rP y f i a n) (f n) with h4 | h4
    ·left; rw [Int.min_eq_left h4]; exact h
    ·right; exact ⟨n,by omega,hs,Int.min_eq_right h4⟩
   ·rcases Int.le_total (rP y f i a n) (f n) with h4 | h4
    ·right; exact ⟨k,by omega,h2,by rw [Int.min_eq_left h4]; exact h3⟩
    ·right; exact ⟨n,by omega,hs,Int.min_eq_right h4⟩
  ·rcases qc y f i a n with h | ⟨k,h1,h2,h3⟩
   ·exact .inl h
   ·exact .inr ⟨k,by omega,h2,h3⟩
def gain (y : TY) (f : Nat → Int) (i : Nat) : Int:=max 0 (wo y i - rP y f i 1001 y.fB.length)
def okAt (y : TY) (p : TPlan) (i : Nat) : Prop:=ga p i = 0 ∨ (0 ≤ bayI y (ga p i) ∧ oQ (oat y i) (rdL y.fB (bayI y (ga p i))) = true ∧ ∀ j,j < i → ga p j ≠ ga p i)
def sumW (y : TY) (p : TPlan) (n : Nat) : Int:=sm n fun i => if ga p i = 0 then 0 else wo y i
structure Proved (y : TY) (p : TPlan) : Prop where
 len : p.fG.length = y.fOrders.length
 plen : p.fP.length = y.fB.length
 price : ∀ k,k < y.fB.length → 0 ≤ pa p k ∧ pa p k ≤ 1000
 ok : ∀ i,i < y.fOrders.length → okAt y p i
 sum : sumW y p y.fOrders.length = p.fW
 bound : sm y.fOrders.length (gain y (pa p)) + sm y.fB.length (pa p) = p.fW
set_option linter.unusedSimpArgs false
open Classical
theorem oZ {y : TY} (hG : Good y) {k : Nat} (hk : k < y.fB.length) : bayI y (bat y k).fID = (k : Int):=by
 unfold bayI bat
 rw [fJ hk]
 exact lT hG.bayN hk
theorem tf {y : TY} (hG : Good y) {k : Nat} (hk : k < y.fB.length) : 1 ≤ (bat y k).fID:=by
 have:=hG.bay y.fB[k] (List.getElem_mem hk)
 unfold bayB at this
 simp only [Bool.and_eq_true,decide_eq_true_eq] at this
 unfold bat
 rw [fJ hk]
 exact this.1.1
theorem PlanOf.proved {y : TY} (hG : Good y) {m : Nat → Option Nat} (hM : Mat (Su y) m) {q u : Nat → Int} (hp : Prices (Su y) (wo y) y.fB.length y.fOrders.length m q u) {p : TPlan} (h : PlanOf y m q p) : Proved y p:=by
 have hF:=Su.fit y
 have hgot : ∀ o k,m k = some o → ga p o = (bat y k).fID ∧ k < y.fB.length ∧ o < y.fOrders.length:=fun o k e => ⟨h.got o k e,hF.bay o k (hM.suit k o e),hF.ord o k (hM.suit k o e)⟩
 have hnz : ∀ o,ga p o = 0 ↔ ¬ Dom m o:=fun o => ⟨fun e ⟨k,ek⟩ => by
  obtain ⟨h1,h2,_⟩:=hgot o k ek
  have:=tf hG h2
  omega,h.not o⟩
 have hpr : ∀ k,k < y.fB.length → pa p k = q k:=h.price
 have hq : ∀ k,k < y.fB.length → 0 ≤ q k ∧ q k ≤ 1000:=fun k hk => ⟨hp.q0 k,by
  cases e : m k with
  | none => rw [hp.free k e]; omega
  | some x => have h1:=hp.held k x e; have h2:=hG.worth (hgot x k e).2.2; omega⟩
 have hgain : ∀ i,i < y.fOrders.length → gain y (pa p) i = u i:=fun i hi => by
  have hw:=hG.worth hi
  obtain ⟨hm1,hm2⟩:=sj y (pa p) i 1001 y.fB.length
  have hm3:=qc y (pa p) i 1001 y.fB.length
  unfold gain
  by_cases hd : Dom m i
  ·obtain ⟨k,e⟩:=hd
   have hs:=hM.suit k i e
   have h1:=hp.uset k i e
   have h2:=hp.held k i e
   have h3:=hm2 k hs.2.1 hs.2.2
   rw [hpr k hs.2.1] at h3
   have h4 : q k ≤ rP y (pa p) i 1001 y.fB.length:=by
    rcases hm3 with h4 | ⟨k',hk',hs',h4⟩
    ·have:=(hq k hs.2.1).2; omega
    ·rw [h4,hpr k' hk']; exact hp.least k i k' e ⟨hi,hk',hs'⟩
   omega
  ·rw [hp.unot i hd]
   have h4 : wo y i ≤ rP y (pa p) i 1001 y.fB.length:=by
    rcases hm3 with h4 | ⟨k',hk',hs',h4⟩
    ·omega
    ·rw [h4,hpr k' hk']; exact hp.out i k' hi hd ⟨hi,hk',hs'⟩
   omega
 refine ⟨h.len,h.plen,fun k hk => by rw [hpr k hk]; exact hq k hk,fun i hi => ?_,?_,?_⟩
 ·by_cases hd : Dom m i
  ·obtain ⟨k,e⟩:=hd
   obtain ⟨h1,h2,_⟩:=hgot i k e
   refine .inr ⟨by rw [h1,oZ hG h2]; omega,by rw [h1,oZ hG h2,so]; exact (hM.suit k i e).2.2,fun j hj ej => ?_⟩
   have hdj : Dom m j:=Classical.byContradiction fun hn => by
    have:=(hnz j).2 hn
    have:=tf hG h2
    omega
   obtain ⟨k',e'⟩:=hdj
   obtain ⟨h1',h2',_⟩:=hgot j k' e'
   have h5:=oZ hG h2
   rw [← h1,← ej,h1',oZ hG h2'] at h5
   have : k' = k:=by omega
   subst this
   rw [e] at e'
   cases e'
   omega
  ·exact .inl ((hnz i).2 hd)
 ·rw [h.worth]
  unfold wor
  rw [bij hF hM (wo y)]
  refine eY fun i _ => ?_
  by_cases hd : Dom m i
  ·rw [if_pos hd,if_neg fun e => (hnz i).1 e hd]
  ·rw [if_neg hd,if_pos ((hnz i).2 hd)]
 ·rw [h.worth,hp.total,eY hgain,eY hpr]
  exact Int.add_comm _ _
set_option linter.unusedSimpArgs false
end Go.Proofs.YthndghnkebboaabGreat
set_option linter.unusedSimpArgs false
namespace Go.Proofs.YthndghnkebboaabGreat
def iC (n : Nat) (id : Nat → Int) (P : Nat → Bool) : List Int:=(List.range n).filterMap fun k => if P k = true then some (id k) else none
theorem lU (n : Nat) (id : Nat → Int) (P : Nat → Bool) : iC (n + 1) id P = if P n = true then iC n id P ++ [id n] else iC n id P:=by
 unfold iC
 rw [List.range_succ,List.filterMap_append]
 by_cases h : P n = true <;> simp [h]
theorem te (n : Nat) (id : Nat → Int) (P : Nat → Bool) : (iC n id P).length ≤ n:=by
 induction n with
 | zero => simp [iC]
 | succ n ih =>
  rw [lU]
  split
  ·rw [List.length_append]; simp; exact ih
  ·omega
theorem mV {n : Nat} {id : Nat → Int} {P : Nat → Bool} {q : Int} : q ∈ iC n id P ↔ ∃ k,k < n ∧ P k = true ∧ id k = q:=by
 unfold iC
 rw [List.mem_filterMap]
 constructor
 ·rintro ⟨k,hk,e⟩
  by_cases h : P k = true
  ·rw [if_pos h] at e; exact ⟨k,List.mem_range.1 hk,h,Option.some.inj e⟩
  ·rw [if_neg h] at e; cases e
 ·rintro ⟨k,hk,h,e⟩
  exact ⟨k,List.mem_range.2 hk,by rw [if_pos h,e]⟩
theorem pushLoop {n : Nat} (id : Nat → Int) (P : Nat → Bool) {body : (Int × List Int) → Option ((Int × List Int) ⊕ (Int × List Int))} (hb : ∀ k,k < n → ∀ L : List Int,L.length ≤ k → body ((k : Int),L) = some (.inl (((k + 1 : Nat) : Int),if P k = true then L ++ [id k] else L))) (hs : ∀ L : List Int,body ((n : Int),L) = some (.inr ((n : Int),L))) : aT body (0,[]) = some ((n : Int),iC n id P):=by
 have h:=mI (body:=body) (fun k => ((k : Int),iC k id P)) n (t:=((n : Int),iC n id P)) (fun k hk => by
  rw [hb k hk _ (te k id P)]
  show _ = some (Sum.inl (((k + 1 : Nat) : Int),iC (k + 1) id P))
  rw [lU]) (hs _)
 exact h
theorem has_eq {L : List Int} (hl : L.length < 1000000000) (n : Int) : db L n = some (decide (n ∈ L)):=by
 unfold db
 have hrun:=kA (body:=cW L n) (fun k => (false,(k : Int))) L.length (fun k => if L.getD k 0 = n then some (Sum.inl (true,(k : Int))) else none) (t0:=.inr (false,(L.length : Int))) (fun k hk => by
  unfold cW; dsimp only
  have eg : L.getD k 0 = L[k]:=by rw [List.getD_eq_getElem?_getD,List.getElem?_eq_getElem hk]; rfl
  rw [jz (by omega),gPo (by omega),bW hk,eg,du (by omega)]
  by_cases e : L[k] = n <;> simp [e]) (by
  unfold cW; dsimp only
  rw [kj (by omega)])
 have h0 : aT (cW L n) (false,0) = _:=hrun
 rw [h0,oB]
 rcases gi (R:=fun k => if L.getD k 0 = n then some (Sum.inl (true,(k : Int)) : (Bool × Int) ⊕ (Bool × Int)) else none) (n:=L.length) (.inr (false,(L.length : Int))) with ⟨hn,h2⟩ | ⟨k,t,hk,hR,hj,h2⟩
 ·rw [h2]
  have : n ∉ L:=fun hm => by
   obtain ⟨k,hk,e⟩:=List.mem_iff_getElem.1 hm
   have:=hn k hk
   rw [List.getD_eq_getElem?_getD,List.getElem?_eq_getElem hk] at this
   simp [e] at this
  simp [this]
 ·rw [h2]
  have hq : L.getD k 0 = n:=by
   by_cases hq : L.getD k 0 = n
   ·exact hq
   ·rw [if_neg hq] at hR; cases hR
  rw [if_pos hq] at hR
  cases hR
  have : n ∈ L:=by
   rw [List.getD_eq_getElem?_getD,List.getElem?_eq_getElem hk] at hq
   rw [← hq]
   exact List.getElem_mem hk
  simp [this]
theorem Sort_eq {L : List Int} (h : L.length ≤ 12) : bJ L = some (ph L):=by
 unfold bJ
 rw [gPo h]
set_option linter.unusedSimpArgs false
open Classical
def okP : List (TT × Int) → Int → Int → Prop
 | [],_,_ => True
 | x :: l,p,a => x.1.fFrom = p ∧ a ≤ x.2 ∧ go x.1.fK x.2 = x.2 ∧ okP l x.1.fTo (x.2 + x.1.fLong)
def endP : List (TT × Int) → Int → Int
 | [],p => p
 | x :: l,_ => endP l x.1.fTo
def pR : List (TT × Int) → Int → Int
 | [],a => a
 | x :: l,_ => pR l (x.2 + x.1.fLong)
def iG : List (TT × Int) → Int
 | [] => 0
 | x :: l => x.1.fToll + iG l
def jL (l : List (TT × Int)) (p : Int) : List Int:=p :: l.map fun x => x.1.fTo
theorem qR : ∀ {l : List (TT × Int)} {p a a' : Int},okP l p a → a' ≤ a → okP l p a'
 | [],_,_,_,_,_ => trivial
 | x :: l,_,_,_,⟨h1,h2,h3,h4⟩,h => ⟨h1,by omega,h3,h4⟩
theorem pH : ∀ (l : List (TT × Int)) {a a' : Int},a' ≤ a → pR l a' ≤ pR l a
 | [],_,_,h => h
 | x :: l,_,_,_ => Int.le_refl _
theorem Tr.along {r : TR} {f h : Int} : ∀ {l : List (TT × Int)} {p c a : Int},Tr r f h p c a → (∀ x ∈ l,x.1 ∈ r.fT) → okP l p a → Tr r f h (endP l p) (c + iG l) (pR l a)
 | [],p,c,a,ht,_,_ => by
  show Tr r f h p (c + 0) a
  rw [Int.add_zero]; exact ht
 | x :: l,p,c,a,ht,hm,⟨h1,h2,h3,h4⟩ => by
  have:=Tr.along (l:=l) (Tr.step x.1 x.2 ht (hm x List.mem_cons_self) h1 h2 h3) (fun y hy => hm y (List.mem_cons_of_mem _ hy)) h4
  have e : c + iG (x :: l) = c + x.1.fToll + iG l:=by show c + (x.1.fToll + iG l) = _; omega
  rw [e]
  exact this
theorem tx : ∀ {l : List (TT × Int)} {p a : Int} (y : TT × Int),okP l p a → y.1.fFrom = endP l p → pR l a ≤ y.2 → go y.1.fK y.2 = y.2 → okP (l ++ [y]) p a ∧ endP (l ++ [y]) p = y.1.fTo ∧ pR (l ++ [y]) a = y.2 + y.1.fLong ∧ iG (l ++ [y]) = iG l + y.1.fToll
 | [],p,a,y,_,h1,h2,h3 => ⟨⟨h1,h2,h3,trivial⟩,rfl,rfl,by show y.1.fToll + 0 = 0 + y.1.fToll; omega⟩
 | x :: l,p,a,y,⟨g1,g2,g3,g4⟩,h1,h2,h3 => by
  obtain ⟨k1,k2,k3,k4⟩:=tx (l:=l) y g4 h1 h2 h3
  exact ⟨⟨g1,g2,g3,k1⟩,k2,k3,by show x.1.fToll + iG (l ++ [y]) = x.1.fToll + iG l + y.1.fToll; omega⟩
theorem Tr.list {r : TR} {f h p c a : Int} (ht : Tr r f h p c a) : ∃ l : List (TT × Int),(∀ x ∈ l,x.1 ∈ r.fT) ∧ okP l f h ∧ endP l f = p ∧ pR l h = a ∧ iG l = c:=by
 induction ht with
 | start => exact ⟨[],fun x hx => (by cases hx),trivial,rfl,rfl,rfl⟩
 | step t n _ hm hf hn he ih =>
  obtain ⟨l,h1,h2,h3,h4,h5⟩:=ih
  obtain ⟨k1,k2,k3,k4⟩:=tx (l:=l) (t,n) h2 (hf.trans h3.symm) (by rw [h4]; exact hn) he
  refine ⟨l ++ [(t,n)],fun x hx => ?_,k1,k2,k3,by rw [k4,h5]⟩
  rcases List.mem_append.1 hx with hx | hx
  ·exact h1 x hx
  ·rw [List.mem_singleton.1 hx]; exact hm
theorem cutP {r : TR} (hR : GoodR r) {p : Int} : ∀ {l : List (TT × Int)} {q a : Int},(∀ x ∈ l,x.1 ∈ r.fT) → okP l q a → p ∈ jL l q → ∃ C,okP C p a ∧ endP C p = endP l q ∧ pR C a ≤ pR l a ∧ iG C ≤ iG l ∧ (∀ x ∈ C,x ∈ l) ∧ (jL C p).Sublist (jL l q)
 | [],q,a,_,_,hp => by
  have e : p = q:=by simpa [jL] using hp
  exact ⟨[],trivial,e,Int.le_refl _,Int.le_refl _,fun x hx => hx,by rw [e]; exact List.Sublist.refl _⟩
 | x :: l,q,a,hm,⟨h1,h2,h3,h4⟩,hp => by
  by_cases e : p = q
  ·subst e
   exact ⟨x :: l,⟨h1,h2,h3,h4⟩,rfl,Int.le_refl _,Int.le_refl _,fun x hx => hx,List.Sublist.refl _⟩
  ·have hx:=hm x List.mem_cons_self
   have hlg:=(hR.trk _ hx).long
   have htl:=(hR.trk _ hx).toll
   have hp' : p ∈ jL l x.1.fTo:=by
    rcases List.mem_cons.1 hp with h | h
    ·exact absurd h e
    ·exact h
   obtain ⟨C,k1,k2,k3,k4,k5,k6⟩:=cutP hR (l:=l) (fun y hy => hm y (List.mem_cons_of_mem _ hy)) h4 hp'
   refine ⟨C,qR k1 (by omega),k2,?_,?_,fun y hy => List.mem_cons_of_mem _ (k5 y hy),k6.trans (List.sublist_cons_self _ _)⟩
   ·have:=pH C (a:=x.2 + x.1.fLong) (a':=a) (by omega)
    show pR C a ≤ pR l (x.2 + x.1.fLong)
    omega
   ·show iG C ≤ x.1.fToll + iG l
    omega
theorem simpleP {r : TR} (hR : GoodR r) : ∀ {l : List (TT × Int)} {p a : Int},(∀ x ∈ l,x.1 ∈ r.fT) → okP l p a → ∃ C,okP C p a ∧ endP C p = endP l p ∧ pR C a ≤ pR l a ∧ iG C ≤ iG l ∧ (∀ x ∈ C,x ∈ l) ∧ (jL C p).Nodup
 | [],p,a,_,_ => ⟨[],trivial,rfl,Int.le_refl _,Int.le_refl _,fun x hx => hx,by simp [jL]⟩
 | x :: l,p,a,hm,⟨h1,h2,h3,h4⟩ => by
  have hx:=hm x List.mem_cons_self
  have hlg:=(hR.trk _ hx).long
  have htl:=(hR.trk _ hx).toll
  have hml : ∀ y ∈ l,y.1 ∈ r.fT:=fun y hy => hm y (List.mem_cons_of_mem _ hy)
  obtain ⟨C,k1,k2,k3,k4,k5,k6⟩:=simpleP hR (l:=l) hml h4
  by_cases hp : p ∈ jL C x.1.fTo
  ·obtain ⟨C2,g1,g2,g3,g4,g5,g6⟩:=cutP hR (l:=C) (fun y hy => hml y (k5 y hy)) k1 hp
   refine ⟨C2,qR g1 (by omega),g2.trans k2,?_,?_,fun y hy => List.mem_cons_of_mem _ (k5 y (g5 y hy)),k6.sublist g6⟩
   ·have:=pH C2 (a:=x.2 + x.1.fLong) (a':=a) (by omega)
    show pR C2 a ≤ pR l (x.2 + x.1.fLong)
    omega
   ·show iG C2 ≤ x.1.fToll + iG l
    omega
  ·refine ⟨x :: C,⟨h1,h2,h3,k1⟩,k2,k3,?_,fun y hy => ?_,List.nodup_cons.2 ⟨hp,k6⟩⟩
   ·show x.1.fToll + iG C ≤ x.1.fToll + iG l
    omega
   ·rcases List.mem_cons.1 hy with rfl | hy
    ·exact List.mem_cons_self
    ·exact List.mem_cons_of_mem _ (k5 y hy)
theorem rL {r : TR} (hR : GoodR r) {p : Int} (hp : 0 ≤ p ∧ p < r.fL) {C : List (TT × Int)} (hm : ∀ x ∈ C,x.1 ∈ r.fT) (hn : (jL C p).Nodup) : C.length + 1 ≤ r.fL.toNat:=by
 have hN : Nums r.fL.toNat (jL C p):=⟨fun x hx => by
  have : 0 ≤ x ∧ x < r.fL:=by
   rcases List.mem_cons.1 hx with rfl | hx
   ·exact hp
   ·obtain ⟨y,hy,rfl⟩:=List.mem_map.1 hx
    have:=(hR.trk _ (hm y hy)).to
    omega
  exact ⟨x.toNat,by omega,by omega⟩,hn⟩
 have:=hN.len
 unfold jL at this
 rw [List.length_cons,List.length_map] at this
 exact this
def nt (r : TR) (k : Nat) : TR:=⟨r.fL,r.fT.take k ++ r.fT.drop (k + 1)⟩
theorem jT (r : TR) (k : Nat) : (nt r k).fT.Sublist r.fT:=by
 show (r.fT.take k ++ r.fT.drop (k + 1)).Sublist r.fT
 rw [← List.eraseIdx_eq_take_drop_succ]
 exact List.eraseIdx_sublist _ _
theorem n2 {r : TR} (hR : GoodR r) (k : Nat) : GoodR (nt r k):=by
 have hs:=jT r k
 exact ⟨hR.places,Nat.le_trans hs.length_le hR.len,fun t ht => hR.trk t (hs.subset ht),hR.once.sublist (hs.map _)⟩
theorem sc {r : TR} (hR : GoodR r) {k : Nat} (hk : k < r.fT.length) {t : TT} (ht : t ∈ r.fT) (hne : t.fID ≠ (r.fT[k]).fID) : t ∈ (nt r k).fT:=by
 show t ∈ r.fT.take k ++ r.fT.drop (k + 1)
 rw [← List.eraseIdx_eq_take_drop_succ,List.mem_eraseIdx_iff_getElem]
 obtain ⟨j,hj,rfl⟩:=List.mem_iff_getElem.1 ht
 exact ⟨j,hj,fun e => hne (by subst e; rfl),rfl⟩
theorem Tr.sub {r r' : TR} (hs : ∀ t ∈ r'.fT,t ∈ r.fT) {f h p c a : Int} (ht : Tr r' f h p c a) : Tr r f h p c a:=by
 induction ht with
 | start => exact .start
 | step t n _ hm hf hn he ih => exact .step t n ih (hs t hm) hf hn he
theorem ql {n : Nat} {id : Nat → Int} {P : Nat → Bool} (hi : ∀ i j,i < n → j < n → id i = id j → i = j) : (iC n id P).Nodup:=by
 have key : ∀ m,m ≤ n → (iC m id P).Nodup:=by
  intro m
  induction m with
  | zero => intro _; simp [iC]
  | succ m ih =>
   intro hm
   rw [lU]
   split
   ·rw [List.nodup_append]
    refine ⟨ih (by omega),by simp,fun a ha b hb e => ?_⟩
    obtain ⟨k,hk,_,e2⟩:=mV.1 ha
    rw [List.mem_singleton.1 hb] at e
    have:=hi k m (by omega) (by omega) (e2.trans e)
    omega
   ·exact ih (by omega)
 exact key n (Nat.le_refl _)
def tid (r : TR) (k : Nat) : Int:=(r.fT.getD k default).fID
def kM (r : TR) (f to h p a : Int) (k : Nat) : Prop:=¬ Least (nt r k) f h to p a
theorem oc {r : TR} {k : Nat} (hk : k < r.fT.length) : tid r k = (r.fT[k]).fID:=by unfold tid; rw [fJ hk]
theorem tj {r : TR} (hR : GoodR r) {i k : Nat} (hi : i < r.fT.length) (hk : k < r.fT.length) (e : tid r i = tid r k) : i = k:=by
 rw [oc hi,oc hk] at e
 have h1:=lT hR.once hi
 have h2:=lT hR.once hk
 rw [e,h2] at h1
 omega
theorem qL {r : TR} (hR : GoodR r) {f to h p a : Int} (hf : 0 ≤ f ∧ f < r.fL) (ha : 0 ≤ a) (hL : Least r f h to p a) : (iC r.fT.length (tid r) fun k => decide (kM r f to h p a k)).length + 1 ≤ r.fL.toNat:=by
 obtain ⟨c,hc,ht⟩:=hL.some ha
 obtain ⟨l,h1,h2,h3,h4,h5⟩:=ht.list
 obtain ⟨C,k1,k2,k3,k4,k5,k6⟩:=simpleP hR h1 h2
 have hmC : ∀ x ∈ C,x.1 ∈ r.fT:=fun x hx => h1 x (k5 x hx)
 have hlen:=rL hR hf hmC k6
 have hsub:=pE (l1:=iC r.fT.length (tid r) fun k => decide (kM r f to h p a k)) (l2:=C.map fun x => x.1.fID) (ql fun i j hi hj e => tj hR hi hj e) fun x hx => by
  obtain ⟨k,hk,hP,rfl⟩:=mV.1 hx
  rw [decide_eq_true_eq] at hP
  by_cases hmem : tid r k ∈ C.map fun x => x.1.fID
  ·exact hmem
  ·refine absurd ?_ hP
   have hmC' : ∀ x ∈ C,x.1 ∈ (nt r k).fT:=fun x hx => sc hR hk (hmC x hx) fun e => hmem (List.mem_map.2 ⟨x,hx,by rw [oc hk]; exact e⟩)
   have ht':=Tr.along (r:=nt r k) (f:=f) (h:=h) .start hmC' k1
   have hhi:=hL.hi
   have hle : pR C h ≤ a:=by omega
   have hup:=ht'.sub fun t ht => (jT r k).subset ht
   rw [k2,h3] at ht' hup
   have:=(hL.all _ _ hup (by omega) (by omega)).2
   have e : pR C h = a:=by omega
   exact ⟨hL.lo,hL.hi,fun _ => ⟨0 + iG C,by omega,by rw [← e]; exact ht'⟩,fun c' a' ht2 hc' ha' => hL.all c' a' (ht2.sub fun t ht => (jT r k).subset ht) hc' ha'⟩
 rw [List.length_map] at hsub
 omega
theorem sQ {r : TR} (hr : ∀ t ∈ r.fT,t.fK.length ≤ 1000000) {f to h p : Int} (hA : AskedOk r f to h p) (h8 : r.fL ≤ 13) {j : TJ} (hj : c8 r f to h p = some (j,0)) (hB : BestJ r f to h p j) : dN r f to h p = some (ph (iC r.fT.length (tid r) fun k => decide (kM r f to h p j.fA k)),0):=by
 have hR:=hA.good
 have hrl:=hR.len
 have hpl:=pushLoop (n:=r.fT.length) (tid r) (fun k => decide (kM r f to h p j.fA k)) (body:=eR r f to h p (j,0)) (fun k hk L hL => by
  have hless:=n2 hR k
  obtain ⟨j2,b,e,hc⟩:=sy hless (f:=f) (to:=to) (h:=h) (purse:=p) hA.fr hA.to hA.hour hA.purse
  unfold eR; dsimp only
  unfold a8 ci
  rw [jz (by omega),gPo (by omega),gPo (by omega),oB,List.nil_append,du (by omega),gPo (by omega),if_neg (by simp; omega),gPo (by omega),gPo (by omega),gPo (by omega),oB,Int.toNat_natCast,Int.toNat_natCast]
  rw [show TR.mk r.fL (r.fT.take k ++ r.fT.drop (k + 1)) = nt r k from rfl,e,oB,gPo (by omega),bW hk,← oc hk]
  dsimp only
  have hcond : ((!b) || (j2.fA != j.fA)) = decide (kM r f to h p j.fA k):=by
   rw [Bool.eq_iff_iff,decide_eq_true_eq]
   unfold kM
   rcases hc with ⟨rfl,rfl,hL2⟩ | ⟨rfl,hB2⟩
   ·refine ⟨fun _ hh => ?_,fun _ => by simp⟩
    have:=hh.unique hL2
    have:=hB.pos
    omega
   ·rw [Bool.or_eq_true,bne_iff_ne]
    constructor
    ·rintro (h1 | h1)
     ·cases h1
     ·exact fun hh => h1 (hB2.least.unique hh)
    ·intro hh
     refine .inr fun e2 => hh ?_
     rw [← e2]
     exact hB2.least
  rw [hcond]
  by_cases hN : kM r f to h p j.fA k
  ·rw [if_pos (decide_eq_true hN),if_pos (decide_eq_true hN)]
  ·rw [if_neg (by simp [hN]),if_neg (by simp [hN])]) (fun L => by
  unfold eR; dsimp only
  rw [kj (by omega)])
 have hfew:=qL hR hA.fr hB.pos hB.least
 have hpr:=hR.places
 unfold dN
 rw [hj,oB,if_neg (by simp),hpl,oB,Sort_eq (L:=iC r.fT.length (tid r) fun k => decide (kM r f to h p j.fA k)) (by omega)]
 rfl
theorem rK {r : TR} (hl : r.fT.length ≤ 9223372036854775807) (h : dR r = some true) : r.fL ≤ 8 ∨ 16 < r.fL:=by
 have hinv:=em (body:=cY r) (fun s => ∃ k : Nat,s = (false,(k : Int)) ∧ k ≤ r.fT.length) (fun _ out => match out with | .inl u => u.1 = false | .inr _ => True) (fun s => r.fT.length - s.2.toNat) (by
   rintro _ ⟨k,rfl,hk⟩
   unfold cY; dsimp only
   rcases Nat.lt_or_ge k r.fT.length with hlt | hge
   ·rw [jz (by omega),gPo (by omega),bW hlt,du (by omega)]
    by_cases hc : 12 < (((r.fT[k]).fK.length : Nat) : Int)
    ·rw [if_pos (decide_eq_true hc)]
     exact .inr ⟨_,rfl,rfl⟩
    ·rw [if_neg (by simpa using hc)]
     exact .inl ⟨_,rfl,⟨k + 1,rfl,hlt⟩,by dsimp only; omega,fun t h => h⟩
   ·rw [kj (by omega)]
    exact .inr ⟨_,rfl,trivial⟩) (false,0) ⟨0,rfl,Nat.zero_le _⟩
 obtain ⟨out,hr,hp⟩:=hinv
 unfold dR at h
 rw [hr,oB] at h
 rcases out with u | u
 ·dsimp only at hp h
  rw [hp] at h; cases h
 ·have h2:=Option.some.inj h
  rw [Bool.and_eq_true,Bool.or_eq_true,decide_eq_true_eq,decide_eq_true_eq] at h2
  exact h2.1
end Go.Proofs.YthndghnkebboaabGreat
