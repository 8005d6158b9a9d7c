import Derived.Test.YthndghnkebboaaaGreatP
import Derived.Test.YthndghnkebboaaaGreatGz
import Derived.Test.YthndghnkebboaaaGreatGy
set_option linter.unusedSimpArgs false
set_option linter.unusedVariables false
namespace Go.Proofs.YthndghnkebboaaaGreat
theorem rg {S T : Type} {body : S → Option (S ⊕ T)} (st : Nat → S) : ∀ (n : Nat),(∀ k,k < n → body (st k) = some (.inl (st (k + 1)))) → aO body (st 0) = aO body (st n)
 | 0,_ => rfl
 | n + 1,h => by rw [rg st n (fun k hk => h k (by omega)),gi (h n (by omega))]
theorem ja {S T : Type} {body : S → Option (S ⊕ T)} (st : Nat → S) (n : Nat) {t : T} (h : ∀ k,k < n → body (st k) = some (.inl (st (k + 1)))) (hs : body (st n) = some (.inr t)) : aO body (st 0) = some t:=by
 rw [rg st n h,ct hs]
theorem gb {S T : Type} {body : S → Option (S ⊕ T)} (st : Nat → S) (n : Nat) (R : Nat → Option T) {t0 : T} (h : ∀ k,k < n → body (st k) = some (match R k with | none => .inl (st (k + 1)) | some t => .inr t)) (hs : body (st n) = some (.inr t0)) :
  aO body (st 0) = some (((List.range n).findSome? R).getD t0):=by
 have key : ∀ c k,k + c = n → aO body (st k) = some (((List.range' k c).findSome? R).getD t0):=by
  intro c
  induction c with
  | zero =>
   intro k hk
   have : k = n:=by omega
   subst this
   rw [ct hs]
   rfl
  | succ c ih =>
   intro k hk
   have hb:=h k (by omega)
   rw [List.range'_succ]
   cases hR : R k with
   | none =>
    rw [hR] at hb
    rw [gi hb,ih (k + 1) (by omega)]
    simp [hR]
   | some t =>
    rw [hR] at hb
    rw [ct hb]
    simp [hR]
 have:=key n 0 (by omega)
 rw [this,List.range_eq_range']
theorem fJ {α : Type} {p : Prop} [Decidable p] {x y : α} (h : p) : (if decide p = true then x else y) = x:=by rw [if_pos (decide_eq_true h)]
theorem en {α : Type} {p : Prop} [Decidable p] {x y : α} (h : ¬p) : (if decide p = true then x else y) = y:=by rw [if_neg (by rw [decide_eq_false h]; exact Bool.false_ne_true)]
theorem cg {α : Type} [Inhabited α] {xs : List α} {k : Nat} (h : k < xs.length) : rdL xs (k : Int) = xs[k]:=by
 unfold rdL
 rw [Int.toNat_natCast,List.getD_eq_getElem?_getD,List.getElem?_eq_getElem h]
 rfl
theorem bc {k : Nat} (h : k < 9223372036854775807) : w64 ((k : Int) + 1) = ((k + 1 : Nat) : Int):=by
 rw [iB (by omega) (by omega)]; rfl
theorem iI {T : Type} {R : Nat → Option T} {n : Nat} (t0 : T) : ((∀ k,k < n → R k = none) ∧ ((List.range n).findSome? R).getD t0 = t0) ∨ ∃ k t,k < n ∧ R k = some t ∧ (∀ j,j < k → R j = none) ∧ ((List.range n).findSome? R).getD t0 = t:=by
 induction n with
 | zero => exact .inl ⟨fun k hk => by omega,rfl⟩
 | succ n ih =>
  rw [List.range_succ,List.findSome?_append]
  rcases ih with ⟨h1,h2⟩ | ⟨k,t,hk,hR,hj,h2⟩
  ·have h3 : (List.range n).findSome? R = none:=List.findSome?_eq_none_iff.2 (fun x hx => h1 x (List.mem_range.1 hx))
   rw [h3]
   cases hR : R n with
   | none => exact .inl ⟨fun k hk => by
    rcases Nat.lt_or_ge k n with h | h
    ·exact h1 k h
    ·rw [show k = n by omega]; exact hR,by simp [hR]⟩
   | some t => exact .inr ⟨n,t,by omega,hR,h1,by simp [hR]⟩
  ·refine .inr ⟨k,t,by omega,hR,hj,?_⟩
   have h3 : ((List.range n).findSome? R) = some t:=by
    cases hf : (List.range n).findSome? R with
    | none => have:=List.findSome?_eq_none_iff.1 hf k (List.mem_range.2 hk); rw [hR] at this; cases this
    | some u => rw [hf] at h2; exact congrArg some h2
   rw [h3]
   rfl
theorem qD {T : Type} {R : Nat → Option T} {n : Nat} {t0 : T} (h : ∀ k,k < n → R k = none) : ((List.range n).findSome? R).getD t0 = t0:=by
 rw [List.findSome?_eq_none_iff.2 (fun x hx => h x (List.mem_range.1 hx))]; rfl
theorem qL {T : Type} {R : Nat → Option T} {n : Nat} {t0 t : T} (k : Nat) (hk : k < n) (hR : R k = some t) (hj : ∀ j,j < k → R j = none) : ((List.range n).findSome? R).getD t0 = t:=by
 rcases iI (R:=R) (n:=n) t0 with ⟨h,_⟩ | ⟨k',t',hk',hR',hj',h⟩
 ·rw [h k hk] at hR; cases hR
 ·rcases Nat.lt_trichotomy k k' with h' | h' | h'
  ·rw [hj' k h'] at hR; cases hR
  ·subst h'; rw [hR] at hR'; cases hR'; exact h
  ·rw [hj k' h'] at hR'; cases hR'
def mK {α : Type} [Inhabited α] (l : List α) (q : α → Bool) : Int:=((List.range l.length).findSome? fun k => if q (l.getD k default) = true then some (k : Int) else none).getD (-1)
theorem dh {α : Type} [Inhabited α] {l : List α} {k : Nat} (h : k < l.length) : l.getD k default = l[k]:=by
 rw [List.getD_eq_getElem?_getD,List.getElem?_eq_getElem h]; rfl
theorem iP {α : Type} [Inhabited α] (l : List α) (q : α → Bool) : ((∀ x ∈ l,q x = false) ∧ mK l q = -1) ∨ ∃ k,∃ h : k < l.length,q l[k] = true ∧ (∀ j,(hj : j < k) → q (l[j]'(by omega)) = false) ∧ mK l q = (k : Int):=by
 unfold mK
 rcases iI (R:=fun k => if q (l.getD k default) = true then some (k : Int) else none) (n:=l.length) (-1) with ⟨h,h2⟩ | ⟨k,t,hk,hR,hj,h2⟩
 ·refine .inl ⟨fun x hx => ?_,h2⟩
  obtain ⟨k,hk,rfl⟩:=List.mem_iff_getElem.1 hx
  have:=h k hk
  rw [dh hk] at this
  cases hq : q l[k]
  ·rfl
  ·rw [hq] at this; simp at this
 ·rw [dh hk] at hR
  cases hq : q l[k] with
  | false => rw [hq] at hR; simp at hR
  | true =>
   rw [hq] at hR
   simp only [if_true] at hR
   refine .inr ⟨k,hk,hq,fun j hj' => ?_,h2.trans (Option.some.inj hR).symm⟩
   have:=hj j hj'
   rw [dh (by omega)] at this
   cases hq' : q (l[j]'(by omega))
   ·rfl
   ·rw [hq'] at this; simp at this
theorem li {α : Type} [Inhabited α] (l : List α) (q : α → Bool) : (match ((List.range l.length).findSome? (fun k => if q (l.getD k default) = true then some (Sum.inl ((k : Int),(k : Int)) : (Int × Int) ⊕ (Int × Int)) else none)).getD (.inr (0,(l.length : Int))) with | .inl u => some u.1 | .inr _ => some (-1)) = some (mK l q):=by
 unfold mK
 rcases iI (R:=fun k => if q (l.getD k default) = true then some (Sum.inl ((k : Int),(k : Int)) : (Int × Int) ⊕ (Int × Int)) else none) (n:=l.length) (.inr (0,(l.length : Int))) with ⟨hn,h2⟩ | ⟨k,t,hk,hR,hj,h2⟩
 ·rw [h2,qD (fun k hk => by have:=hn k hk; split at this <;> simp_all)]
 ·rw [h2]
  have hq : q (l.getD k default) = true:=by
   by_cases hq : q (l.getD k default) = true
   ·exact hq
   ·rw [if_neg hq] at hR; cases hR
  rw [if_pos hq] at hR
  cases hR
  rw [qL k hk (by rw [if_pos hq]) (fun j hj' => by have:=hj j hj'; split at this <;> simp_all)]
theorem nn {α : Type} [Inhabited α] (l : List α) (q : α → Bool) : mK l q < (l.length : Int):=by
 rcases iP l q with ⟨h,h2⟩ | ⟨k,hk,hq,_,h2⟩ <;> omega
theorem oG {α : Type} [Inhabited α] {l : List α} {q : α → Bool} (h : 0 ≤ mK l q) : q (rdL l (mK l q)) = true:=by
 rcases iP l q with ⟨_,h2⟩ | ⟨k,hk,hq,_,h2⟩
 ·omega
 ·rw [h2,cg hk]; exact hq
theorem sN {α : Type} [Inhabited α] {l : List α} {f : α → Int} (hd : (l.map f).Nodup) {k : Nat} (hk : k < l.length) : mK l (fun x => f x == f l[k]) = (k : Int):=by
 rcases iP l (fun x => f x == f l[k]) with ⟨h,_⟩ | ⟨j,hj,hq,_,h2⟩
 ·have:=h l[k] (List.getElem_mem hk); simp at this
 ·rw [h2]
  have he : f l[j] = f l[k]:=by simpa using hq
  have hpw:=List.pairwise_iff_getElem.1 hd
  rcases Nat.lt_trichotomy j k with h3 | h3 | h3
  ·have:=hpw j k (by simpa using hj) (by simpa using hk) h3
   simp only [List.getElem_map] at this
   exact absurd he this
  ·rw [h3]
  ·have:=hpw k j (by simpa using hk) (by simpa using hj) h3
   simp only [List.getElem_map] at this
   exact absurd he.symm this
theorem idxI_lt {α : Type} [Inhabited α] {l : List α} {f : α → Int} {k : Nat} (hk : k < l.length) : mK l (fun x => f x == f l[k]) < (k : Int) ↔ ∃ j,∃ h : j < k,f (l[j]'(by omega)) = f l[k]:=by
 rcases iP l (fun x => f x == f l[k]) with ⟨h,_⟩ | ⟨j,hj,hq,hm,h2⟩
 ·have:=h l[k] (List.getElem_mem hk); simp at this
 ·rw [h2]
  have he : f l[j] = f l[k]:=by simpa using hq
  refine ⟨fun h => ⟨j,by omega,he⟩,fun ⟨i,hi,hie⟩ => ?_⟩
  rcases Nat.lt_or_ge j k with h3 | h3
  ·omega
  ·exfalso
   have:=hm i (by omega)
   rw [hie] at this
   simp at this
theorem jN {α : Type} [Inhabited α] {l : List α} {f : α → Int} : (∀ k,(hk : k < l.length) → ¬ mK l (fun x => f x == f l[k]) < (k : Int)) ↔ (l.map f).Nodup:=by
 refine ⟨fun h => ?_,fun h k hk => by rw [sN h hk]; omega⟩
 rw [List.Nodup,List.pairwise_iff_getElem]
 intro i j hi hj hij
 simp only [List.length_map] at hi hj
 simp only [List.getElem_map]
 intro e
 exact h j hj ((idxI_lt hj).2 ⟨i,hij,e⟩)
theorem pA (x : TSpan) : TSpan.mk x.fLo x.fHi = x:=rfl
theorem nX (x : TO) : TO.mk x.fID x.fH x.fD x.fW = x:=rfl
theorem rK (x : TBay) : TBay.mk x.fID x.fHour x.fD = x:=rfl
theorem oS {l : List TO} {f : TO → Option Bool} {q : TO → Bool} (hl : l.length < 1000000000) (h : ∀ x ∈ l,f x = some (q x)) : bA l f = some (mK l q):=by
 unfold bA
 have:=gb (body:=a5 l f) (fun k => ((0 : Int),(k : Int))) l.length (fun k => if q (l.getD k default) = true then some (Sum.inl ((k : Int),(k : Int))) else none) (t0:=.inr (0,(l.length : Int))) (fun k hk => by
  have c1 : decide ((k : Int) < ((l.length : Nat) : Int)) = true:=decide_eq_true (by omega)
  have c2 : (0 : Int) ≤ (k : Int) ∧ (k : Int) < ((l.length : Nat) : Int):=by omega
  unfold a5; dsimp only
  simp only [c1,if_true,gPo c2,cg hk,pA,nX,h _ (List.getElem_mem hk),oB,dh hk,bc (show k < 9223372036854775807 by omega)]
  cases q l[k] <;> rfl) (by
  unfold a5; dsimp only
  rw [en (by omega)])
 have h0 : aO (a5 l f) (0,0) = _:=this
 rw [h0,oB]
 exact li l q
theorem qq {l : List TBay} {f : TBay → Option Bool} {q : TBay → Bool} (hl : l.length < 1000000000) (h : ∀ x ∈ l,f x = some (q x)) : bR l f = some (mK l q):=by
 unfold bR
 have:=gb (body:=bi l f) (fun k => ((0 : Int),(k : Int))) l.length (fun k => if q (l.getD k default) = true then some (Sum.inl ((k : Int),(k : Int))) else none) (t0:=.inr (0,(l.length : Int))) (fun k hk => by
  have c1 : decide ((k : Int) < ((l.length : Nat) : Int)) = true:=decide_eq_true (by omega)
  have c2 : (0 : Int) ≤ (k : Int) ∧ (k : Int) < ((l.length : Nat) : Int):=by omega
  unfold bi; dsimp only
  simp only [c1,if_true,gPo c2,cg hk,rK,h _ (List.getElem_mem hk),oB,dh hk,bc (show k < 9223372036854775807 by omega)]
  cases q l[k] <;> rfl) (by
  unfold bi; dsimp only
  rw [en (by omega)])
 have h0 : aO (bi l f) (0,0) = _:=this
 rw [h0,oB]
 exact li l q
theorem qI {l : List Int} {f : Int → Option Bool} {q : Int → Bool} (hl : l.length < 1000000000) (h : ∀ x ∈ l,f x = some (q x)) : bT l f = some (mK l q):=by
 unfold bT
 have:=gb (body:=bk l f) (fun k => ((0 : Int),(k : Int))) l.length (fun k => if q (l.getD k default) = true then some (Sum.inl ((k : Int),(k : Int))) else none) (t0:=.inr (0,(l.length : Int))) (fun k hk => by
  have c1 : decide ((k : Int) < ((l.length : Nat) : Int)) = true:=decide_eq_true (by omega)
  have c2 : (0 : Int) ≤ (k : Int) ∧ (k : Int) < ((l.length : Nat) : Int):=by omega
  unfold bk; dsimp only
  simp only [c1,if_true,gPo c2,cg hk,h _ (List.getElem_mem hk),oB,dh hk,bc (show k < 9223372036854775807 by omega)]
  cases q l[k] <;> rfl) (by
  unfold bk; dsimp only
  rw [en (by omega)])
 have h0 : aO (bk l f) (0,0) = _:=this
 rw [h0,oB]
 exact li l q
theorem ll (n lo hi : Int) : bh n lo hi = some (decide (lo ≤ n ∧ n ≤ hi)):=by unfold bh; rw [Bool.decide_and]
theorem hour_eq (n : Int) : eC n = some (decide (0 ≤ n ∧ n ≤ 16384)):=by unfold eC; rw [ll]; rfl
theorem j5 (n lo hi : Int) : co n lo hi = some (decide (lo ≤ n ∧ n ≤ hi)):=by unfold co; rw [Bool.decide_and]
theorem q8 (n : Int) : gg n = some (decide (0 ≤ n ∧ n ≤ 16384)):=by unfold gg; rw [j5]; rfl
def bL (y : TY) (id : Int) : Int:=mK y.fR fun n => n.fID == id
def pI (y : TY) (id : Int) : Int:=mK y.fB fun n => n.fID == id
theorem pq {y : TY} (hl : y.fR.length < 1000000000) (id : Int) : gj y id = some (bL y id):=by
 unfold gj cz
 rw [oS (f:=fun x3 => gu x3 id) (q:=fun x => x.fID == id) hl (fun x _ => rfl)]
 rfl
theorem bay_eq {y : TY} (hl : y.fB.length < 1000000000) (id : Int) : j6 y id = some (pI y id):=by
 unfold j6 cW
 rw [qq (f:=fun x3 => iU x3 id) (q:=fun x => x.fID == id) hl (fun x _ => rfl)]
 rfl
theorem rorder_eq {y : TY} (hl : y.fR.length < 1000000000) (id : Int) : il y id = some (bL y id):=by
 unfold il
 have:=gb (body:=ed y id) (fun k => ((0 : Int),(k : Int))) y.fR.length (fun k => if ((y.fR.getD k default).fID == id) = true then some (Sum.inl ((k : Int),(k : Int))) else none) (t0:=.inr (0,(y.fR.length : Int))) (fun k hk => by
  have c1 : decide ((k : Int) < ((y.fR.length : Nat) : Int)) = true:=decide_eq_true (by omega)
  have c2 : (0 : Int) ≤ (k : Int) ∧ (k : Int) < ((y.fR.length : Nat) : Int):=by omega
  unfold ed; dsimp only
  simp only [c1,if_true,gPo c2,cg hk,dh hk,bc (show k < 9223372036854775807 by omega)]
  cases (y.fR[k].fID == id) <;> rfl) (by
  unfold ed; dsimp only
  rw [en (by omega)])
 have h0 : aO (ed y id) (0,0) = _:=this
 rw [h0,oB]
 exact li y.fR fun n => n.fID == id
theorem rbay_eq {y : TY} (hl : y.fB.length < 1000000000) (id : Int) : iQ y id = some (pI y id):=by
 unfold iQ
 have:=gb (body:=fy y id) (fun k => ((0 : Int),(k : Int))) y.fB.length (fun k => if ((y.fB.getD k default).fID == id) = true then some (Sum.inl ((k : Int),(k : Int))) else none) (t0:=.inr (0,(y.fB.length : Int))) (fun k hk => by
  have c1 : decide ((k : Int) < ((y.fB.length : Nat) : Int)) = true:=decide_eq_true (by omega)
  have c2 : (0 : Int) ≤ (k : Int) ∧ (k : Int) < ((y.fB.length : Nat) : Int):=by omega
  unfold fy; dsimp only
  simp only [c1,if_true,gPo c2,cg hk,dh hk,bc (show k < 9223372036854775807 by omega)]
  cases (y.fB[k].fID == id) <;> rfl) (by
  unfold fy; dsimp only
  rw [en (by omega)])
 have h0 : aO (fy y id) (0,0) = _:=this
 rw [h0,oB]
 exact li y.fB fun n => n.fID == id
set_option linter.unusedSimpArgs false
open Classical
def sm : Nat → (Nat → Int) → Int
 | 0,_ => 0
 | n + 1,f => sm n f + f n
theorem cw {f g : Nat → Int} : ∀ {n : Nat},(∀ i,i < n → f i = g i) → sm n f = sm n g
 | 0,_ => rfl
 | n + 1,h => by unfold sm; rw [cw fun i hi => h i (by omega),h n (by omega)]
theorem m4 {f g : Nat → Int} : ∀ {n : Nat},(∀ i,i < n → f i ≤ g i) → sm n f ≤ sm n g
 | 0,_ => Int.le_refl _
 | n + 1,h => by
  have h1:=m4 (f:=f) (g:=g) (n:=n) fun i hi => h i (by omega)
  have h2:=h n (by omega)
  unfold sm; omega
theorem sm_add (f g : Nat → Int) : ∀ n,sm n (fun i => f i + g i) = sm n f + sm n g
 | 0 => rfl
 | n + 1 => by have:=sm_add f g n; unfold sm; dsimp only; omega
theorem sm_sub (f g : Nat → Int) : ∀ n,sm n (fun i => f i - g i) = sm n f - sm n g
 | 0 => rfl
 | n + 1 => by have:=sm_sub f g n; unfold sm; dsimp only; omega
theorem oD : ∀ {n : Nat} {f : Nat → Int},(∀ i,i < n → f i = 0) → sm n f = 0
 | 0,_,_ => rfl
 | n + 1,f,h => by have h1:=oD (n:=n) (f:=f) fun i hi => h i (by omega); have h2:=h n (by omega); unfold sm; omega
theorem pT {n : Nat} {f : Nat → Int} (h : ∀ i,i < n → 0 ≤ f i) : 0 ≤ sm n f:=by
 have:=m4 (f:=fun _ => 0) h
 rwa [oD (f:=fun _ => 0) fun _ _ => rfl] at this
theorem lp {f g : Nat → Int} {k : Nat} : ∀ {n : Nat},k < n → (∀ i,i < n → i ≠ k → g i = f i) → sm n g = sm n f - f k + g k
 | 0,h,_ => by omega
 | n + 1,h,he => by
  unfold sm
  rcases Nat.lt_or_ge k n with hk | hk
  ·have:=lp hk (fun i hi => he i (by omega))
   have h2:=he n (by omega) (by omega)
   omega
  ·have hkn : k = n:=by omega
   subst hkn
   rw [cw (f:=g) (g:=f) fun i hi => he i (by omega) (by omega)]
   omega
theorem sm_lt {f g : Nat → Int} {n k : Nat} (hk : k < n) (h : ∀ i,i < n → f i ≤ g i) (hlt : f k < g k) : sm n f < sm n g:=by
 have h1 : sm n (fun i => if i = k then f k else g i) ≤ sm n g:=m4 fun i hi => by
  split
  ·rename_i e; subst e; omega
  ·exact Int.le_refl _
 have h2 : sm n f ≤ sm n (fun i => if i = k then f k else g i):=m4 fun i hi => by
  split
  ·rename_i e; subst e; exact Int.le_refl _
  ·exact h i hi
 have h3:=lp (f:=g) (g:=fun i => if i = k then f k else g i) hk (fun i _ hi => by simp only [if_neg hi])
 simp only [if_pos] at h3
 omega
def shf (k j : Nat) : Nat:=if j < k then j else j + 1
def uns (k j : Nat) : Nat:=if j < k then j else j - 1
theorem shf_ne (k j : Nat) : shf k j ≠ k:=by unfold shf; split <;> omega
theorem qr (k j : Nat) : uns k (shf k j) = j:=by
 unfold uns shf
 by_cases h : j < k
 ·rw [if_pos h,if_pos h]
 ·rw [if_neg h,if_neg (by omega)]; omega
theorem qi {k j : Nat} (h : j ≠ k) : shf k (uns k j) = j:=by
 unfold uns shf
 by_cases h' : j < k
 ·rw [if_pos h',if_pos h']
 ·rw [if_neg h',if_neg (by omega)]; omega
theorem qA (f : Nat → Int) (k : Nat) : ∀ n,k ≤ n → sm (n + 1) f = sm n (fun j => f (shf k j)) + f k
 | 0,h => by
  have : k = 0:=by omega
  subst this; rfl
 | n + 1,h => by
  rcases Nat.lt_or_ge k (n + 1) with hk | hk
  ·have:=qA f k n (by omega)
   show sm (n + 1) f + f (n + 1) = (sm n (fun j => f (shf k j)) + f (shf k n)) + f k
   have e : shf k n = n + 1:=by unfold shf; rw [if_neg (by omega)]
   rw [e]; omega
  ·have hkn : k = n + 1:=by omega
   subst hkn
   show sm (n + 1) f + f (n + 1) = _
   rw [cw (n:=n + 1) (f:=fun j => f (shf (n + 1) j)) (g:=f) fun i hi => by unfold shf; rw [if_pos (by omega)]]
theorem min_ex {P : Nat → Prop} {f : Nat → Int} (hf : ∀ k,0 ≤ f k) : ∀ (m k : Nat),P k → f k ≤ (m : Int) → ∃ k,P k ∧ ∀ k',P k' → f k ≤ f k'
 | 0,k,hk,hm => ⟨k,hk,fun k' _ => by have:=hf k'; omega⟩
 | m + 1,k,hk,hm => by
  by_cases h : ∃ k',P k' ∧ f k' ≤ (m : Int)
  ·obtain ⟨k',h1,h2⟩:=h
   exact min_ex hf m k' h1 h2
  ·refine ⟨k,hk,fun k' hk' => ?_⟩
   have : ¬ f k' ≤ (m : Int):=fun hc => h ⟨k',hk',hc⟩
   omega
structure Mat (S : Nat → Nat → Prop) (h : Nat → Option Nat) : Prop where
 suit : ∀ k o,h k = some o → S o k
 inj : ∀ k k' o,h k = some o → h k' = some o → k = k'
def Dom (h : Nat → Option Nat) (o : Nat) : Prop:=∃ k,h k = some o
def ov (g : Nat → Int) : Option Nat → Int
 | none => 0
 | some o => g o
structure Fit (S : Nat → Nat → Prop) (nB nO : Nat) : Prop where
 bay : ∀ o k,S o k → k < nB
 ord : ∀ o k,S o k → o < nO
theorem tf {nO : Nat} {h : Nat → Option Nat} {g : Nat → Int} (hi : ∀ k k' o,h k = some o → h k' = some o → k = k') (ho : ∀ k o,h k = some o → o < nO) : ∀ n,sm n (fun k => ov g (h k)) = sm nO (fun o => if ∃ k,k < n ∧ h k = some o then g o else 0)
 | 0 => by
  rw [oD (n:=nO) fun o _ => if_neg (fun ⟨k,hk,_⟩ => by omega)]
  rfl
 | n + 1 => by
  have ih:=tf (nO:=nO) (g:=g) hi ho n
  show sm n (fun k => ov g (h k)) + ov g (h n) = _
  rw [ih]
  cases hn : h n with
  | none =>
   show _ + (0 : Int) = _
   rw [Int.add_zero]
   refine cw fun o _ => ?_
   have : (∃ k,k < n ∧ h k = some o) ↔ (∃ k,k < n + 1 ∧ h k = some o):=⟨fun ⟨k,hk,e⟩ => ⟨k,by omega,e⟩,fun ⟨k,hk,e⟩ => ⟨k,by
    rcases Nat.lt_or_ge k n with h' | h'
    ·exact ⟨h',e⟩
    ·have : k = n:=by omega
     subst this; rw [hn] at e; cases e⟩⟩
   by_cases hc : ∃ k,k < n ∧ h k = some o
   ·rw [if_pos hc,if_pos (this.1 hc)]
   ·rw [if_neg hc,if_neg (fun hh => hc (this.2 hh))]
  | some x =>
   have hx:=ho n x hn
   have hnx : ¬ ∃ k,k < n ∧ h k = some x:=fun ⟨k,hk,e⟩ => by have:=hi k n x e hn; omega
   have e:=lp (f:=fun o => if ∃ k,k < n ∧ h k = some o then g o else 0) (g:=fun o => if ∃ k,k < n + 1 ∧ h k = some o then g o else 0) hx (fun o _ hne => by
    have : (∃ k,k < n ∧ h k = some o) ↔ (∃ k,k < n + 1 ∧ h k = some o):=⟨fun ⟨k,hk,e⟩ => ⟨k,by omega,e⟩,fun ⟨k,hk,e⟩ => ⟨k,by
     rcases Nat.lt_or_ge k n with h' | h'
     ·exact ⟨h',e⟩
     ·have : k = n:=by omega
      subst this; rw [hn] at e; cases e; exact absurd rfl hne⟩⟩
    by_cases hc : ∃ k,k < n ∧ h k = some o
    ·simp only [if_pos hc,if_pos (this.1 hc)]
    ·simp only [if_neg hc,if_neg (fun hh => hc (this.2 hh))])
   rw [e]
   simp only [if_neg hnx,if_pos (show ∃ k,k < n + 1 ∧ h k = some x from ⟨n,by omega,hn⟩)]
   show _ + g x = _
   omega
theorem bij {S : Nat → Nat → Prop} {nB nO : Nat} (hF : Fit S nB nO) {h : Nat → Option Nat} (hM : Mat S h) (g : Nat → Int) : sm nB (fun k => ov g (h k)) = sm nO (fun o => if Dom h o then g o else 0):=by
 rw [tf (nO:=nO) (g:=g) hM.inj (fun k o e => hF.ord o k (hM.suit k o e)) nB]
 refine cw fun o _ => ?_
 have : (∃ k,k < nB ∧ h k = some o) ↔ Dom h o:=⟨fun ⟨k,_,e⟩ => ⟨k,e⟩,fun ⟨k,e⟩ => ⟨k,hF.bay o k (hM.suit k o e),e⟩⟩
 by_cases hc : Dom h o
 ·rw [if_pos hc,if_pos (this.2 hc)]
 ·rw [if_neg hc,if_neg (fun hh => hc (this.1 hh))]
noncomputable def off (p : Prop) : Int:=if p then 0 else 1
theorem off_t {p : Prop} (h : p) : off p = 0:=if_pos h
theorem off_f {p : Prop} (h : ¬ p) : off p = 1:=if_neg h
theorem k8 (p : Prop) : (p ∧ off p = 0) ∨ (¬ p ∧ off p = 1):=by
 by_cases h : p
 ·exact .inl ⟨h,off_t h⟩
 ·exact .inr ⟨h,off_f h⟩
noncomputable def unt (nB : Nat) (T : Nat → Prop) : Int:=sm nB fun k => off (T k)
theorem f9 (nB : Nat) (T : Nat → Prop) : 0 ≤ unt nB T:=pT fun i _ => by rcases k8 (T i) with ⟨_,h⟩ | ⟨_,h⟩ <;> omega
theorem off_mono {p q : Prop} (h : p → q) : off q ≤ off p:=by
 rcases k8 p with ⟨h1,e1⟩ | ⟨h1,e1⟩ <;> rcases k8 q with ⟨h2,e2⟩ | ⟨h2,e2⟩ <;> first | omega | exact absurd (h h1) h2
theorem qO {nB : Nat} {T T' : Nat → Prop} (h : ∀ k,T k → T' k) : unt nB T' ≤ unt nB T:=m4 fun k _ => off_mono (h k)
theorem oI {nB : Nat} {T : Nat → Prop} {k : Nat} (hk : k < nB) (h1 : ¬ T k) : unt nB (fun j => T j ∨ j = k) = unt nB T - 1:=by
 have h0 : sm nB (fun j => off (T j ∨ j = k)) = sm nB (fun j => off (T j)) - off (T k) + off (T k ∨ k = k):=lp (f:=fun j => off (T j)) (g:=fun j => off (T j ∨ j = k)) hk (fun i _ hi => by
  by_cases h : T i
  ·rw [off_t h,off_t (.inl h)]
  ·rw [off_f h,off_f fun hh => hh.elim h hi])
 rw [off_f h1,off_t (Or.inr rfl)] at h0
 show sm nB (fun j => off (T j ∨ j = k)) = sm nB (fun j => off (T j)) - 1
 omega
structure MatX (S : Nat → Nat → Prop) (T : Nat → Prop) (h : Nat → Option Nat) : Prop where
 suit : ∀ k o,¬ T k → h k = some o → S o k
 inj : ∀ k k' o,¬ T k → ¬ T k' → h k = some o → h k' = some o → k = k'
def p7 (T : Nat → Prop) (h : Nat → Option Nat) (o : Nat) : Prop:=∃ k,¬ T k ∧ h k = some o
structure AugY (S : Nat → Nat → Prop) (T : Nat → Prop) (o : Nat) (h h' : Nat → Option Nat) : Prop where
 keep : ∀ k,T k → h' k = h k
 mat : MatX S T h'
 dom : ∀ x,p7 T h' x ↔ x = o ∨ p7 T h x
structure AugN (S : Nat → Nat → Prop) (T T' : Nat → Prop) (o : Nat) (h : Nat → Option Nat) : Prop where
 sub : ∀ k,T k → T' k
 shut : ∀ k,T' k → ¬ T k → ∃ x,h k = some x ∧ ∀ k',S x k' → T' k'
 own : ∀ k',S o k' → T' k'
theorem MatX.more {S : Nat → Nat → Prop} {T T' : Nat → Prop} {h : Nat → Option Nat} (hM : MatX S T h) (hs : ∀ k,T k → T' k) : MatX S T' h :=
 ⟨fun k o hk e => hM.suit k o (fun ht => hk (hs k ht)) e,fun k k' o hk hk' e e' => hM.inj k k' o (fun ht => hk (hs k ht)) (fun ht => hk' (hs k' ht)) e e'⟩
theorem o6 {S : Nat → Nat → Prop} {T : Nat → Prop} {o k : Nat} {h : Nat → Option Nat} (hM : MatX S T h) (hk : ¬ T k) (hS : S o k) (hn : h k = none) (ho : ¬ p7 T h o) : AugY S T o h (fun j => if j = k then some o else h j) where
 keep:=fun j hj => if_neg (fun (e : j = k) => hk (e ▸ hj))
 mat:=by
  refine ⟨fun j x hj e => ?_,fun j j' x hj hj' e e' => ?_⟩
  ·by_cases hjk : j = k
   ·subst hjk; simp only [if_pos rfl] at e; cases e; exact hS
   ·simp only [if_neg hjk] at e; exact hM.suit j x hj e
  ·by_cases hjk : j = k <;> by_cases hjk' : j' = k
   ·rw [hjk,hjk']
   ·subst hjk
    simp only [if_pos rfl] at e
    simp only [if_neg hjk'] at e'
    cases e
    exact absurd ⟨j',hj',e'⟩ ho
   ·subst hjk'
    simp only [if_pos rfl] at e'
    simp only [if_neg hjk] at e
    cases e'
    exact absurd ⟨j,hj,e⟩ ho
   ·simp only [if_neg hjk] at e
    simp only [if_neg hjk'] at e'
    exact hM.inj j j' x hj hj' e e'
 dom:=fun x => by
  refine ⟨fun ⟨j,hj,e⟩ => ?_,fun hx => ?_⟩
  ·by_cases hjk : j = k
   ·simp only [if_pos hjk] at e; cases e; exact .inl rfl
   ·simp only [if_neg hjk] at e; exact .inr ⟨j,hj,e⟩
  ·rcases hx with rfl | ⟨j,hj,e⟩
   ·exact ⟨k,hk,if_pos rfl⟩
   ·refine ⟨j,hj,?_⟩
    have : j ≠ k:=fun e' => by subst e'; rw [hn] at e; cases e
    simp only [if_neg this]; exact e
theorem nb {S : Nat → Nat → Prop} {T : Nat → Prop} {o k x : Nat} {h h' : Nat → Option Nat} (hM : MatX S T h) (hk : ¬ T k) (hS : S o k) (hx : h k = some x) (ho : ¬ p7 T h o) (hA : AugY S (fun j => T j ∨ j = k) x h h') : AugY S T o h (fun j => if j = k then some o else h' j):=by
 have hd : ∀ z,(∃ j,¬ (T j ∨ j = k) ∧ h' j = some z) ↔ p7 T h z:=fun z => by
  refine (hA.dom z).trans ⟨fun hz => ?_,fun ⟨j,hj,e⟩ => ?_⟩
  ·rcases hz with rfl | ⟨j,hj,e⟩
   ·exact ⟨k,hk,hx⟩
   ·exact ⟨j,fun ht => hj (.inl ht),e⟩
  ·by_cases hjk : j = k
   ·subst hjk; rw [hx] at e; cases e; exact .inl rfl
   ·exact .inr ⟨j,fun ht => ht.elim hj hjk,e⟩
 have hno : ∀ j,¬ T j → j ≠ k → h' j ≠ some o:=fun j hj hjk e => ho ((hd o).1 ⟨j,fun ht => ht.elim hj hjk,e⟩)
 refine ⟨fun j hj => ?_,⟨fun j z hj e => ?_,fun j j' z hj hj' e e' => ?_⟩,fun z => ⟨fun ⟨j,hj,e⟩ => ?_,fun hz => ?_⟩⟩
 ·have : j ≠ k:=fun e => hk (e ▸ hj)
  simp only [if_neg this]
  exact hA.keep j (.inl hj)
 ·by_cases hjk : j = k
  ·subst hjk; simp only [if_pos rfl] at e; cases e; exact hS
  ·simp only [if_neg hjk] at e; exact hA.mat.suit j z (fun ht => ht.elim hj hjk) e
 ·by_cases hjk : j = k <;> by_cases hjk' : j' = k
  ·rw [hjk,hjk']
  ·simp only [if_pos hjk] at e
   simp only [if_neg hjk'] at e'
   cases e
   exact absurd e' (hno j' hj' hjk')
  ·simp only [if_pos hjk'] at e'
   simp only [if_neg hjk] at e
   cases e'
   exact absurd e (hno j hj hjk)
  ·simp only [if_neg hjk] at e
   simp only [if_neg hjk'] at e'
   exact hA.mat.inj j j' z (fun ht => ht.elim hj hjk) (fun ht => ht.elim hj' hjk') e e'
 ·by_cases hjk : j = k
  ·simp only [if_pos hjk] at e; cases e; exact .inl rfl
  ·simp only [if_neg hjk] at e; exact .inr ((hd z).1 ⟨j,fun ht => ht.elim hj hjk,e⟩)
 ·rcases hz with rfl | hz
  ·exact ⟨k,hk,if_pos rfl⟩
  ·obtain ⟨j,hj,e⟩:=(hd z).2 hz
   have hjk : j ≠ k:=fun e' => hj (.inr e')
   exact ⟨j,fun ht => hj (.inl ht),by simp only [if_neg hjk]; exact e⟩
theorem lD {S : Nat → Nat → Prop} {T T1 : Nat → Prop} {o : Nat} {h h' : Nat → Option Nat} (hM : MatX S T h) (hs : ∀ k,T k → T1 k) (ho : ¬ p7 T h o) (hA : AugY S T1 o h h') : AugY S T o h h':=by
 have hk1 : ∀ k z,T1 k → ¬ T k → h' k = some z → ∀ k',¬ T1 k' → h' k' = some z → False:=fun k z ht hn e k' ht' e' => by
  rw [hA.keep k ht] at e
  rcases (hA.dom z).1 ⟨k',ht',e'⟩ with rfl | ⟨j,hj,ej⟩
  ·exact ho ⟨k,hn,e⟩
  ·have:=hM.inj k j z hn (fun t => hj (hs j t)) e ej
   subst this
   exact hj ht
 refine ⟨fun k hk => hA.keep k (hs k hk),⟨fun k z hk e => ?_,fun k k' z hk hk' e e' => ?_⟩,fun z => ⟨fun ⟨k,hk,e⟩ => ?_,fun hz => ?_⟩⟩
 ·by_cases ht : T1 k
  ·rw [hA.keep k ht] at e; exact hM.suit k z hk e
  ·exact hA.mat.suit k z ht e
 ·by_cases ht : T1 k <;> by_cases ht' : T1 k'
  ·rw [hA.keep k ht] at e; rw [hA.keep k' ht'] at e'; exact hM.inj k k' z hk hk' e e'
  ·exact (hk1 k z ht hk e k' ht' e').elim
  ·exact (hk1 k' z ht' hk' e' k ht e).elim
  ·exact hA.mat.inj k k' z ht ht' e e'
 ·by_cases ht : T1 k
  ·rw [hA.keep k ht] at e; exact .inr ⟨k,hk,e⟩
  ·rcases (hA.dom z).1 ⟨k,ht,e⟩ with rfl | ⟨j,hj,ej⟩
   ·exact .inl rfl
   ·exact .inr ⟨j,fun t => hj (hs j t),ej⟩
 ·rcases hz with rfl | ⟨k,hk,e⟩
  ·obtain ⟨k,hk,e⟩:=(hA.dom z).2 (.inl rfl)
   exact ⟨k,fun t => hk (hs k t),e⟩
  ·by_cases ht : T1 k
   ·exact ⟨k,hk,by rw [hA.keep k ht]; exact e⟩
   ·obtain ⟨j,hj,ej⟩:=(hA.dom z).2 (.inr ⟨k,ht,e⟩)
    exact ⟨j,fun t => hj (hs j t),ej⟩
theorem aug {S : Nat → Nat → Prop} {nB : Nat} (hB : ∀ o k,S o k → k < nB) : ∀ (u : Nat) (T : Nat → Prop) (o : Nat) (h : Nat → Option Nat),unt nB T ≤ (u : Int) → MatX S T h → ¬ p7 T h o → (∃ h',AugY S T o h h') ∨ ∃ T',AugN S T T' o h:=by
 intro u
 induction u with
 | zero =>
  intro T o h hu hM ho
  refine .inr ⟨T,fun _ h => h,fun k h1 h2 => absurd h1 h2,fun k hS => ?_⟩
  by_cases hk : T k
  ·exact hk
  ·have h1:=oI (hB o k hS) hk
   have h2:=f9 nB (fun j => T j ∨ j = k)
   omega
 | succ u ih =>
  intro T o h hu hM ho
  by_cases hex : ∃ k,¬ T k ∧ S o k
  ·obtain ⟨k,hk,hS⟩:=hex
   cases hn : h k with
   | none => exact .inl ⟨_,o6 hM hk hS hn ho⟩
   | some x =>
    have h1:=oI (hB o k hS) hk
    have hM1 : MatX S (fun j => T j ∨ j = k) h:=hM.more fun j hj => .inl hj
    have hx1 : ¬ p7 (fun j => T j ∨ j = k) h x:=fun ⟨j,hj,e⟩ => hj (.inr (hM.inj j k x (fun t => hj (.inl t)) hk e hn))
    rcases ih (fun j => T j ∨ j = k) x h (by omega) hM1 hx1 with ⟨h',hA⟩ | ⟨T',hA⟩
    ·exact .inl ⟨_,nb hM hk hS hn ho hA⟩
    ·have hu' : unt nB T' ≤ (u : Int):=by have:=qO (nB:=nB) hA.sub; omega
     have hsub : ∀ j,T j → T' j:=fun j hj => hA.sub j (.inl hj)
     rcases ih T' o h hu' (hM.more hsub) (fun ⟨j,hj,e⟩ => ho ⟨j,fun t => hj (hsub j t),e⟩) with ⟨h',hA'⟩ | ⟨T'',hA'⟩
     ·exact .inl ⟨h',lD hM hsub ho hA'⟩
     ·refine .inr ⟨T'',fun j hj => hA'.sub j (hsub j hj),fun j hj hnj => ?_,hA'.own⟩
      by_cases hj' : T' j
      ·by_cases hjk : j = k
       ·subst hjk
        exact ⟨x,hn,fun k' hk' => hA'.sub k' (hA.own k' hk')⟩
       ·obtain ⟨z,e,hz⟩:=hA.shut j hj' (fun t => t.elim hnj hjk)
        exact ⟨z,e,fun k' hk' => hA'.sub k' (hz k' hk')⟩
      ·exact hA'.shut j hj hj'
  ·exact .inr ⟨T,fun _ h => h,fun k h1 h2 => absurd h1 h2,fun k hS => by
    by_cases hk : T k
    ·exact hk
    ·exact absurd ⟨k,hk,hS⟩ hex⟩
structure Shut (S : Nat → Nat → Prop) (C : Nat → Prop) (h : Nat → Option Nat) : Prop where
 shut : ∀ k,C k → ∃ x,h k = some x ∧ ∀ k',S x k' → C k'
theorem Mat.x {S : Nat → Nat → Prop} {h : Nat → Option Nat} (hM : Mat S h) : MatX S (fun _ => False) h:=⟨fun k o _ e => hM.suit k o e,fun k k' o _ _ e e' => hM.inj k k' o e e'⟩
theorem jO {h : Nat → Option Nat} {o : Nat} : p7 (fun _ => False) h o ↔ Dom h o:=⟨fun ⟨k,_,e⟩ => ⟨k,e⟩,fun ⟨k,e⟩ => ⟨k,id,e⟩⟩
theorem AugY.mat0 {S : Nat → Nat → Prop} {o : Nat} {h h' : Nat → Option Nat} (hA : AugY S (fun _ => False) o h h') : Mat S h':=⟨fun k o e => hA.mat.suit k o id e,fun k k' o e e' => hA.mat.inj k k' o id id e e'⟩
theorem AugY.dom0 {S : Nat → Nat → Prop} {o : Nat} {h h' : Nat → Option Nat} (hA : AugY S (fun _ => False) o h h') (x : Nat) : Dom h' x ↔ x = o ∨ Dom h x:=by rw [← jO,← jO]; exact hA.dom x
theorem AugN.shut0 {S : Nat → Nat → Prop} {T' : Nat → Prop} {o : Nat} {h : Nat → Option Nat} (hA : AugN S (fun _ => False) T' o h) : Shut S T' h:=⟨fun k hk => hA.shut k hk id⟩
theorem aug0 {S : Nat → Nat → Prop} {nB nO : Nat} (hF : Fit S nB nO) {h : Nat → Option Nat} (hM : Mat S h) {o : Nat} (ho : ¬ Dom h o) : (∃ h',Mat S h' ∧ ∀ x,Dom h' x ↔ x = o ∨ Dom h x) ∨ ∃ C,Shut S C h ∧ ∀ k,S o k → C k:=by
 rcases aug hF.bay (unt nB fun _ => False).toNat (fun _ => False) o h (by have:=f9 nB fun _ => False; omega) hM.x (fun hd => ho (jO.1 hd)) with ⟨h',hA⟩ | ⟨T',hA⟩
 ·exact .inl ⟨h',hA.mat0,hA.dom0⟩
 ·exact .inr ⟨T',hA.shut0,hA.own⟩
theorem filled {S : Nat → Nat → Prop} {nB nO : Nat} (hF : Fit S nB nO) {h h2 : Nat → Option Nat} (hM : Mat S h) {C : Nat → Prop} (hC : Shut S C h) (hM2 : Mat S h2) (hX : ∀ k x,C k → h k = some x → Dom h2 x) : ∀ k,C k → ∃ x,h2 k = some x ∧ ∃ k1,C k1 ∧ h k1 = some x:=by
 let X : Nat → Prop:=fun x => ∃ k1,C k1 ∧ h k1 = some x
 have e1:=bij hF hM (fun o => if X o then 1 else 0)
 have e2:=bij hF hM2 (fun o => if X o then 1 else 0)
 have e3 : sm nO (fun o => if Dom h o then (if X o then (1 : Int) else 0) else 0) = sm nO (fun o => if Dom h2 o then (if X o then (1 : Int) else 0) else 0):=cw fun o _ => by
  by_cases hx : X o
  ·obtain ⟨k1,hk1,e⟩:=hx
   rw [if_pos ⟨k1,e⟩,if_pos (hX k1 o hk1 e)]
  ·simp only [if_neg hx]
   split <;> split <;> rfl
 have e4 : ∀ k,ov (fun o => if X o then (1 : Int) else 0) (h k) = if C k then 1 else 0:=fun k => by
  by_cases hk : C k
  ·obtain ⟨x,e,_⟩:=hC.shut k hk
   rw [e,if_pos hk]
   exact if_pos ⟨k,hk,e⟩
  ·rw [if_neg hk]
   cases e : h k with
   | none => rfl
   | some x => exact if_neg fun ⟨k1,hk1,e1⟩ => hk (hM.inj k1 k x e1 e ▸ hk1)
 have e5 : ∀ k,ov (fun o => if X o then (1 : Int) else 0) (h2 k) ≤ ov (fun o => if X o then (1 : Int) else 0) (h k):=fun k => by
  rw [e4]
  cases e : h2 k with
  | none => show (0 : Int) ≤ _; split <;> omega
  | some x =>
   show (if X x then (1 : Int) else 0) ≤ _
   by_cases hx : X x
   ·obtain ⟨k1,hk1,e1⟩:=hx
    obtain ⟨x',e',hs⟩:=hC.shut k1 hk1
    rw [e1] at e'; cases e'
    rw [if_pos (hs k (hM2.suit k x e)),if_pos (show X x from ⟨k1,hk1,e1⟩)]
    omega
   ·rw [if_neg hx]; split <;> omega
 intro k hk
 obtain ⟨x0,e0,_⟩:=hC.shut k hk
 have hkB : k < nB:=hF.bay x0 k (hM.suit k x0 e0)
 by_cases hlt : ov (fun o => if X o then (1 : Int) else 0) (h2 k) < ov (fun o => if X o then (1 : Int) else 0) (h k)
 ·have:=sm_lt hkB (fun i _ => e5 i) hlt
  omega
 ·rw [e4,if_pos hk] at hlt
  cases e : h2 k with
  | none => rw [e] at hlt; exact absurd (show (0 : Int) < 1 by omega) hlt
  | some x =>
   rw [e] at hlt
   by_cases hx : X x
   ·exact ⟨x,rfl,hx⟩
   ·exfalso
    apply hlt
    show (if X x then (1 : Int) else 0) < 1
    rw [if_neg hx]; omega
def Matchable (S : Nat → Nat → Prop) (A : Nat → Prop) : Prop:=∃ h,Mat S h ∧ ∀ x,Dom h x ↔ A x
theorem jd {S : Nat → Nat → Prop} {nB nO : Nat} (hF : Fit S nB nO) {h : Nat → Option Nat} (hM : Mat S h) {C : Nat → Prop} (hC : Shut S C h) {o : Nat} (ho : ¬ Dom h o) (hs : ∀ k,S o k → C k) {A : Nat → Prop} (hA : ∀ x,(x = o ∨ ∃ k,C k ∧ h k = some x) → A x) : ¬ Matchable S A:=by
 rintro ⟨h2,hM2,hd⟩
 have hf:=filled hF hM hC hM2 (fun k x hk e => (hd x).2 (hA x (.inr ⟨k,hk,e⟩)))
 obtain ⟨k,e⟩:=(hd o).2 (hA o (.inl rfl))
 obtain ⟨x,e',k1,hk1,e1⟩:=hf k (hs k (hM2.suit k o e))
 rw [e] at e'; cases e'
 exact ho ⟨k1,e1⟩
theorem Matchable.sub {S : Nat → Nat → Prop} {A B : Nat → Prop} (hA : Matchable S A) (hB : ∀ x,B x → A x) : Matchable S B:=by
 obtain ⟨h,hM,hd⟩:=hA
 refine ⟨fun k => match h k with | none => none | some x => if B x then some x else none,⟨fun k o e => ?_,fun k k' o e e' => ?_⟩,fun x => ⟨fun ⟨k,e⟩ => ?_,fun hx => ?_⟩⟩
 ·cases hk : h k with
  | none => simp only [hk] at e; cases e
  | some x =>
   simp only [hk] at e
   split at e
   ·cases e; exact hM.suit k _ hk
   ·cases e
 ·cases hk : h k with
  | none => simp only [hk] at e; cases e
  | some x =>
   cases hk' : h k' with
   | none => simp only [hk'] at e'; cases e'
   | some x' =>
    simp only [hk] at e
    simp only [hk'] at e'
    split at e
    ·split at e'
     ·cases e; cases e'; exact hM.inj k k' _ hk hk'
     ·cases e'
    ·cases e
 ·cases hk : h k with
  | none => simp only [hk] at e; cases e
  | some z =>
   simp only [hk] at e
   split at e
   ·cases e; assumption
   ·cases e
 ·obtain ⟨k,e⟩:=(hd x).2 (hB x hx)
  exact ⟨k,by simp only [e]; exact if_pos hx⟩
set_option linter.unusedSimpArgs false
open Classical
def wor (nB : Nat) (w : Nat → Int) (h : Nat → Option Nat) : Int:=sm nB fun k => ov w (h k)
structure Opt (S : Nat → Nat → Prop) (w : Nat → Int) (nB : Nat) (V : Int) : Prop where
 some : ∃ h,Mat S h ∧ wor nB w h = V
 most : ∀ h,Mat S h → wor nB w h ≤ V
theorem Opt.unique {S : Nat → Nat → Prop} {w : Nat → Int} {nB : Nat} {V V' : Int} (h : Opt S w nB V) (h' : Opt S w nB V') : V = V':=by
 obtain ⟨a,ha,ea⟩:=h.some
 obtain ⟨b,hb,eb⟩:=h'.some
 have h1:=h'.most a ha
 have h2:=h.most b hb
 omega
structure Cert (S : Nat → Nat → Prop) (w : Nat → Int) (L : Nat → Prop) (i : Nat) : Prop where
 out : ∃ h C,Mat S h ∧ (∀ x,Dom h x → L x) ∧ Shut S C h ∧ (∀ k,S i k → C k) ∧ ∀ k x,C k → h k = some x → w i ≤ w x
theorem Cert.more {S : Nat → Nat → Prop} {w : Nat → Int} {L L' : Nat → Prop} {i : Nat} (hc : Cert S w L i) (hs : ∀ x,L x → L' x) : Cert S w L' i:=by
 obtain ⟨h,C,h1,h2,h3,h4,h5⟩:=hc.out
 exact ⟨h,C,h1,fun x hx => hs x (h2 x hx),h3,h4,h5⟩
structure Greedy (S : Nat → Nat → Prop) (w : Nat → Int) (P L : Nat → Prop) : Prop where
 can : Matchable S L
 sub : ∀ x,L x → P x
 cert : ∀ i,P i → ¬ L i → Cert S w L i
theorem Greedy.nil {S : Nat → Nat → Prop} {w : Nat → Int} : Greedy S w (fun _ => False) (fun _ => False):=⟨⟨fun _ => none,⟨fun _ _ e => (by cases e),fun _ _ _ e => (by cases e)⟩,fun x => ⟨fun ⟨k,e⟩ => (by cases e),False.elim⟩⟩,fun _ h => h,fun _ h => h.elim⟩
theorem Greedy.yes {S : Nat → Nat → Prop} {w : Nat → Int} {P L : Nat → Prop} {i : Nat} (h : Greedy S w P L) (hm : Matchable S fun x => L x ∨ x = i) : Greedy S w (fun x => P x ∨ x = i) (fun x => L x ∨ x = i) :=
 ⟨hm,fun x hx => hx.imp (h.sub x) id,fun j hj hn => by
  rcases hj with hj | rfl
  ·exact (h.cert j hj fun hl => hn (.inl hl)).more fun x hx => .inl hx
  ·exact absurd (.inr rfl) hn⟩
theorem Greedy.no {S : Nat → Nat → Prop} {w : Nat → Int} {nB nO : Nat} (hF : Fit S nB nO) {P L : Nat → Prop} {i : Nat} (h : Greedy S w P L) (hw : ∀ x,P x → w i ≤ w x) (hm : ¬ Matchable S fun x => L x ∨ x = i) : Greedy S w (fun x => P x ∨ x = i) L:=by
 have hi : ¬ L i:=fun hl => hm (by
  obtain ⟨m,hM,hd⟩:=h.can
  exact ⟨m,hM,fun x => (hd x).trans ⟨.inl,fun hx => hx.elim id fun e => e ▸ hl⟩⟩)
 refine ⟨h.can,fun x hx => .inl (h.sub x hx),fun j hj hn => ?_⟩
 rcases hj with hj | rfl
 ·exact h.cert j hj hn
 ·obtain ⟨m,hM,hd⟩:=h.can
  rcases aug0 hF hM (o:=j) (fun hj => hn ((hd j).1 hj)) with ⟨m',hM',hd'⟩ | ⟨C,hC,hs⟩
  ·exact absurd ⟨m',hM',fun x => (hd' x).trans ⟨fun hx => hx.elim .inr fun hx => .inl ((hd x).1 hx),fun hx => hx.elim (fun hl => .inr ((hd x).2 hl)) .inl⟩⟩ hm
  ·exact ⟨m,C,hM,fun x hx => (hd x).1 hx,hC,hs,fun k x _ e => hw x (h.sub x ((hd x).1 ⟨k,e⟩))⟩
theorem Greedy.iff {S : Nat → Nat → Prop} {w : Nat → Int} {P P' L L' : Nat → Prop} (h : Greedy S w P L) (hP : ∀ x,P x ↔ P' x) (hL : ∀ x,L x ↔ L' x) : Greedy S w P' L':=by
 have e1 : P = P':=funext fun x => propext (hP x)
 have e2 : L = L':=funext fun x => propext (hL x)
 subst e1 e2; exact h
inductive Way (S : Nat → Nat → Prop) (h : Nat → Option Nat) (k : Nat) : Nat → Prop
 | refl : Way S h k k
 | step {k1 k2 x : Nat} : Way S h k k1 → h k1 = some x → S x k2 → Way S h k k2
theorem Way.head {S : Nat → Nat → Prop} {h : Nat → Option Nat} {k k' k2 x : Nat} (e : h k = some x) (hs : S x k') (hw : Way S h k' k2) : Way S h k k2:=by
 induction hw with
 | refl => exact .step .refl e hs
 | step _ e1 s1 ih => exact .step ih e1 s1
structure Prices (S : Nat → Nat → Prop) (w : Nat → Int) (nB nO : Nat) (h : Nat → Option Nat) (q u : Nat → Int) : Prop where
 q0 : ∀ k,0 ≤ q k
 free : ∀ k,h k = none → q k = 0
 held : ∀ k x,h k = some x → q k ≤ w x
 least : ∀ k x k',h k = some x → S x k' → q k ≤ q k'
 out : ∀ i k,i < nO → ¬ Dom h i → S i k → w i ≤ q k
 uset : ∀ k x,h k = some x → u x = w x - q k
 unot : ∀ i,¬ Dom h i → u i = 0
 total : wor nB w h = sm nB q + sm nO u
 less : ∀ k,∃ h',Mat S h' ∧ h' k = none ∧ wor nB w h' = wor nB w h - q k
theorem Prices.u0 {S : Nat → Nat → Prop} {w : Nat → Int} {nB nO : Nat} {h : Nat → Option Nat} {q u : Nat → Int} (hp : Prices S w nB nO h q u) (i : Nat) : 0 ≤ u i:=by
 by_cases hd : Dom h i
 ·obtain ⟨k,e⟩:=hd
  have h1:=hp.uset k i e
  have h2:=hp.held k i e
  omega
 ·rw [hp.unot i hd]; omega
theorem Prices.feas {S : Nat → Nat → Prop} {w : Nat → Int} {nB nO : Nat} {h : Nat → Option Nat} {q u : Nat → Int} (hF : Fit S nB nO) (hp : Prices S w nB nO h q u) {i k : Nat} (hs : S i k) : w i ≤ q k + u i:=by
 by_cases hd : Dom h i
 ·obtain ⟨k',e⟩:=hd
  have h1:=hp.uset k' i e
  have h2:=hp.least k' i k e hs
  omega
 ·rw [hp.unot i hd]; have:=hp.out i k (hF.ord i k hs) hd hs; omega
theorem weak {S : Nat → Nat → Prop} {w : Nat → Int} {nB nO : Nat} (hF : Fit S nB nO) {q u : Nat → Int} (hq : ∀ k,k < nB → 0 ≤ q k) (hu : ∀ i,i < nO → 0 ≤ u i) (hf : ∀ i k,S i k → w i ≤ q k + u i) {h : Nat → Option Nat} (hM : Mat S h) : wor nB w h ≤ sm nB (fun k => if h k = none then 0 else q k) + sm nO u:=by
 have h1 : wor nB w h ≤ sm nB (fun k => (if h k = none then 0 else q k) + ov u (h k)):=m4 fun k _ => by
  cases e : h k with
  | none => simp [ov]
  | some x =>
   have:=hf x k (hM.suit k x e)
   simp only [ov,reduceCtorEq,if_false]
   exact this
 have h2:=sm_add (fun k => if h k = none then 0 else q k) (fun k => ov u (h k)) nB
 have h3:=bij hF hM u
 have h4 : sm nO (fun o => if Dom h o then u o else 0) ≤ sm nO u:=m4 fun o ho => by
  have:=hu o ho
  split
  ·exact Int.le_refl _
  ·exact this
 omega
theorem weak' {S : Nat → Nat → Prop} {w : Nat → Int} {nB nO : Nat} (hF : Fit S nB nO) {q u : Nat → Int} (hq : ∀ k,k < nB → 0 ≤ q k) (hu : ∀ i,i < nO → 0 ≤ u i) (hf : ∀ i k,S i k → w i ≤ q k + u i) {h : Nat → Option Nat} (hM : Mat S h) : wor nB w h ≤ sm nB q + sm nO u:=by
 have h1:=weak hF hq hu hf hM
 have h2 : sm nB (fun k => if h k = none then 0 else q k) ≤ sm nB q:=m4 fun k hk => by
  have:=hq k hk
  split
  ·exact this
  ·exact Int.le_refl _
 omega
theorem weak_but {S : Nat → Nat → Prop} {w : Nat → Int} {nB nO : Nat} (hF : Fit S nB nO) {q u : Nat → Int} (hq : ∀ k,k < nB → 0 ≤ q k) (hu : ∀ i,i < nO → 0 ≤ u i) (hf : ∀ i k,S i k → w i ≤ q k + u i) {h : Nat → Option Nat} (hM : Mat S h) {k : Nat} (hk : k < nB) (hn : h k = none) : wor nB w h ≤ sm nB q - q k + sm nO u:=by
 have h1:=weak hF hq hu hf hM
 have h3:=lp (f:=q) (g:=fun j => if j = k then 0 else q j) hk (fun i _ hi => by simp only [if_neg hi])
 have h4 : (if k = k then (0 : Int) else q k) = 0:=if_pos rfl
 rw [h4] at h3
 have h2 : sm nB (fun j => if h j = none then 0 else q j) ≤ sm nB (fun j => if j = k then 0 else q j):=m4 fun j hj => by
  have:=hq j hj
  by_cases hjk : j = k
  ·subst hjk; simp [hn]
  ·simp only [if_neg hjk]
   split
   ·exact this
   ·exact Int.le_refl _
 omega
def freed (h : Nat → Option Nat) (k : Nat) : Nat → Option Nat:=fun j => if j = k then none else h j
theorem ry (h : Nat → Option Nat) (k : Nat) : freed h k k = none:=if_pos rfl
theorem px {h : Nat → Option Nat} {k j : Nat} (hj : j ≠ k) : freed h k j = h j:=if_neg hj
theorem dc {h : Nat → Option Nat} {k j x : Nat} (e : freed h k j = some x) : j ≠ k ∧ h j = some x:=by
 by_cases hj : j = k
 ·subst hj; rw [ry] at e; cases e
 ·rw [px hj] at e; exact ⟨hj,e⟩
theorem Mat.freed {S : Nat → Nat → Prop} {h : Nat → Option Nat} (hM : Mat S h) (k : Nat) : Mat S (freed h k) :=
 ⟨fun j o e => hM.suit j o (dc e).2,fun j j' o e e' => hM.inj j j' o (dc e).2 (dc e').2⟩
theorem sE {nB k : Nat} (hk : k < nB) (w : Nat → Int) (h : Nat → Option Nat) : wor nB w (freed h k) = wor nB w h - ov w (h k):=by
 have:=lp (f:=fun j => ov w (h j)) (g:=fun j => ov w (freed h k j)) hk (fun i _ hi => by simp only [px hi])
 simp only [ry] at this
 have e : ov w none = 0:=rfl
 rw [e] at this
 unfold wor
 omega
theorem wor_dom {S : Nat → Nat → Prop} {nB nO : Nat} (hF : Fit S nB nO) (w : Nat → Int) {h h' : Nat → Option Nat} (hM : Mat S h) (hM' : Mat S h') (hd : ∀ x,Dom h x ↔ Dom h' x) : wor nB w h = wor nB w h':=by
 unfold wor
 rw [bij hF hM w,bij hF hM' w]
 refine cw fun o _ => ?_
 by_cases hc : Dom h o
 ·rw [if_pos hc,if_pos ((hd o).1 hc)]
 ·rw [if_neg hc,if_neg fun hh => hc ((hd o).2 hh)]
theorem way_less {S : Nat → Nat → Prop} {nB nO : Nat} (hF : Fit S nB nO) (w : Nat → Int) {h : Nat → Option Nat} (hM : Mat S h) {k0 k1 : Nat} (hk1 : k1 < nB) (hw : Way S h k0 k1) : ∃ h',Mat S h' ∧ h' k0 = none ∧ wor nB w h' = wor nB w h - ov w (h k1):=by
 have e2:=sE hk1 w h
 have hM2:=hM.freed k1
 cases hk0 : freed h k1 k0 with
 | none => exact ⟨_,hM2,hk0,e2⟩
 | some o =>
  obtain ⟨hne,ho⟩:=dc hk0
  -- without the first bay
  let S' : Nat → Nat → Prop:=fun x k => S x k ∧ k ≠ k0
  have hF' : Fit S' nB nO:=⟨fun x k hs => hF.bay x k hs.1,fun x k hs => hF.ord x k hs.1⟩
  let h3:=freed (freed h k1) k0
  have hM3 : Mat S' h3:=⟨fun k x e => ⟨hM2.suit k x (dc e).2,(dc e).1⟩,(hM2.freed k0).inj⟩
  have hno : ¬ Dom h3 o:=fun ⟨k,e⟩ => (dc e).1 (hM2.inj k k0 o (dc e).2 hk0)
  rcases aug0 hF' hM3 hno with ⟨h',hM',hd⟩ | ⟨C,hC,hs⟩
  ·have hMS : Mat S h':=⟨fun k x e => (hM'.suit k x e).1,hM'.inj⟩
   refine ⟨h',hMS,?_,?_⟩
   ·cases e : h' k0 with
    | none => rfl
    | some x => exact absurd rfl (hM'.suit k0 x e).2
   ·rw [← e2]
    refine wor_dom hF w hMS hM2 fun x => ?_
    rw [hd x]
    refine ⟨fun hx => ?_,fun ⟨k,e⟩ => ?_⟩
    ·rcases hx with rfl | ⟨k,e⟩
     ·exact ⟨k0,hk0⟩
     ·exact ⟨k,(dc e).2⟩
    ·by_cases hk : k = k0
     ·subst hk; rw [hk0] at e; cases e; exact .inl rfl
     ·exact .inr ⟨k,(px hk).trans e⟩
  ·exfalso
   have hall : ∀ k,Way S h k0 k → C k ∨ k = k0:=fun k hk => by
    induction hk with
    | refl => exact .inr rfl
    | @step ka kb x _ e s ih =>
     by_cases hkb : kb = k0
     ·exact .inr hkb
     ·rcases ih with hc | rfl
      ·obtain ⟨y,ey,hy⟩:=hC.shut ka hc
       have:=(dc (dc ey).2).2
       rw [e] at this; cases this
       exact .inl (hy kb ⟨s,hkb⟩)
      ·rw [ho] at e; cases e
       exact .inl (hs kb ⟨s,hkb⟩)
   rcases hall k1 hw with hc | e
   ·obtain ⟨y,ey,_⟩:=hC.shut k1 hc
    exact (dc (dc ey).2).1 rfl
   ·exact hne e.symm
theorem prices {S : Nat → Nat → Prop} {w : Nat → Int} {nB nO : Nat} (hF : Fit S nB nO) (hw : ∀ i,0 ≤ w i) {L : Nat → Prop} {h : Nat → Option Nat} (hM : Mat S h) (hd : ∀ x,Dom h x ↔ L x) (hc : ∀ i,i < nO → ¬ L i → Cert S w L i) : ∃ q u,Prices S w nB nO h q u:=by
 have hv : ∀ k,0 ≤ ov w (h k):=fun k => by
  cases h k with
  | none => exact Int.le_refl _
  | some x => exact hw x
 have hex : ∀ k,∃ k',Way S h k k' ∧ ∀ k'',Way S h k k'' → ov w (h k') ≤ ov w (h k''):=fun k => min_ex hv (ov w (h k)).toNat k .refl (by have:=hv k; omega)
 let r : Nat → Nat:=fun k => Classical.choose (hex k)
 have hr : ∀ k,Way S h k (r k) ∧ ∀ k'',Way S h k k'' → ov w (h (r k)) ≤ ov w (h k''):=fun k => Classical.choose_spec (hex k)
 let q : Nat → Int:=fun k => ov w (h (r k))
 let u : Nat → Int:=fun i => if hx : Dom h i then w i - q (Classical.choose hx) else 0
 have huset : ∀ k x,h k = some x → u x = w x - q k:=fun k x e => by
  have hx : Dom h x:=⟨k,e⟩
  have:=hM.inj _ _ x (Classical.choose_spec hx) e
  show (if hx : Dom h x then w x - q (Classical.choose hx) else 0) = _
  rw [dif_pos hx,this]
 have hunot : ∀ i,¬ Dom h i → u i = 0:=fun i hi => dif_neg hi
 have hfree : ∀ k,h k = none → q k = 0:=fun k e => by
  have h1:=(hr k).2 k .refl
  have h2:=hv (r k)
  rw [e] at h1
  have e0 : ov w none = 0:=rfl
  show ov w (h (r k)) = 0
  omega
 refine ⟨q,u,fun k => hv (r k),hfree,fun k x e => ?_,fun k x k' e hs => (hr k).2 _ (.head e hs (hr k').1),fun i k hi hn hs => ?_,huset,hunot,?_,fun k => ?_⟩
 ·have h1:=(hr k).2 k .refl
  rw [e] at h1
  exact h1
 ·obtain ⟨h0,C,hM0,hd0,hC,hsC,hwC⟩:=(hc i hi (fun hl => hn ((hd i).2 hl))).out
  have hf:=filled hF hM0 hC hM (fun k x _ e => (hd x).2 (hd0 x ⟨k,e⟩))
  have hall : ∀ k',Way S h k k' → C k':=fun k' hk' => by
   induction hk' with
   | refl => exact hsC k hs
   | @step ka kb x _ e s ih =>
    obtain ⟨y,ey,k1,hk1,e1⟩:=hf ka ih
    rw [e] at ey; cases ey
    obtain ⟨z,ez,hz⟩:=hC.shut k1 hk1
    rw [e1] at ez; cases ez
    exact hz kb s
  obtain ⟨y,ey,k1,hk1,e1⟩:=hf _ (hall _ (hr k).1)
  show w i ≤ ov w (h (r k))
  rw [ey]
  exact hwC k1 y hk1 e1
 ·have h1:=bij hF hM u
  have h2 : sm nO (fun o => if Dom h o then u o else 0) = sm nO u:=cw fun o _ => by
   by_cases hx : Dom h o
   ·rw [if_pos hx]
   ·rw [if_neg hx,hunot o hx]
  have h3 : sm nB (fun k => ov u (h k)) = sm nB (fun k => ov w (h k) - q k):=cw fun k _ => by
   cases e : h k with
   | none => rw [hfree k e]; rfl
   | some x => exact huset k x e
  have h4:=sm_sub (fun k => ov w (h k)) q nB
  have e5 : sm nB (fun k => ov w (h k)) = wor nB w h:=rfl
  omega
 ·by_cases hk : r k < nB
  ·exact way_less hF w hM hk (hr k).1
  ·have hout : h (r k) = none:=by
    cases e : h (r k) with
    | none => rfl
    | some x => exact absurd (hF.bay x _ (hM.suit _ x e)) hk
   have hq : q k = 0:=by show ov w (h (r k)) = 0; rw [hout]; rfl
   by_cases hk2 : h k = none
   ·exact ⟨h,hM,hk2,by omega⟩
   ·exfalso
    have:=(hr k).1
    have hstep : ∀ k',Way S h k k' → k' < nB:=fun k' hk' => by
     cases hk' with
     | refl =>
      cases e : h k with
      | none => exact absurd e hk2
      | some x => exact hF.bay x k (hM.suit k x e)
     | step _ _ s => exact hF.bay _ _ s
    exact hk (hstep _ this)
theorem Prices.opt {S : Nat → Nat → Prop} {w : Nat → Int} {nB nO : Nat} (hF : Fit S nB nO) {h : Nat → Option Nat} (hM : Mat S h) {q u : Nat → Int} (hp : Prices S w nB nO h q u) : Opt S w nB (wor nB w h) :=
 ⟨⟨h,hM,rfl⟩,fun h2 hM2 => by rw [hp.total]; exact weak' hF (fun k _ => hp.q0 k) (fun i _ => hp.u0 i) (fun i k hs => hp.feas hF hs) hM2⟩
theorem Prices.without {S : Nat → Nat → Prop} {w : Nat → Int} {nB nO : Nat} (hF : Fit S nB nO) {h : Nat → Option Nat} (hM : Mat S h) {q u : Nat → Int} (hp : Prices S w nB nO h q u) {k : Nat} (hk : k < nB) : Opt (fun i j => S i j ∧ j ≠ k) w nB (wor nB w h - q k):=by
 refine ⟨?_,fun h2 hM2 => ?_⟩
 ·obtain ⟨h',hM',hn,e⟩:=hp.less k
  refine ⟨h',⟨fun j o ej => ⟨hM'.suit j o ej,fun ejk => ?_⟩,hM'.inj⟩,e⟩
  subst ejk; rw [hn] at ej; cases ej
 ·have hM3 : Mat S h2:=⟨fun j o e => (hM2.suit j o e).1,hM2.inj⟩
  have hn : h2 k = none:=by
   cases e : h2 k with
   | none => rfl
   | some x => exact absurd rfl (hM2.suit k x e).2
  have:=weak_but (w:=w) (q:=q) (u:=u) hF (fun k _ => hp.q0 k) (fun i _ => hp.u0 i) (fun i k hs => hp.feas hF hs) hM3 hk hn
  rw [hp.total]
  omega
theorem Greedy.prices {S : Nat → Nat → Prop} {w : Nat → Int} {nB nO : Nat} (hF : Fit S nB nO) (hw : ∀ i,0 ≤ w i) {P L : Nat → Prop} (hg : Greedy S w P L) (hP : ∀ i,i < nO → P i) {h : Nat → Option Nat} (hM : Mat S h) (hd : ∀ x,Dom h x ↔ L x) : ∃ q u,Prices S w nB nO h q u:=Go.Proofs.YthndghnkebboaaaGreat.prices hF hw hM hd fun i hi hn => hg.cert i (hP i hi) hn
theorem Greedy.opt {S : Nat → Nat → Prop} {w : Nat → Int} {nB nO : Nat} (hF : Fit S nB nO) (hw : ∀ i,0 ≤ w i) {P L : Nat → Prop} (hg : Greedy S w P L) (hP : ∀ i,i < nO → P i) {h : Nat → Option Nat} (hM : Mat S h) (hd : ∀ x,Dom h x ↔ L x) : Opt S w nB (wor nB w h):=by
 obtain ⟨q,u,hp⟩:=hg.prices hF hw hP hM hd
 exact hp.opt hF hM
set_option linter.unusedSimpArgs false
theorem insF_l2 {n : Nat} {data0 : List Int} (h0 : data0.length = n) (hn : n < 1000000) {cmp : Int → Int → Option Int} (c : Int → Int → Int) (f : Int → Int) (S : Int → Prop) (hc : ∀ x y,S x → S y → cmp x y = some (c x y) ∧ (c x y < 0 ↔ f x < f y)) (x : Int) (hx : S x) :
  ∀ (k : Nat) (A1 T : List Int),A1.length = k → A1.length + 1 + T.length = n → (∀ y ∈ A1,S y) → ∃ B1 B2 : List Int,A1 = B1 ++ B2 ∧ aO (aT data0 0 cmp) ((A1.length : Int),A1 ++ x :: T) = some ((B1.length : Int),B1 ++ x :: (B2 ++ T)) ∧ (∀ y ∈ B2,f x < f y) ∧ (∀ y,B1.getLast? = some y → ¬ f x < f y):=by
 intro k
 induction k with
 | zero =>
  intro A1 T hk hl hS
  have : A1 = []:=List.eq_nil_of_length_eq_zero hk
  subst this
  refine ⟨[],[],rfl,?_,by simp,by simp⟩
  refine ct ?_
  unfold aT; dsimp only
  rfl
 | succ k ih =>
  intro A1 T hk hl hS
  obtain ⟨A,y,rfl⟩ : ∃ A y,A1 = A ++ [y]:=⟨A1.dropLast,A1.getLast (by intro h; rw [h] at hk; cases hk),(List.dropLast_concat_getLast _).symm⟩
  have hA : A.length = k:=by simpa using hk
  simp only [List.length_append,List.length_cons,List.length_nil] at hl
  have hy : S y:=hS y (by simp)
  have e1 : A ++ [y] ++ x :: T = A ++ y :: x :: T:=by simp
  have hi : (((A ++ [y]).length : Nat) : Int) = (A.length : Int) + 1:=by simp
  have hj1 : w64 ((((A ++ [y]).length : Nat) : Int) - 1) = (A.length : Int):=by rw [iB (by simp only [List.length_append,List.length_cons,List.length_nil]; omega) (by simp only [List.length_append,List.length_cons,List.length_nil]; omega)]; simp
  have r1 : rdL (A ++ [y] ++ x :: T) (((A ++ [y]).length : Nat) : Int) = x:=mS _ _ _ _ rfl
  have r2 : rdL (A ++ [y] ++ x :: T) (A.length : Int) = y:=by rw [e1]; exact mS _ _ _ _ rfl
  obtain ⟨hc1,hc2⟩:=hc x y hx hy
  have g1 : (0 : Int) ≤ (((A ++ [y]).length : Nat) : Int) ∧ (((A ++ [y]).length : Nat) : Int) < ((data0.length : Nat) : Int):=by rw [h0]; simp only [List.length_append,List.length_cons,List.length_nil]; omega
  have g2 : (0 : Int) ≤ (A.length : Int) ∧ (A.length : Int) < ((data0.length : Nat) : Int):=by rw [h0]; omega
  have hd : decide ((0 : Int) < (((A ++ [y]).length : Nat) : Int)) = true:=decide_eq_true (by rw [hi]; omega)
  have step : aT data0 0 cmp ((((A ++ [y]).length : Nat) : Int),A ++ [y] ++ x :: T) = if f x < f y then some (.inl ((A.length : Int),A ++ x :: ([y] ++ T))) else some (.inr ((((A ++ [y]).length : Nat) : Int),A ++ [y] ++ x :: T)):=by
   unfold aT; dsimp only
   simp only [hj1,r1,r2,hd,if_true,gPo g1,gPo g2,hc1,oB,decide_eq_true_eq]
   by_cases hlt : f x < f y
   ·rw [if_pos (hc2.2 hlt),if_pos hlt]
    refine congrArg some (congrArg Sum.inl (Prod.ext rfl ?_))
    show ((A ++ [y] ++ x :: T).set (Int.toNat (((A ++ [y]).length : Nat) : Int)) y).set (Int.toNat (A.length : Int)) x = _
    rw [Int.toNat_natCast,Int.toNat_natCast,lA (A ++ [y]) x y T _ rfl]
    have e3 : A ++ [y] ++ y :: T = A ++ y :: (y :: T):=by simp
    rw [e3,lA A y x (y :: T) _ rfl]
    simp
   ·rw [if_neg (fun h => hlt (hc2.1 h)),if_neg hlt]
  by_cases hlt : f x < f y
  ·rw [if_pos hlt] at step
   obtain ⟨B1,B2,hB,hr,h2,h3⟩:=ih A ([y] ++ T) hA (by simp; omega) (fun z hz => hS z (by simp [hz]))
   refine ⟨B1,B2 ++ [y],by rw [hB,List.append_assoc],?_,?_,h3⟩
   ·rw [gi step,hr]
    simp
   ·intro z hz
    rcases List.mem_append.1 hz with hz | hz
    ·exact h2 z hz
    ·rw [List.mem_singleton.1 hz]; exact hlt
  ·rw [if_neg hlt] at step
   refine ⟨A ++ [y],[],by simp,?_,by simp,?_⟩
   ·rw [ct step]; simp
   ·intro z hz
    simp at hz
    rw [← hz]
    exact hlt
theorem insF_all {l : List Int} (hl : l.length < 1000000) {cmp : Int → Int → Option Int} (c : Int → Int → Int) (f : Int → Int) (hc : ∀ x y,x ∈ l → y ∈ l → cmp x y = some (c x y) ∧ (c x y < 0 ↔ f x < f y)) :
  ∃ s,bj l 0 (l.length : Int) cmp = some s ∧ s.Perm l ∧ s.Pairwise (fun a b => f a ≤ f b):=by
 unfold bj
 have e1 : w64 (0 + 1) = 1:=rfl
 rw [e1]
 have main : ∀ (R A : List Int),(A ++ R).Perm l → A.Pairwise (fun a b => f a ≤ f b) → ∃ s,aO (aE l 0 (l.length : Int) cmp) ((A.length : Int),A ++ R) = some ((l.length : Int),s) ∧ s.Perm l ∧ s.Pairwise (fun a b => f a ≤ f b):=by
  intro R
  induction R with
  | nil =>
   intro A hp hs
   have hlen : A.length = l.length:=by have:=hp.length_eq; simpa using this
   refine ⟨A,?_,by simpa using hp,hs⟩
   rw [List.append_nil,hlen]
   refine ct ?_
   unfold aE; dsimp only
   rw [show decide ((l.length : Int) < (l.length : Int)) = false from decide_eq_false (by omega)]
   rfl
  | cons x T ih =>
   intro A hp hs
   have hlen : A.length + (T.length + 1) = l.length:=by have:=hp.length_eq; simpa using this
   obtain ⟨B1,B2,hB,hr,h2,h3⟩:=insF_l2 (data0:=l) rfl hl c f (fun z => z ∈ l) hc x (hp.mem_iff.1 (by simp)) A.length A T rfl (by omega) (fun y hy => hp.mem_iff.1 (by simp [hy]))
   have hstep : aE l 0 (l.length : Int) cmp ((A.length : Int),A ++ x :: T) = some (.inl (((B1 ++ x :: B2).length : Int),(B1 ++ x :: B2) ++ T)):=by
    unfold aE; dsimp only
    rw [show decide ((A.length : Int) < (l.length : Int)) = true from decide_eq_true (by omega)]
    rw [if_pos rfl,hr,oB]
    have hw : w64 ((A.length : Int) + 1) = (A.length : Int) + 1:=iB (by omega) (by omega)
    simp only [hw]
    refine congrArg some (congrArg Sum.inl (Prod.ext ?_ ?_))
    ·simp [hB]; omega
    ·simp
   have hs' : (B1 ++ x :: B2).Pairwise (fun a b => f a ≤ f b):=by
    rw [hB,List.pairwise_append] at hs
    obtain ⟨s1,s2,s3⟩:=hs
    have hle : ∀ y ∈ B1,f y ≤ f x:=by
     intro y hy
     rcases List.eq_nil_or_concat B1 with rfl | ⟨B,z,rfl⟩
     ·cases hy
     ·have hz:=h3 z (by simp)
      rw [List.concat_eq_append] at hy s1
      rcases List.mem_append.1 hy with hy | hy
      ·rw [List.pairwise_append] at s1
       have:=s1.2.2 y hy z (by simp); omega
      ·rw [List.mem_singleton.1 hy]; omega
    rw [List.pairwise_append]
    refine ⟨s1,List.pairwise_cons.2 ⟨fun y hy => by have:=h2 y hy; omega,s2⟩,fun a ha b hb => ?_⟩
    rcases List.mem_cons.1 hb with rfl | hb
    ·exact hle a ha
    ·exact s3 a ha b hb
   have hp' : ((B1 ++ x :: B2) ++ T).Perm l:=by
    refine List.Perm.trans ?_ hp
    rw [hB]
    simp only [List.append_assoc,List.cons_append]
    exact List.Perm.append_left B1 (List.perm_middle).symm
   obtain ⟨s,h4,h5,h6⟩:=ih (B1 ++ x :: B2) hp' hs'
   exact ⟨s,by rw [gi hstep]; exact h4,h5,h6⟩
 rcases l with _ | ⟨x,T⟩
 ·have : aO (aE [] 0 (([] : List Int).length : Int) cmp) (1,[]) = some (1,[]):=by
   refine ct ?_
   unfold aE
   rfl
  exact ⟨[],by rw [this]; rfl,List.Perm.refl _,List.Pairwise.nil⟩
 ·obtain ⟨s,h1,h2,h3⟩:=main T [x] (by simp) (by simp)
  have h1' : aO (aE (x :: T) 0 ((x :: T).length : Int) cmp) (1,x :: T) = some (((x :: T).length : Int),s):=h1
  exact ⟨s,by rw [h1']; rfl,h2,h3⟩
theorem sf (a b : Int) : eA a b = some (if a < b then -1 else if b < a then 1 else 0):=by
 unfold eA dt
 simp only [bne_self_eq_false,oB,Bool.false_eq_true,if_false]
 by_cases h1 : a < b
 ·simp [h1]
 ·by_cases h2 : b < a <;> simp [h1,h2]
def pZ (n : Nat) : List Int:=(List.range n).map fun k : Nat => (k : Int)
theorem sW {l : List Int} (hl : l.length < 20) {cmp : Int → Int → Option Int} (c : Int → Int → Int) (f : Int → Int) (hc : ∀ x y,x ∈ l → y ∈ l → cmp x y = some (c x y) ∧ (c x y < 0 ↔ f x < f y)) : ∃ s,bv l cmp = some s ∧ s.Perm l ∧ s.Pairwise (fun a b => f a ≤ f b):=by
 obtain ⟨s,h1,h2,h3⟩:=insF_all (by omega) c f hc
 refine ⟨s,?_,h2,h3⟩
 unfold bv cM
 have e1 : aO (cf ((l.length : Nat) : Int)) (0,20) = some (0,20):=ct (by
  unfold cf; dsimp only
  rw [gPo (decide_eq_false (by omega))])
 rw [e1,oB]
 dsimp only
 rw [h1,oB]
 have e2 : aO (cj ((l.length : Nat) : Int)) (20,0,20) = some (20,0,20):=ct (by
  unfold cj; dsimp only
  rw [gPo (decide_eq_false (by omega))])
 rw [e2]
 rfl
def oat (y : TY) (o : Nat) : TO:=y.fR.getD o default
def bat (y : TY) (k : Nat) : TBay:=y.fB.getD k default
theorem eZ (y : TY) (o : Nat) : rdL y.fR (o : Int) = oat y o:=by unfold rdL oat; rw [Int.toNat_natCast]
theorem oP (y : TY) (k : Nat) : rdL y.fB (k : Int) = bat y k:=by unfold rdL bat; rw [Int.toNat_natCast]
def ls (o : TO) (b : TBay) : Bool:=decide (o.fH.fLo ≤ b.fHour ∧ b.fHour ≤ o.fH.fHi) && decide (o.fD ≤ b.fD)
theorem suits_eq (o : TO) (b : TBay) : iW o b = some (ls o b):=by unfold iW; rw [ll]; rfl
def Su (y : TY) (o k : Nat) : Prop:=o < y.fR.length ∧ k < y.fB.length ∧ ls (oat y o) (bat y k) = true
def wo (y : TY) (o : Nat) : Int:=(oat y o).fW
theorem Su.fit (y : TY) : Fit (Su y) y.fB.length y.fR.length:=⟨fun o k h => h.2.1,fun o k h => h.1⟩
def g0 (g : List (Int × Int)) (k : Nat) : Option Nat:=if bl g (k : Int) = true then some (az 0 g (k : Int)).toNat else none
def tri (t : List (Int × Bool)) (k : Nat) : Prop:=az false t (k : Int) = true
def OkG (nB nO : Nat) (g : List (Int × Int)) : Prop:=∀ p ∈ g,∃ k o : Nat,p = ((k : Int),(o : Int)) ∧ k < nB ∧ o < nO
theorem OkG.nil {nB nO : Nat} : OkG nB nO []:=fun p hp => by cases hp
theorem OkG.cons {nB nO k o : Nat} {g : List (Int × Int)} (h : OkG nB nO g) (hk : k < nB) (ho : o < nO) : OkG nB nO (((k : Int),(o : Int)) :: g):=fun p hp => by
 rcases List.mem_cons.1 hp with rfl | hp
 ·exact ⟨k,o,rfl,hk,ho⟩
 ·exact h p hp
theorem rt : g0 [] = fun _ => none:=rfl
theorem nr (g : List (Int × Int)) (k o : Nat) : g0 (((k : Int),(o : Int)) :: g) = fun j => if j = k then some o else g0 g j:=by
 funext j
 unfold g0
 rw [d7,fY]
 by_cases h : j = k
 ·subst h
  rw [if_pos rfl,if_pos rfl,if_pos rfl,if_pos rfl,Int.toNat_natCast]
 ·rw [if_neg (show ¬ ((k : Int) = (j : Int)) by omega),if_neg (show ¬ ((k : Int) = (j : Int)) by omega),if_neg h]
theorem qe : tri [] = fun _ => False:=by funext k; exact propext ⟨fun h => (by cases h),False.elim⟩
theorem lq (t : List (Int × Bool)) (k : Nat) : tri (((k : Int),true) :: t) = fun j => tri t j ∨ j = k:=by
 funext j
 unfold tri
 rw [fY]
 refine propext ?_
 by_cases h : j = k
 ·subst h; rw [if_pos rfl]; exact ⟨fun _ => .inr rfl,fun _ => rfl⟩
 ·rw [if_neg (show ¬ ((k : Int) = (j : Int)) by omega)]; exact ⟨.inl,fun hh => hh.elim id fun e => absurd e h⟩
theorem mQ {nB nO : Nat} : ∀ {g : List (Int × Int)},OkG nB nO g → ∀ {k x : Nat},g0 g k = some x → bl g (k : Int) = true ∧ az 0 g (k : Int) = (x : Int) ∧ k < nB ∧ x < nO
 | [],_,k,x,e => by cases e
 | p :: g,hg,k,x,e => by
  obtain ⟨k',o,rfl,hk',ho⟩:=hg p (List.mem_cons_self ..)
  rw [nr] at e
  rw [d7,fY]
  by_cases h : k = k'
  ·subst h
   rw [if_pos rfl,if_pos rfl]
   simp only [if_true] at e
   cases e
   exact ⟨rfl,rfl,hk',ho⟩
  ·rw [if_neg (show ¬ ((k' : Int) = (k : Int)) by omega),if_neg (show ¬ ((k' : Int) = (k : Int)) by omega)]
   simp only [if_neg h] at e
   exact mQ (g:=g) (fun q hq => hg q (List.mem_cons_of_mem _ hq)) e
theorem rI {g : List (Int × Int)} {k : Nat} (e : g0 g k = none) : bl g (k : Int) = false:=by
 unfold g0 at e
 by_cases h : bl g (k : Int) = true
 ·rw [if_pos h] at e; cases e
 ·exact Bool.eq_false_iff.2 h
theorem ma {k : Nat} (h : k < 1000000) : eK (k : Int) = true:=by
 unfold eK
 rw [Bool.and_eq_true,decide_eq_true_eq,decide_eq_true_eq]; omega
theorem look (y : TY) (hB : y.fB.length ≤ 1000) (hO : y.fR.length ≤ 1000) : ∀ (fuel o : Nat) (t : List (Int × Bool)) (g : List (Int × Int)),o < y.fR.length → OkG y.fB.length y.fR.length g → unt y.fB.length (tri t) < (fuel : Int) → (t.length : Int) + unt y.fB.length (tri t) ≤ 2000 → (g.length : Int) + unt y.fB.length (tri t) ≤ 100000 → MatX (Su y) (tri t) (g0 g) → ¬ p7 (tri t) (g0 g) o →
  ∃ r t' g',bx fuel (o : Int) y t g = some (r,t',g') ∧ OkG y.fB.length y.fR.length g' ∧ (t'.length : Int) + unt y.fB.length (tri t') ≤ (t.length : Int) + unt y.fB.length (tri t) ∧ (g'.length : Int) + unt y.fB.length (tri t') ≤ (g.length : Int) + unt y.fB.length (tri t) ∧ (∀ k,tri t k → tri t' k) ∧ ((r = true ∧ AugY (Su y) (tri t) o (g0 g) (g0 g')) ∨ (r = false ∧ g' = g ∧ AugN (Su y) (tri t) (tri t') o (g0 g))):=by
 intro fuel
 induction fuel with
 | zero =>
  intro o t g _ _ hu
  have:=f9 y.fB.length (tri t)
  omega
 | succ fuel ih =>
  intro o t g ho hg hu hlt hlg hM hn
  have hinv:=dQ (body:=cn (o : Int) y (bx fuel))
   (fun s => ∃ (i : Nat) (t1 : List (Int × Bool)),s = (false,(i : Int),t1,g) ∧ i ≤ y.fB.length ∧ (∀ k,tri t k → tri t1 k) ∧ (t1.length : Int) + unt y.fB.length (tri t1) ≤ (t.length : Int) + unt y.fB.length (tri t) ∧ (∀ k,tri t1 k → ¬ tri t k → ∃ x,g0 g k = some x ∧ ∀ k',Su y x k' → tri t1 k') ∧ (∀ k,k < i → Su y o k → tri t1 k))
   (fun _ out => match out with
    | .inl u => u.1 = true ∧ OkG y.fB.length y.fR.length u.2.2.2 ∧ (u.2.2.1.length : Int) + unt y.fB.length (tri u.2.2.1) ≤ (t.length : Int) + unt y.fB.length (tri t) ∧ (u.2.2.2.length : Int) + unt y.fB.length (tri u.2.2.1) ≤ (g.length : Int) + unt y.fB.length (tri t) ∧ (∀ k,tri t k → tri u.2.2.1 k) ∧ AugY (Su y) (tri t) o (g0 g) (g0 u.2.2.2)
    | .inr u => u.2.2.2 = g ∧ (u.2.2.1.length : Int) + unt y.fB.length (tri u.2.2.1) ≤ (t.length : Int) + unt y.fB.length (tri t) ∧ AugN (Su y) (tri t) (tri u.2.2.1) o (g0 g))
   (fun s => y.fB.length - s.2.1.toNat) (by
    rintro _ ⟨i,t1,rfl,hi,hsub,hlen,hsh,hown⟩
    have hu1 : unt y.fB.length (tri t1) ≤ unt y.fB.length (tri t):=qO hsub
    have hu0:=f9 y.fB.length (tri t1)
    rcases Nat.lt_or_ge i y.fB.length with hlt' | hge
    ·have c1 : (0 : Int) ≤ (i : Int) ∧ (i : Int) < ((y.fB.length : Nat) : Int):=by omega
     have c2 : (0 : Int) ≤ (o : Int) ∧ (o : Int) < ((y.fR.length : Nat) : Int):=by omega
     have hb : cn (o : Int) y (bx fuel) (false,(i : Int),t1,g) = (if (az false t1 (i : Int) || !ls (oat y o) (bat y i)) = true then some (.inl (false,((i + 1 : Nat) : Int),t1,g)) else al (eK (i : Int) = true ∧ List.length t1 < 1000000000) ((if (!(bl g (i : Int))) = true then (al (eK (i : Int) = true ∧ List.length g < 1000000000) (some (.inr (.inl (true,(i : Int),(((i : Int),true) :: t1),(((i : Int),(o : Int)) :: g)))))) else ((bx fuel (az 0 g (i : Int)) y (((i : Int),true) :: t1) g).bind fun y17 => (if y17.1 = true then al (eK (i : Int) = true ∧ List.length y17.2.2 < 1000000000) (some (.inr (.inl (true,(i : Int),y17.2.1,(((i : Int),(o : Int)) :: y17.2.2))))) else some (.inl (false,((i + 1 : Nat) : Int),y17.2.1,y17.2.2))))))):=by
      unfold cn; dsimp only
      rw [fJ (show (i : Int) < ((y.fB.length : Nat) : Int) by omega),gPo c1,gPo (ma (by omega))]
      simp only [eZ,oP,pA,nX,rK,suits_eq,oB,gPo c2,bc (show i < 9223372036854775807 by omega),gPo (ma (show i < 1000000 by omega))]
      cases az false t1 (i : Int) <;> cases ls (oat y o) (bat y i) <;> rfl
     by_cases hsk : (az false t1 (i : Int) || !ls (oat y o) (bat y i)) = true
     ·refine .inl ⟨_,by rw [hb,if_pos hsk],⟨i + 1,t1,rfl,hlt',hsub,hlen,hsh,fun k hk hs => ?_⟩,by dsimp only; omega,fun t h => h⟩
      rcases Nat.lt_or_ge k i with h | h
      ·exact hown k h hs
      ·have : k = i:=by omega
       subst this
       rcases Bool.or_eq_true_iff.1 hsk with h | h
       ·exact h
       ·rw [hs.2.2] at h; cases h
     ·rw [if_neg hsk] at hb
      have hsk2:=Bool.eq_false_iff.2 hsk
      rw [Bool.or_eq_false_iff] at hsk2
      have hnt : ¬ tri t1 i:=by unfold tri; rw [hsk2.1]; exact Bool.false_ne_true
      have hS : Su y o i:=⟨ho,hlt',by have:=hsk2.2; simpa using this⟩
      have hua:=oI hlt' hnt
      rw [← lq] at hua
      have hM1 : MatX (Su y) (tri t1) (g0 g):=hM.more hsub
      have hn1 : ¬ p7 (tri t1) (g0 g) o:=fun ⟨j,hj,e⟩ => hn ⟨j,fun h => hj (hsub j h),e⟩
      have hsub' : ∀ k,tri t1 k → tri (((i : Int),true) :: t1) k:=fun k hk => by rw [lq]; exact .inl hk
      have hi1 : tri (((i : Int),true) :: t1) i:=by rw [lq]; exact .inr rfl
      rw [gPo ⟨ma (by omega),by omega⟩] at hb
      cases hh : g0 g i with
      | none =>
       rw [rI hh,if_pos (by rfl),gPo ⟨ma (by omega),by omega⟩] at hb
       refine .inr ⟨_,hb,rfl,hg.cons hlt' ho,?_,?_,fun k hk => hsub' k (hsub k hk),?_⟩
       ·dsimp only; rw [List.length_cons]; omega
       ·dsimp only; rw [List.length_cons]; omega
       ·dsimp only
        rw [nr]
        exact lD hM hsub hn (o6 hM1 hnt hS hh hn1)
      | some x =>
       obtain ⟨hx1,hx2,_,hx3⟩:=mQ hg hh
       rw [hx1,if_neg (by simp),hx2] at hb
       have hMi : MatX (Su y) (tri (((i : Int),true) :: t1)) (g0 g):=hM1.more hsub'
       have hni : ¬ p7 (tri (((i : Int),true) :: t1)) (g0 g) x:=fun ⟨j,hj,e⟩ => by
        have : j = i:=hM1.inj j i x (fun h => hj (hsub' j h)) hnt e hh
        subst this; exact hj hi1
       obtain ⟨r,t',g',hr,hg',hl1,hl2,hs',hcase⟩:=ih x (((i : Int),true) :: t1) g hx3 hg (by omega) (by rw [List.length_cons]; omega) (by omega) hMi hni
       rw [hr,oB] at hb
       dsimp only at hb
       rw [List.length_cons] at hl1
       have hut:=f9 y.fB.length (tri t')
       rcases hcase with ⟨rfl,hA⟩ | ⟨rfl,rfl,hA⟩
       ·rw [if_pos rfl,gPo ⟨ma (by omega),by omega⟩] at hb
        refine .inr ⟨_,hb,rfl,hg'.cons hlt' ho,?_,?_,fun k hk => hs' k (hsub' k (hsub k hk)),?_⟩
        ·dsimp only; omega
        ·dsimp only; rw [List.length_cons]; omega
        ·dsimp only
         rw [nr]
         rw [lq] at hA
         exact lD hM hsub hn (nb hM1 hnt hS hh hn1 hA)
       ·rw [if_neg (by simp)] at hb
        refine .inl ⟨_,hb,⟨i + 1,t',rfl,hlt',fun k hk => hs' k (hsub' k (hsub k hk)),by omega,fun k hk hnk => ?_,fun k hk hs => ?_⟩,by dsimp only; omega,fun t h => h⟩
        ·by_cases hk1 : tri (((i : Int),true) :: t1) k
         ·by_cases hki : k = i
          ·subst hki
           exact ⟨x,hh,fun k' hk' => hA.own k' hk'⟩
          ·rw [lq] at hk1
           have hk2 : tri t1 k:=hk1.elim id fun e => absurd e hki
           obtain ⟨z,e,hz⟩:=hsh k hk2 hnk
           exact ⟨z,e,fun k' hk' => hs' k' (hsub' k' (hz k' hk'))⟩
         ·exact hA.shut k hk hk1
        ·rcases Nat.lt_or_ge k i with h | h
         ·exact hs' k (hsub' k (hown k h hs))
         ·have : k = i:=by omega
          subst this; exact hs' k hi1
    ·have : i = y.fB.length:=by omega
     subst this
     refine .inr ⟨.inr (false,((y.fB.length : Nat) : Int),t1,g),?_,rfl,hlen,hsub,hsh,fun k hs => hown k hs.2.1 hs⟩
     unfold cn; dsimp only
     rw [en (by omega)]) (false,0,t,g) ⟨0,t,rfl,Nat.zero_le _,fun _ h => h,Int.le_refl _,fun k h1 h2 => absurd h1 h2,fun k hk => absurd hk (Nat.not_lt_zero _)⟩
  obtain ⟨out,hr,hpost⟩:=hinv
  unfold bx dY
  rw [hr,oB]
  rcases out with u | u
  ·obtain ⟨h1,h2,h3,h4,h5,h6⟩:=hpost
   refine ⟨u.1,u.2.2.1,u.2.2.2,rfl,h2,h3,h4,h5,.inl ⟨h1,h6⟩⟩
  ·obtain ⟨h1,h2,h3⟩:=hpost
   have:=qO (nB:=y.fB.length) h3.sub
   refine ⟨false,u.2.2.1,u.2.2.2,rfl,by rw [h1]; exact hg,h2,by rw [h1]; omega,h3.sub,.inr ⟨rfl,h1,h3⟩⟩
theorem sO {nB : Nat} {T : Nat → Prop} : unt nB T ≤ (nB : Int):=by
 unfold unt
 induction nB with
 | zero => exact Int.le_refl _
 | succ n ih =>
  show sm n (fun k => off (T k)) + off (T n) ≤ _
  rcases k8 (T n) with ⟨_,h⟩ | ⟨_,h⟩ <;> omega
theorem sy {y : TY} (hB : y.fB.length ≤ 1000) (hO : y.fR.length ≤ 1000) {g : List (Int × Int)} {o : Nat} (ho : o < y.fR.length) (hg : OkG y.fB.length y.fR.length g) (hl : g.length + y.fB.length ≤ 100000) (hM : Mat (Su y) (g0 g)) (hn : ¬ Dom (g0 g) o) :
  ∃ r g',dM g y (o : Int) = some (r,g') ∧ OkG y.fB.length y.fR.length g' ∧ g'.length ≤ g.length + y.fB.length ∧ ((r = true ∧ Mat (Su y) (g0 g') ∧ ∀ x,Dom (g0 g') x ↔ x = o ∨ Dom (g0 g) x) ∨ (r = false ∧ g' = g ∧ ∃ C,Shut (Su y) C (g0 g) ∧ ∀ k,Su y o k → C k)):=by
 have hu:=sO (nB:=y.fB.length) (T:=tri [])
 have hM' : MatX (Su y) (tri []) (g0 g):=by rw [qe]; exact hM.x
 have hn' : ¬ p7 (tri []) (g0 g) o:=by rw [qe]; exact fun h => hn (jO.1 h)
 obtain ⟨r,t',g',hr,h1,h2,h3,h4,h5⟩:=look y hB hO (y.fB.length + 2) o [] g ho hg (by omega) (by simp only [List.length_nil]; omega) (by omega) hM' hn'
 have hu':=f9 y.fB.length (tri t')
 refine ⟨r,g',?_,h1,by omega,?_⟩
 ·unfold dM
  rw [hr]; rfl
 ·rw [qe] at h5
  rcases h5 with ⟨e,hA⟩ | ⟨e,e',hA⟩
  ·exact .inl ⟨e,hA.mat0,hA.dom0⟩
  ·exact .inr ⟨e,e',_,hA.shut0,hA.own⟩
set_option linter.unusedSimpArgs false
theorem wo_out {y : TY} {i : Nat} (h : y.fR.length ≤ i) : wo y i = 0:=by
 unfold wo oat
 rw [List.getD_eq_getElem?_getD,List.getElem?_eq_none h]
 rfl
structure Fine (y : TY) : Prop where
 bays : y.fB.length ≤ 24
 ords : y.fR.length < 20
 low : ∀ i,0 ≤ wo y i
 high : ∀ i,wo y i ≤ 2000
theorem qM {n : Nat} {x : Int} : x ∈ pZ n ↔ ∃ k : Nat,x = (k : Int) ∧ k < n:=by
 unfold pZ
 rw [List.mem_map]
 exact ⟨fun ⟨k,hk,e⟩ => ⟨k,e.symm,List.mem_range.1 hk⟩,fun ⟨k,e,hk⟩ => ⟨k,List.mem_range.2 hk,e.symm⟩⟩
theorem rN (n : Nat) : (pZ n).Nodup:=by
 unfold pZ
 exact List.Pairwise.map (S:=fun a b : Int => a ≠ b) (fun k : Nat => (k : Int)) (fun a b hab he => hab (by have h2 : (a : Int) = (b : Int):=he; omega)) (List.nodup_range (n:=n))
theorem kh (n : Nat) : (pZ n).length = n:=by simp [pZ]
theorem idxs_succ (n : Nat) : pZ (n + 1) = pZ n ++ [(n : Int)]:=by
 unfold pZ
 rw [List.range_succ,List.map_append]
 rfl
theorem serve_ok {y : TY} (hy : Fine y) : ∃ g,g3 y = some g ∧ OkG y.fB.length y.fR.length g ∧ Mat (Su y) (g0 g) ∧ ∃ q u,Prices (Su y) (wo y) y.fB.length y.fR.length (g0 g) q u:=by
 obtain ⟨hB,hO,hlow,hhigh⟩:=hy
 have e0 : aO (eM y) (0,[]) = some ((y.fR.length : Int),pZ y.fR.length):=by
  have:=ja (body:=eM y) (fun k => ((k : Int),pZ k)) y.fR.length (t:=((y.fR.length : Int),pZ y.fR.length)) (fun k hk => by
   unfold eM; dsimp only
   rw [fJ (by omega),gPo (by rw [kh]; omega),bc (by omega),idxs_succ]) (by
   unfold eM; dsimp only
   rw [en (by omega)])
  exact this
 have hmem : ∀ x ∈ pZ y.fR.length,0 ≤ x ∧ x < ((y.fR.length : Nat) : Int):=fun x hx => by
  obtain ⟨k,rfl,hk⟩:=qM.1 hx
  omega
 obtain ⟨s,hs1,hs2,hs3⟩:=sW (l:=pZ y.fR.length) (by rw [kh]; omega) (cmp:=fun x12 x13 => fx x12 x13 y) (fun a b => if (rdL y.fR b).fW < (rdL y.fR a).fW then -1 else if (rdL y.fR a).fW < (rdL y.fR b).fW then 1 else 0) (fun x => -(rdL y.fR x).fW) (fun a b ha hb => by
  refine ⟨?_,?_⟩
  ·unfold fx
   rw [gPo (hmem b hb),gPo (hmem a ha),sf]
   rfl
  ·by_cases a1 : (rdL y.fR b).fW < (rdL y.fR a).fW
   ·simp only [a1,if_true]; omega
   ·by_cases a2 : (rdL y.fR a).fW < (rdL y.fR b).fW
    ·simp only [a1,a2,if_true,if_false]; omega
    ·simp only [a1,a2,if_false]; omega)
 have hsl : s.length = y.fR.length:=by rw [hs2.length_eq,kh]
 have hsm : ∀ x,x ∈ s ↔ ∃ k : Nat,x = (k : Int) ∧ k < y.fR.length:=fun x => hs2.mem_iff.trans qM
 have hsn : s.Nodup:=hs2.nodup_iff.2 (rN _)
 have hF:=Su.fit y
 have hinv:=dQ (body:=dZ y ((y.fR.length : Int),pZ y.fR.length) s)
  (fun st => ∃ (k : Nat) (g : List (Int × Int)),st = ((k : Int),g) ∧ k ≤ y.fR.length ∧ OkG y.fB.length y.fR.length g ∧ g.length ≤ k * y.fB.length ∧ Mat (Su y) (g0 g) ∧ Greedy (Su y) (wo y) (fun x => (x : Int) ∈ s.take k) (Dom (g0 g)))
  (fun _ t => OkG y.fB.length y.fR.length t.2 ∧ Mat (Su y) (g0 t.2) ∧ Greedy (Su y) (wo y) (fun x => x < y.fR.length) (Dom (g0 t.2)))
  (fun st => y.fR.length - st.1.toNat) (by
   rintro _ ⟨k,g,rfl,hk,hg,hgl,hM,hG⟩
   rcases Nat.lt_or_ge k y.fR.length with hlt | hge
   ·left
    obtain ⟨o,eo,ho⟩:=(hsm s[k]).1 (List.getElem_mem _)
    have htake : s.take (k + 1) = s.take k ++ [(o : Int)]:=by rw [List.take_add_one,List.getElem?_eq_getElem (by omega),eo]; rfl
    have hnt : ¬ (o : Int) ∈ s.take k:=fun h => by
     have hn2 : (s.take (k + 1)).Nodup:=hsn.sublist (List.take_sublist _ _)
     rw [htake,List.nodup_append] at hn2
     exact hn2.2.2 _ h _ (by simp) rfl
    have hnd : ¬ Dom (g0 g) o:=fun h => hnt (hG.sub o h)
    have hmul : k * y.fB.length ≤ 20 * 24:=Nat.mul_le_mul (by omega) hB
    obtain ⟨r,g',hr,hg',hl',hcase⟩:=sy (y:=y) (by omega) (by omega) ho hg (by omega) hM hnd
    have hbody : dZ y ((y.fR.length : Int),pZ y.fR.length) s ((k : Int),g) = some (.inl (((k + 1 : Nat) : Int),g')):=by
     unfold dZ; dsimp only
     rw [fJ (by rw [kh]; omega),gPo (by rw [kh]; omega),cg (by omega),eo,hr,bc (by omega)]
     rfl
    have hP : ∀ x : Nat,((x : Int) ∈ s.take k ∨ x = o) ↔ (x : Int) ∈ s.take (k + 1):=fun x => by
     rw [htake,List.mem_append,List.mem_singleton]
     exact or_congr Iff.rfl ⟨fun e => by rw [e],fun e => by omega⟩
    refine ⟨_,hbody,⟨k + 1,g',rfl,by omega,hg',by rw [Nat.succ_mul]; omega,?_⟩,by dsimp only; omega,fun t h => h⟩
    rcases hcase with ⟨_,hM',hd'⟩ | ⟨_,e,C,hC,hs⟩
    ·refine ⟨hM',?_⟩
     have hm : Matchable (Su y) (fun x => Dom (g0 g) x ∨ x = o):=⟨g0 g',hM',fun x => (hd' x).trans or_comm⟩
     exact (hG.yes hm).iff hP fun x => or_comm.trans (hd' x).symm
    ·subst e
     refine ⟨hM,?_⟩
     have hnm : ¬ Matchable (Su y) (fun x => Dom (g0 g') x ∨ x = o):=jd hF hM hC hnd hs (fun x hx => hx.elim .inr fun ⟨k1,_,e1⟩ => .inl ⟨k1,e1⟩)
     refine (hG.no hF (fun x hx => ?_) hnm).iff hP fun x => Iff.rfl
     have hpw:=List.pairwise_iff_getElem.1 hs3
     obtain ⟨j,hj,ej⟩:=List.mem_iff_getElem.1 hx
     rw [List.length_take] at hj
     rw [List.getElem_take] at ej
     have:=hpw j k (by omega) (by omega) (by omega)
     rw [ej,eo,eZ,eZ] at this
     unfold wo
     omega
   ·have hke : k = y.fR.length:=by omega
    subst hke
    refine .inr ⟨((y.fR.length : Int),g),?_,hg,hM,hG.iff (fun x => ?_) (fun x => Iff.rfl)⟩
    ·unfold dZ; dsimp only
     rw [en (by rw [kh]; omega)]
    ·rw [List.take_of_length_le (by omega),hsm]
     exact ⟨fun ⟨k,e,h⟩ => by omega,fun h => ⟨x,rfl,h⟩⟩) (0,[]) ⟨0,[],rfl,Nat.zero_le _,OkG.nil,by simp,by rw [rt]; exact ⟨fun _ _ e => (by cases e),fun _ _ _ e => (by cases e)⟩,Greedy.nil.iff (fun x => by simp) (fun x => ⟨False.elim,fun ⟨k,e⟩ => by cases e⟩)⟩
 obtain ⟨t,ht,h1,h2,h3⟩:=hinv
 refine ⟨t.2,?_,h1,h2,h3.prices hF hlow (fun i h => h) h2 (fun x => Iff.rfl)⟩
 unfold g3
 rw [e0,oB]
 dsimp only
 rw [hs1,oB]
 have ht' : aO (dZ y ((y.fR.length : Int),pZ y.fR.length) s) (0,[]) = some t:=ht
 rw [ht']
 rfl
def oc (f : Int → Int) : List Int → Int
 | [] => 0
 | k :: ks => f k + oc f ks
theorem foldw {f : Int → Int} : ∀ (ks : List Int) (a : Int),(∀ k ∈ ks,0 ≤ f k ∧ f k ≤ 2000) → 0 ≤ a → a + 2000 * (ks.length : Int) ≤ 1000000000 → ks.foldl (fun a k => w64 (a + f k)) a = a + oc f ks
 | [],a,_,_,_ => by show a = a + 0; omega
 | k :: ks,a,h,h0,h1 => by
  have hk:=h k (List.mem_cons_self ..)
  rw [List.length_cons] at h1
  show ks.foldl (fun a k => w64 (a + f k)) (w64 (a + f k)) = a + (f k + oc f ks)
  rw [iB (by omega) (by omega),foldw ks (a + f k) (fun j hj => h j (List.mem_cons_of_mem _ hj)) (by omega) (by omega)]
  omega
open Classical in
theorem nm {f : Int → Int} {n : Nat} : ∀ (ks : List Int),ks.Nodup → (∀ k ∈ ks,∃ j : Nat,k = (j : Int) ∧ j < n) → oc f ks = sm n fun j => if (j : Int) ∈ ks then f (j : Int) else 0
 | [],_,_ => by rw [oD fun i _ => by simp]; rfl
 | k :: ks,hn,h => by
  obtain ⟨j,rfl,hj⟩:=h k (List.mem_cons_self ..)
  rw [List.nodup_cons] at hn
  have ih:=nm (f:=f) (n:=n) ks hn.2 fun k hk => h k (List.mem_cons_of_mem _ hk)
  show f (j : Int) + oc f ks = _
  rw [ih]
  have:=lp (f:=fun i : Nat => if (i : Int) ∈ ks then f (i : Int) else 0) (g:=fun i : Nat => if (i : Int) ∈ (j : Int) :: ks then f (i : Int) else 0) hj (fun i _ hi => by
   have e : ((i : Int) ∈ (j : Int) :: ks) ↔ ((i : Int) ∈ ks):=by rw [List.mem_cons]; exact ⟨fun h => h.elim (fun e => absurd (by omega) hi) id,.inr⟩
   by_cases hc : (i : Int) ∈ ks
   ·rw [if_pos hc,if_pos (e.2 hc)]
   ·rw [if_neg hc,if_neg fun hh => hc (e.1 hh)])
  rw [this,if_neg hn.1,if_pos (List.mem_cons_self ..)]
  omega
theorem lj {nB nO : Nat} {g : List (Int × Int)} (hg : OkG nB nO g) : ∀ k ∈ eY g,∃ j o : Nat,k = (j : Int) ∧ j < nB ∧ g0 g j = some o ∧ o < nO ∧ az 0 g k = (o : Int):=fun k hk => by
 have h1:=(gC g k).1 hk
 obtain ⟨p,hp,e⟩:=List.mem_map.1 (mhas_mem.1 h1)
 obtain ⟨j,o,rfl,hj,_⟩:=hg p hp
 dsimp only at e
 subst e
 cases hh : g0 g j with
 | none => rw [rI hh] at h1; cases h1
 | some x =>
  obtain ⟨_,h2,_,h3⟩:=mQ hg hh
  exact ⟨j,x,rfl,hj,hh,h3,h2⟩
open Classical in
theorem keys_sum {nB nO : Nat} {g : List (Int × Int)} (hg : OkG nB nO g) {y : TY} : oc (fun k => (rdL y.fR (az 0 g k)).fW) (eY g) = wor nB (wo y) (g0 g):=by
 rw [nm (n:=nB) (eY g) (ij g) (fun k hk => by obtain ⟨j,o,e,hj,_⟩:=lj hg k hk; exact ⟨j,e,hj⟩)]
 unfold wor
 refine cw fun j _ => ?_
 by_cases hk : (j : Int) ∈ eY g
 ·rw [if_pos hk]
  obtain ⟨j',o,e,_,hh,_,hm⟩:=lj hg _ hk
  have : j = j':=by omega
  subst this
  rw [hh,hm,eZ]
  rfl
 ·rw [if_neg hk]
  cases hh : g0 g j with
  | none => rfl
  | some x => exact absurd ((gC g _).2 (mQ hg hh).1) hk
theorem keys_len {nB nO : Nat} {g : List (Int × Int)} (hg : OkG nB nO g) : (eY g).length ≤ nB:=by
 have h1 : ∀ (ks : List Int),oc (fun _ => 1) ks = (ks.length : Int):=fun ks => by
  induction ks with
  | nil => rfl
  | cons k ks ih => show 1 + oc (fun _ => 1) ks = _; rw [ih,List.length_cons]; omega
 have h2:=nm (f:=fun _ => 1) (n:=nB) (eY g) (ij g) (fun k hk => by obtain ⟨j,o,e,hj,_⟩:=lj hg k hk; exact ⟨j,e,hj⟩)
 have h3 : ∀ n,sm n (fun _ => 1) = (n : Int):=fun n => by
  induction n with
  | zero => rfl
  | succ n ih => show sm n (fun _ => 1) + 1 = _; rw [ih]; omega
 have h4:=h3 nB
 have h5 : sm nB (fun j => if (j : Int) ∈ eY g then (1 : Int) else 0) ≤ sm nB (fun _ => 1):=m4 fun i _ => by split <;> omega
 rw [h1] at h2
 omega
theorem sQ {y : TY} (hy : Fine y) {g : List (Int × Int)} (hg : OkG y.fB.length y.fR.length g) : dj g y = some (wor y.fB.length (wo y) (g0 g)):=by
 unfold dj
 have hB:=hy.bays
 have hl:=keys_len hg
 rw [gPo (List.all_eq_true.2 fun k hk => by
  obtain ⟨j,o,rfl,hj,_,ho,hm⟩:=lj hg k hk
  rw [Bool.and_eq_true]
  exact ⟨ma (by omega),decide_eq_true (by rw [hm]; omega)⟩)]
 rw [foldw (eY g) 0 (fun k hk => by
  obtain ⟨j,o,rfl,hj,_,ho,hm⟩:=lj hg k hk
  rw [hm,eZ]
  exact ⟨hy.low o,hy.high o⟩) (Int.le_refl _) (by omega),keys_sum hg,Int.zero_add]
theorem lE {y : TY} (hy : Fine y) : ∃ V,dl y = some V ∧ Opt (Su y) (wo y) y.fB.length V:=by
 obtain ⟨g,h1,h2,h3,q,u,h4⟩:=serve_ok hy
 refine ⟨_,?_,h4.opt (Su.fit y) h3⟩
 unfold dl
 rw [h1,oB,sQ hy h2]
 rfl
theorem Opt.bound {S : Nat → Nat → Prop} {w : Nat → Int} {nB : Nat} {V : Int} (h : Opt S w nB V) (hl : ∀ i,0 ≤ w i) (hw : ∀ i,w i ≤ 2000) : 0 ≤ V ∧ V ≤ 2000 * (nB : Int):=by
 obtain ⟨m,_,e⟩:=h.some
 have h1 : ∀ n,sm n (fun k => ov w (m k)) ≤ 2000 * (n : Int):=fun n => by
  induction n with
  | zero => exact Int.le_refl _
  | succ n ih =>
   show sm n (fun k => ov w (m k)) + ov w (m n) ≤ _
   have : ov w (m n) ≤ 2000:=by
    cases m n with
    | none => show (0 : Int) ≤ 2000; omega
    | some x => exact hw x
   omega
 have h2 : 0 ≤ wor nB w m:=pT fun k _ => by
  cases m k with
  | none => exact Int.le_refl _
  | some x => exact hl x
 have:=h1 nB
 unfold wor at h2 e
 omega
set_option linter.unusedSimpArgs false
def sv (b : TBay) : Bool:=decide (1 ≤ b.fID ∧ b.fID ≤ 1099511627776) && (decide (0 ≤ b.fHour ∧ b.fHour ≤ 16384) && decide (0 ≤ b.fD ∧ b.fD ≤ 9))
def r6 (o : TO) : Bool:=decide (1 ≤ o.fID ∧ o.fID ≤ 1099511627776) && (decide (0 ≤ o.fH.fLo ∧ o.fH.fLo ≤ 16384) && (decide (0 ≤ o.fH.fHi ∧ o.fH.fHi ≤ 16384) && (!decide (o.fH.fHi < o.fH.fLo) && (decide (0 ≤ o.fD ∧ o.fD ≤ 9) && decide (1 ≤ o.fW ∧ o.fW ≤ 1000)))))
def mH {α : Type} [Inhabited α] (l : List α) (ok : α → Bool) (id : α → Int) (k : Nat) : Option Int:=if ok (l.getD k default) = false then some 1 else if mK l (fun x => id x == id (l.getD k default)) < (k : Int) then some 6 else none
def kE {α : Type} [Inhabited α] (l : List α) (ok : α → Bool) (id : α → Int) : Option Int:=(List.range l.length).findSome? (mH l ok id)
def jw (y : TY) : Int:=if y.fB.length > 24 ∨ y.fR.length > 24 then 2 else match kE y.fB sv (·.fID) with
 | some e => e
 | none => (kE y.fR r6 (·.fID)).getD 0
theorem j3 {α : Type} [Inhabited α] {l : List α} {ok : α → Bool} {id : α → Int} : kE l ok id = none ↔ (∀ x ∈ l,ok x = true) ∧ (l.map id).Nodup:=by
 unfold kE
 rw [List.findSome?_eq_none_iff]
 constructor
 ·intro h
  have h1 : ∀ k,(hk : k < l.length) → ok l[k] = true ∧ ¬ mK l (fun x => id x == id l[k]) < (k : Int):=fun k hk => by
   have:=h k (List.mem_range.2 hk)
   unfold mH at this
   rw [dh hk] at this
   split at this
   ·cases this
   ·split at this
    ·cases this
    ·rename_i a b
     exact ⟨by cases hh : ok l[k]; exact absurd hh a; rfl,b⟩
  refine ⟨fun x hx => ?_,jN.1 fun k hk => (h1 k hk).2⟩
  obtain ⟨k,hk,rfl⟩:=List.mem_iff_getElem.1 hx
  exact (h1 k hk).1
 ·rintro ⟨h1,h2⟩ k hk
  have hk':=List.mem_range.1 hk
  unfold mH
  rw [dh hk',if_neg (by rw [h1 _ (List.getElem_mem hk')]; simp),if_neg (jN.2 h2 k hk')]
theorem n2 {α : Type} [Inhabited α] {l : List α} {ok : α → Bool} {id : α → Int} {e : Int} (h : kE l ok id = some e) : e = 1 ∨ e = 6:=by
 obtain ⟨k,hk,he⟩:=List.exists_of_findSome?_eq_some h
 unfold mH at he
 split at he
 ·cases he; exact .inl rfl
 ·split at he
  ·cases he; exact .inr rfl
  ·cases he
structure Good (y : TY) : Prop where
 bays : y.fB.length ≤ 24
 ords : y.fR.length ≤ 24
 bay : ∀ b ∈ y.fB,sv b = true
 ord : ∀ o ∈ y.fR,r6 o = true
 bayN : (y.fB.map (·.fID)).Nodup
 ordN : (y.fR.map (·.fID)).Nodup
theorem eS {y : TY} : jw y = 0 ↔ Good y:=by
 unfold jw
 constructor
 ·intro h
  split at h
  ·cases h
  ·rename_i hl
   cases hb : kE y.fB sv (·.fID) with
   | some e => rw [hb] at h; dsimp only at h; have:=n2 hb; omega
   | none =>
    rw [hb] at h
    dsimp only at h
    cases ho : kE y.fR r6 (·.fID) with
    | some e => rw [ho] at h; simp only [Option.getD_some] at h; have:=n2 ho; omega
    | none =>
     obtain ⟨b1,b2⟩:=j3.1 hb
     obtain ⟨o1,o2⟩:=j3.1 ho
     exact ⟨by omega,by omega,b1,o1,b2,o2⟩
 ·intro h
  rw [if_neg (by have:=h.bays; have:=h.ords; omega),j3.2 ⟨h.bay,h.bayN⟩,j3.2 ⟨h.ord,h.ordN⟩]
  rfl
theorem sC {n : Nat} (R : Nat → Option Int) : (List.range n).findSome? (fun k => (R k).map fun e => (Sum.inl (e,(k : Int)) : (Int × Int) ⊕ (Int × Int))) = none ∧ (List.range n).findSome? R = none ∨ ∃ e k,(List.range n).findSome? (fun k => (R k).map fun e => (Sum.inl (e,(k : Int)) : (Int × Int) ⊕ (Int × Int))) = some (.inl (e,k)) ∧ (List.range n).findSome? R = some e:=by
 induction n with
 | zero => exact .inl ⟨rfl,rfl⟩
 | succ n ih =>
  rw [List.range_succ,List.findSome?_append,List.findSome?_append]
  rcases ih with ⟨h1,h2⟩ | ⟨e,k,h1,h2⟩
  ·rw [h1,h2]
   cases hR : R n with
   | none => exact .inl (by simp [hR])
   | some e => exact .inr ⟨e,(n : Int),by simp [hR]⟩
  ·rw [h1,h2]
   exact .inr ⟨e,k,rfl,rfl⟩
theorem j9 {body : (Int × Int) → Option ((Int × Int) ⊕ ((Int × Int) ⊕ (Int × Int)))} {n : Nat} (R : Nat → Option Int) {e0 : Int} (h : ∀ k,k < n → body (e0,(k : Int)) = some (match R k with | none => .inl (e0,((k + 1 : Nat) : Int)) | some e => .inr (.inl (e,(k : Int))))) (hs : body (e0,(n : Int)) = some (.inr (.inr (e0,(n : Int))))) :
  ((List.range n).findSome? R = none ∧ aO body (e0,0) = some (.inr (e0,(n : Int)))) ∨ ∃ e k,(List.range n).findSome? R = some e ∧ aO body (e0,0) = some (.inl (e,k)):=by
 have:=gb (body:=body) (fun k => (e0,(k : Int))) n (fun k => (R k).map fun e => (Sum.inl (e,(k : Int)) : (Int × Int) ⊕ (Int × Int))) (t0:=.inr (e0,(n : Int))) (fun k hk => by
  rw [h k hk]
  cases R k <;> rfl) hs
 have h0 : aO body (e0,0) = _:=this
 rw [h0]
 rcases sC (n:=n) R with ⟨h1,h2⟩ | ⟨e,k,h1,h2⟩
 ·exact .inl ⟨h2,by rw [h1]; rfl⟩
 ·exact .inr ⟨e,k,h2,by rw [h1]; rfl⟩
theorem dz (y : TY) : cd y = some (jw y):=by
 unfold cd jw
 by_cases hl : y.fB.length > 24 ∨ y.fR.length > 24
 ·rw [if_pos hl,if_pos (by rw [Bool.or_eq_true,decide_eq_true_eq,decide_eq_true_eq]; omega)]
 ·rw [if_neg hl,if_neg (by rw [Bool.or_eq_true,decide_eq_true_eq,decide_eq_true_eq]; omega)]
  have hb:=j9 (body:=dT y) (n:=y.fB.length) (mH y.fB sv (·.fID)) (e0:=0) (fun k hk => by
   unfold dT; dsimp only
   rw [fJ (by omega),gPo (by omega)]
   simp only [cg hk,ll,hour_eq,oB,bay_eq (show y.fB.length < 1000000000 by omega),bc (show k < 9223372036854775807 by omega)]
   unfold mH sv pI
   rw [dh hk]
   by_cases c1 : 1 ≤ y.fB[k].fID ∧ y.fB[k].fID ≤ 1099511627776 <;> by_cases c2 : 0 ≤ y.fB[k].fHour ∧ y.fB[k].fHour ≤ 16384 <;> by_cases c3 : 0 ≤ y.fB[k].fD ∧ y.fB[k].fD ≤ 9 <;> by_cases c4 : mK y.fB (fun x => x.fID == y.fB[k].fID) < (k : Int) <;> simp [c1,c2,c3,c4]) (by
   unfold dT; dsimp only
   rw [en (by omega)])
  have ho:=j9 (body:=dK y) (n:=y.fR.length) (mH y.fR r6 (·.fID)) (e0:=0) (fun k hk => by
   unfold dK; dsimp only
   rw [fJ (by omega),gPo (by omega)]
   simp only [cg hk,ll,hour_eq,oB,pq (show y.fR.length < 1000000000 by omega),bc (show k < 9223372036854775807 by omega)]
   unfold mH r6 bL
   rw [dh hk]
   by_cases c1 : 1 ≤ y.fR[k].fID ∧ y.fR[k].fID ≤ 1099511627776 <;> by_cases c2 : 0 ≤ y.fR[k].fH.fLo ∧ y.fR[k].fH.fLo ≤ 16384 <;> by_cases c3 : 0 ≤ y.fR[k].fH.fHi ∧ y.fR[k].fH.fHi ≤ 16384 <;> by_cases c5 : y.fR[k].fH.fHi < y.fR[k].fH.fLo <;> by_cases c6 : 0 ≤ y.fR[k].fD ∧ y.fR[k].fD ≤ 9 <;> by_cases c7 : 1 ≤ y.fR[k].fW ∧ y.fR[k].fW ≤ 1000 <;> by_cases c4 : mK y.fR (fun x => x.fID == y.fR[k].fID) < (k : Int) <;> simp [c1,c2,c3,c4,c5,c6,c7]) (by
   unfold dK; dsimp only
   rw [en (by omega)])
  rcases hb with ⟨h1,h2⟩ | ⟨e,k,h1,h2⟩
  ·rw [h2,oB]
   dsimp only
   rw [show kE y.fB sv (·.fID) = none from h1]
   rcases ho with ⟨h3,h4⟩ | ⟨e,k,h3,h4⟩
   ·rw [h4]
    rw [show kE y.fR r6 (·.fID) = none from h3]
    rfl
   ·rw [h4]
    rw [show kE y.fR r6 (·.fID) = some e from h3]
    rfl
  ·rw [h2]
   rw [show kE y.fB sv (·.fID) = some e from h1]
   rfl
theorem oh {α : Type} [Inhabited α] {l : List α} {f : α → Int} {k : Nat} (hk : k < l.length) : mK l (fun x => f x == f l[k]) < (k : Int) ↔ (List.range k).findSome? (fun j => if (f (l.getD j default) == f l[k]) = true then some (6 : Int) else none) ≠ none:=by
 rw [idxI_lt hk]
 constructor
 ·rintro ⟨j,hj,e⟩ h
  have:=List.findSome?_eq_none_iff.1 h j (List.mem_range.2 hj)
  rw [dh (by omega),e] at this
  simp at this
 ·intro h
  by_cases hc : ∃ j,∃ h : j < k,f (l[j]'(by omega)) = f l[k]
  ·exact hc
  ·exfalso
   apply h
   rw [List.findSome?_eq_none_iff]
   intro j hj
   have hj':=List.mem_range.1 hj
   rw [dh (by omega),if_neg (by simp; exact fun e => hc ⟨j,hj',e⟩)]
theorem six {n : Nat} {q : Nat → Bool} {e : Int} (h : (List.range n).findSome? (fun j => if q j = true then some (6 : Int) else none) = some e) : e = 6:=by
 obtain ⟨k,hk,he⟩:=List.exists_of_findSome?_eq_some h
 split at he
 ·cases he; rfl
 ·cases he
theorem dm (y : TY) : ci y = some (jw y):=by
 unfold ci jw
 by_cases hl : y.fB.length > 24 ∨ y.fR.length > 24
 ·rw [if_pos hl,if_pos (by rw [Bool.or_eq_true,decide_eq_true_eq,decide_eq_true_eq]; omega)]
 ·rw [if_neg hl,if_neg (by rw [Bool.or_eq_true,decide_eq_true_eq,decide_eq_true_eq]; omega)]
  have hb:=j9 (body:=dq y) (n:=y.fB.length) (mH y.fB sv (·.fID)) (e0:=0) (fun k hk => by
   unfold dq; dsimp only
   rw [fJ (by omega),gPo (by omega)]
   simp only [cg hk,j5,q8,oB,bc (show k < 9223372036854775807 by omega)]
   have hin:=j9 (body:=dv y (0,(k : Int))) (n:=k) (fun j => if ((y.fB.getD j default).fID == y.fB[k].fID) = true then some 6 else none) (e0:=0) (fun j hj => by
    unfold dv; dsimp only
    rw [fJ (by omega),gPo (by omega)]
    simp only [cg hk,cg (show j < y.fB.length by omega),dh (show j < y.fB.length by omega),bc (show j < 9223372036854775807 by omega)]
    cases (y.fB[j].fID == y.fB[k].fID) <;> rfl) (by
    unfold dv; dsimp only
    rw [en (by omega)])
   have hid:=oh (l:=y.fB) (f:=(·.fID)) hk
   unfold mH sv
   rw [dh hk]
   rcases hin with ⟨h1,h2⟩ | ⟨e,i,h1,h2⟩
   ·rw [h2]
    have c4 : ¬ mK y.fB (fun x => x.fID == y.fB[k].fID) < (k : Int):=fun h => hid.1 h h1
    by_cases c1 : 1 ≤ y.fB[k].fID ∧ y.fB[k].fID ≤ 1099511627776 <;> by_cases c2 : 0 ≤ y.fB[k].fHour ∧ y.fB[k].fHour ≤ 16384 <;> by_cases c3 : 0 ≤ y.fB[k].fD ∧ y.fB[k].fD ≤ 9 <;> simp [c1,c2,c3,c4]
   ·rw [h2]
    have e6:=six h1
    subst e6
    have c4 : mK y.fB (fun x => x.fID == y.fB[k].fID) < (k : Int):=hid.2 (by rw [h1]; simp)
    by_cases c1 : 1 ≤ y.fB[k].fID ∧ y.fB[k].fID ≤ 1099511627776 <;> by_cases c2 : 0 ≤ y.fB[k].fHour ∧ y.fB[k].fHour ≤ 16384 <;> by_cases c3 : 0 ≤ y.fB[k].fD ∧ y.fB[k].fD ≤ 9 <;> simp [c1,c2,c3,c4]) (by
   unfold dq; dsimp only
   rw [en (by omega)])
  have ho:=j9 (body:=dx y) (n:=y.fR.length) (mH y.fR r6 (·.fID)) (e0:=0) (fun k hk => by
   unfold dx; dsimp only
   rw [fJ (by omega),gPo (by omega)]
   simp only [cg hk,j5,q8,oB,bc (show k < 9223372036854775807 by omega)]
   have hin:=j9 (body:=du y (0,(k : Int))) (n:=k) (fun j => if ((y.fR.getD j default).fID == y.fR[k].fID) = true then some 6 else none) (e0:=0) (fun j hj => by
    unfold du; dsimp only
    rw [fJ (by omega),gPo (by omega)]
    simp only [cg hk,cg (show j < y.fR.length by omega),dh (show j < y.fR.length by omega),bc (show j < 9223372036854775807 by omega)]
    cases (y.fR[j].fID == y.fR[k].fID) <;> rfl) (by
    unfold du; dsimp only
    rw [en (by omega)])
   have hid:=oh (l:=y.fR) (f:=(·.fID)) hk
   unfold mH r6
   rw [dh hk]
   rcases hin with ⟨h1,h2⟩ | ⟨e,i,h1,h2⟩
   ·rw [h2]
    have c4 : ¬ mK y.fR (fun x => x.fID == y.fR[k].fID) < (k : Int):=fun h => hid.1 h h1
    by_cases c1 : 1 ≤ y.fR[k].fID ∧ y.fR[k].fID ≤ 1099511627776 <;> by_cases c2 : 0 ≤ y.fR[k].fH.fLo ∧ y.fR[k].fH.fLo ≤ 16384 <;> by_cases c3 : 0 ≤ y.fR[k].fH.fHi ∧ y.fR[k].fH.fHi ≤ 16384 <;> by_cases c5 : y.fR[k].fH.fHi < y.fR[k].fH.fLo <;> by_cases c6 : 0 ≤ y.fR[k].fD ∧ y.fR[k].fD ≤ 9 <;> by_cases c7 : 1 ≤ y.fR[k].fW ∧ y.fR[k].fW ≤ 1000 <;> simp [c1,c2,c3,c4,c5,c6,c7]
   ·rw [h2]
    have e6:=six h1
    subst e6
    have c4 : mK y.fR (fun x => x.fID == y.fR[k].fID) < (k : Int):=hid.2 (by rw [h1]; simp)
    by_cases c1 : 1 ≤ y.fR[k].fID ∧ y.fR[k].fID ≤ 1099511627776 <;> by_cases c2 : 0 ≤ y.fR[k].fH.fLo ∧ y.fR[k].fH.fLo ≤ 16384 <;> by_cases c3 : 0 ≤ y.fR[k].fH.fHi ∧ y.fR[k].fH.fHi ≤ 16384 <;> by_cases c5 : y.fR[k].fH.fHi < y.fR[k].fH.fLo <;> by_cases c6 : 0 ≤ y.fR[k].fD ∧ y.fR[k].fD ≤ 9 <;> by_cases c7 : 1 ≤ y.fR[k].fW ∧ y.fR[k].fW ≤ 1000 <;> simp [c1,c2,c3,c4,c5,c6,c7]) (by
   unfold dx; dsimp only
   rw [en (by omega)])
  rcases hb with ⟨h1,h2⟩ | ⟨e,k,h1,h2⟩
  ·rw [h2,oB]
   dsimp only
   rw [show kE y.fB sv (·.fID) = none from h1]
   rcases ho with ⟨h3,h4⟩ | ⟨e,k,h3,h4⟩
   ·rw [h4]
    rw [show kE y.fR r6 (·.fID) = none from h3]
    rfl
   ·rw [h4]
    rw [show kE y.fR r6 (·.fID) = some e from h3]
    rfl
  ·rw [h2]
   rw [show kE y.fB sv (·.fID) = some e from h1]
   rfl
theorem Good.fine {y : TY} (h : Good y) (h9 : y.fR.length < 20) : Fine y:=by
 have hw : ∀ i,i < y.fR.length → 1 ≤ wo y i ∧ wo y i ≤ 1000:=fun i hi => by
  have:=h.ord y.fR[i] (List.getElem_mem hi)
  unfold r6 at this
  simp only [Bool.and_eq_true,decide_eq_true_eq] at this
  unfold wo oat
  rw [dh hi]
  exact this.2.2.2.2.2
 refine ⟨h.bays,h9,fun i => ?_,fun i => ?_⟩
 ·rcases Nat.lt_or_ge i y.fR.length with hi | hi
  ·have:=hw i hi; omega
  ·rw [wo_out hi]; omega
 ·rcases Nat.lt_or_ge i y.fR.length with hi | hi
  ·have:=hw i hi; omega
  ·rw [wo_out hi]; omega
theorem Good.worth {y : TY} (h : Good y) {i : Nat} (hi : i < y.fR.length) : 1 ≤ wo y i ∧ wo y i ≤ 1000:=by
 have:=h.ord y.fR[i] (List.getElem_mem hi)
 unfold r6 at this
 simp only [Bool.and_eq_true,decide_eq_true_eq] at this
 unfold wo oat
 rw [dh hi]
 exact this.2.2.2.2.2
set_option linter.unusedSimpArgs false
theorem getD_skip {α : Type} [Inhabited α] (l : List α) {k : Nat} (hk : k < l.length) (j : Nat) : (l.take k ++ l.drop (k + 1)).getD j default = l.getD (shf k j) default:=by
 unfold shf
 rw [List.getD_eq_getElem?_getD,List.getD_eq_getElem?_getD]
 by_cases h : j < k
 ·rw [if_pos h,List.getElem?_append_left (by rw [List.length_take]; omega),List.getElem?_take_of_lt h]
 ·rw [if_neg h,List.getElem?_append_right (by rw [List.length_take]; omega),List.getElem?_drop,List.length_take]
  congr 2
  omega
def wout (y : TY) (k : Nat) : TY:=⟨y.fB.take k ++ y.fB.drop (k + 1),y.fR⟩
theorem mO {y : TY} {k : Nat} (hk : k < y.fB.length) : (wout y k).fB.length = y.fB.length - 1:=by
 unfold wout
 rw [List.length_append,List.length_take,List.length_drop]; omega
theorem Su_wout {y : TY} {k : Nat} (hk : k < y.fB.length) (o j : Nat) : Su (wout y k) o j ↔ Su y o (shf k j):=by
 unfold Su
 rw [mO hk]
 have e : bat (wout y k) j = bat y (shf k j):=getD_skip y.fB hk j
 rw [e]
 have e2 : (j < y.fB.length - 1) ↔ (shf k j < y.fB.length):=by
  unfold shf
  by_cases h : j < k
  ·rw [if_pos h]; omega
  ·rw [if_neg h]; omega
 rw [e2]
 exact Iff.rfl
theorem sc {y : TY} {k : Nat} (hk : k < y.fB.length) (hB : y.fB.length ≤ 1000) : fC y (k : Int) = some (wout y k):=by
 unfold fC dG dp
 rw [gPo (by omega),oB,List.nil_append,bc (by omega),gPo (by omega),if_neg (by simp; omega),gPo (by omega),gPo (by omega),gPo (by omega),oB,Int.toNat_natCast,Int.toNat_natCast]
 rfl
theorem opt_skip {S S' : Nat → Nat → Prop} {w : Nat → Int} {n k : Nat} (hk : k ≤ n) (hS : ∀ o j,S' o j ↔ S o (shf k j)) {V : Int} (h : Opt S' w n V) : Opt (fun i j => S i j ∧ j ≠ k) w (n + 1) V:=by
 refine ⟨?_,fun m hm => ?_⟩
 ·obtain ⟨m,hm,e⟩:=h.some
  refine ⟨fun j => if j = k then none else m (uns k j),⟨fun j o ej => ?_,fun j j' o ej ej' => ?_⟩,?_⟩
  ·by_cases hj : j = k
   ·simp only [hj,if_true] at ej; cases ej
   ·simp only [if_neg hj] at ej
    have:=(hS o (uns k j)).1 (hm.suit _ o ej)
    rw [qi hj] at this
    exact ⟨this,hj⟩
  ·by_cases hj : j = k
   ·simp only [hj,if_true] at ej; cases ej
   ·by_cases hj' : j' = k
    ·simp only [hj',if_true] at ej'; cases ej'
    ·simp only [if_neg hj] at ej
     simp only [if_neg hj'] at ej'
     have:=hm.inj _ _ o ej ej'
     rw [← qi hj,this,qi hj']
  ·rw [← e]
   unfold wor
   rw [qA _ k n hk]
   simp only [if_true]
   rw [cw (g:=fun j => ov w (m j)) fun j _ => by simp only [if_neg (shf_ne k j),qr]]
   show _ + (0 : Int) = _
   omega
 ·have hn : m k = none:=by
   cases e : m k with
   | none => rfl
   | some x => exact absurd rfl (hm.suit k x e).2
  have : sm n (fun j => ov w (m (shf k j))) ≤ V:=h.most (fun j => m (shf k j)) ⟨fun j o e => (hS o j).2 (hm.suit _ o e).1,fun j j' o e e' => by
   have:=hm.inj _ _ o e e'
   rw [← qr k j,this,qr]⟩
  unfold wor
  rw [qA _ k n hk,hn]
  show _ + (0 : Int) ≤ _
  omega
theorem Opt.wout {y : TY} {k : Nat} (hk : k < y.fB.length) {V : Int} (h : Opt (Su (Go.Proofs.YthndghnkebboaaaGreat.wout y k)) (wo (Go.Proofs.YthndghnkebboaaaGreat.wout y k)) (Go.Proofs.YthndghnkebboaaaGreat.wout y k).fB.length V) : Opt (fun i j => Su y i j ∧ j ≠ k) (wo y) y.fB.length V:=by
 rw [mO hk] at h
 obtain ⟨n,hn⟩ : ∃ n,y.fB.length = n + 1:=⟨y.fB.length - 1,by omega⟩
 have h' : Opt (Su (Go.Proofs.YthndghnkebboaaaGreat.wout y k)) (wo y) n V:=by
  have : y.fB.length - 1 = n:=by omega
  rw [this] at h
  exact h
 have:=opt_skip (by omega) (Su_wout hk) h'
 rw [hn]
 exact this
theorem Fine.wout {y : TY} (h : Fine y) {k : Nat} (hk : k < y.fB.length) : Fine (Go.Proofs.YthndghnkebboaaaGreat.wout y k):=⟨by rw [mO hk]; have:=h.bays; omega,h.ords,h.low,h.high⟩
structure PlanOf (y : TY) (h : Nat → Option Nat) (q : Nat → Int) (p : TPlan) : Prop where
 worth : p.fW = wor y.fB.length (wo y) h
 len : p.fG.length = y.fR.length
 got : ∀ o k,h k = some o → p.fG.getD o 0 = (bat y k).fID
 not : ∀ o,¬ Dom h o → p.fG.getD o 0 = 0
 plen : p.fPrices.length = y.fB.length
 price : ∀ k,k < y.fB.length → p.fPrices.getD k 0 = q k
theorem Worth_ok {y : TY} (h : Good y) (h9 : y.fR.length < 20) : ∃ V,nZ y = some (V,0) ∧ Opt (Su y) (wo y) y.fB.length V:=by
 obtain ⟨V,h1,h2⟩:=lE (h.fine h9)
 refine ⟨V,?_,h2⟩
 unfold nZ
 rw [dz,eS.2 h,oB,if_neg (by simp),h1]
 rfl
set_option linter.unusedSimpArgs false
theorem rsuits_eq {y : TY} {o k : Nat} (ho : o < y.fR.length) (hk : k < y.fB.length) : eF y (o : Int) (k : Int) = some (ls (oat y o) (bat y k)):=by
 unfold eF
 rw [gPo (by omega),gPo (by omega),gPo (by omega)]
 simp only [eZ,oP,j5,oB,gPo (show (0 : Int) ≤ (k : Int) ∧ (k : Int) < ((y.fB.length : Nat) : Int) by omega),gPo (show (0 : Int) ≤ (o : Int) ∧ (o : Int) < ((y.fR.length : Nat) : Int) by omega)]
 unfold ls
 cases decide ((oat y o).fH.fLo ≤ (bat y k).fHour ∧ (bat y k).fHour ≤ (oat y o).fH.fHi) <;> rfl
def rh (held : List Int) (k : Nat) : Option Nat:=if k < held.length ∧ 0 ≤ rdL held (k : Int) then some (rdL held (k : Int)).toNat else none
def rs (seen : List Bool) (k : Nat) : Prop:=rdL seen (k : Int) = true
def OkH (nB nO : Nat) (held : List Int) : Prop:=held.length = nB ∧ ∀ k,k < nB → rdL held (k : Int) < 0 ∨ ∃ o : Nat,rdL held (k : Int) = (o : Int) ∧ o < nO
theorem ow {α : Type} [Inhabited α] (l : List α) {k : Nat} (hk : k < l.length) (v : α) (j : Nat) : rdL (l.set k v) (j : Int) = if j = k then v else rdL l (j : Int):=by
 unfold rdL
 rw [Int.toNat_natCast,List.getD_eq_getElem?_getD,List.getD_eq_getElem?_getD]
 by_cases h : j = k
 ·subst h; rw [if_pos rfl,List.getElem?_set_self hk]; rfl
 ·rw [if_neg h,List.getElem?_set_ne (fun e => h e.symm)]
theorem rh_set (held : List Int) {k : Nat} (hk : k < held.length) (o : Nat) : rh (held.set k (o : Int)) = fun j => if j = k then some o else rh held j:=by
 funext j
 unfold rh
 rw [List.length_set,ow held hk]
 by_cases h : j = k
 ·subst h
  simp [hk]
 ·simp only [if_neg h]
theorem pJ (seen : List Bool) {k : Nat} (hk : k < seen.length) : rs (seen.set k true) = fun j => rs seen j ∨ j = k:=by
 funext j
 unfold rs
 rw [ow seen hk]
 by_cases h : j = k
 ·subst h; simp
 ·simp [h]
theorem OkH.set {nB nO : Nat} {held : List Int} (h : OkH nB nO held) {k o : Nat} (hk : k < nB) (ho : o < nO) : OkH nB nO (held.set k (o : Int)):=by
 refine ⟨by rw [List.length_set]; exact h.1,fun j hj => ?_⟩
 rw [ow held (by rw [h.1]; exact hk)]
 by_cases e : j = k
 ·rw [if_pos e]; exact .inr ⟨o,rfl,ho⟩
 ·rw [if_neg e]; exact h.2 j hj
theorem rh_some {nB nO : Nat} {held : List Int} (h : OkH nB nO held) {k x : Nat} (e : rh held k = some x) : rdL held (k : Int) = (x : Int) ∧ k < nB ∧ x < nO:=by
 unfold rh at e
 split at e
 ·rename_i hc
  rw [h.1] at hc
  rcases h.2 k hc.1 with hh | ⟨o,ho,hlt⟩
  ·omega
  ·rw [ho,Int.toNat_natCast] at e
   cases e
   exact ⟨ho,hc.1,hlt⟩
 ·cases e
theorem rh_none {nB nO : Nat} {held : List Int} (h : OkH nB nO held) {k : Nat} (hk : k < nB) (e : rh held k = none) : rdL held (k : Int) < 0:=by
 unfold rh at e
 split at e
 ·cases e
 ·rename_i hc
  rw [h.1] at hc
  omega
theorem rlook (y : TY) (hB : y.fB.length ≤ 1000) (hO : y.fR.length ≤ 1000) : ∀ (fuel o : Nat) (seen : List Bool) (held : List Int),o < y.fR.length → OkH y.fB.length y.fR.length held → seen.length = y.fB.length → unt y.fB.length (rs seen) < (fuel : Int) → MatX (Su y) (rs seen) (rh held) → ¬ p7 (rs seen) (rh held) o →
  ∃ r held' seen',cY fuel y (o : Int) held seen = some (r,held',seen') ∧ OkH y.fB.length y.fR.length held' ∧ seen'.length = y.fB.length ∧ (∀ k,rs seen k → rs seen' k) ∧ ((r = true ∧ AugY (Su y) (rs seen) o (rh held) (rh held')) ∨ (r = false ∧ held' = held ∧ AugN (Su y) (rs seen) (rs seen') o (rh held))):=by
 intro fuel
 induction fuel with
 | zero =>
  intro o seen held _ _ _ hu
  have:=f9 y.fB.length (rs seen)
  omega
 | succ fuel ih =>
  intro o seen held ho hh hsl hu hM hn
  have hinv:=dQ (body:=dO y (o : Int) held seen (cY fuel))
   (fun s => ∃ (i : Nat) (t1 : List Bool),s = (false,(i : Int),held,t1) ∧ i ≤ y.fB.length ∧ t1.length = y.fB.length ∧ (∀ k,rs seen k → rs t1 k) ∧ (∀ k,rs t1 k → ¬ rs seen k → ∃ x,rh held k = some x ∧ ∀ k',Su y x k' → rs t1 k') ∧ (∀ k,k < i → Su y o k → rs t1 k))
   (fun _ out => match out with
    | .inl u => u.1 = true ∧ OkH y.fB.length y.fR.length u.2.2.1 ∧ u.2.2.2.length = y.fB.length ∧ (∀ k,rs seen k → rs u.2.2.2 k) ∧ AugY (Su y) (rs seen) o (rh held) (rh u.2.2.1)
    | .inr u => u.2.2.1 = held ∧ u.2.2.2.length = y.fB.length ∧ AugN (Su y) (rs seen) (rs u.2.2.2) o (rh held))
   (fun s => y.fB.length - s.2.1.toNat) (by
    rintro _ ⟨i,t1,rfl,hi,htl,hsub,hsh,hown⟩
    have hu1 : unt y.fB.length (rs t1) ≤ unt y.fB.length (rs seen):=qO hsub
    rcases Nat.lt_or_ge i y.fB.length with hlt' | hge
    ·have hhl:=hh.1
     have cs : (0 : Int) ≤ (i : Int) ∧ (i : Int) < ((seen.length : Nat) : Int):=by omega
     have ch : (0 : Int) ≤ (i : Int) ∧ (i : Int) < ((held.length : Nat) : Int):=by omega
     have hb : dO y (o : Int) held seen (cY fuel) (false,(i : Int),held,t1) = (if (!ls (oat y o) (bat y i) || rdL t1 (i : Int)) = true then some (.inl (false,((i + 1 : Nat) : Int),held,t1)) else (if rdL held (i : Int) < 0 then some (.inr (.inl (true,(i : Int),held.set i (o : Int),t1.set i true))) else ((cY fuel y (rdL held (i : Int)) held (t1.set i true)).bind fun y17 => (if y17.1 = true then some (.inr (.inl (true,(i : Int),y17.2.1.set i (o : Int),y17.2.2))) else some (.inl (false,((i + 1 : Nat) : Int),y17.2.1,y17.2.2)))))):=by
      unfold dO; dsimp only
      rw [fJ (show (i : Int) < ((y.fB.length : Nat) : Int) by omega),rsuits_eq ho hlt']
      simp only [oB,gPo cs,gPo ch,bc (show i < 9223372036854775807 by omega),Int.toNat_natCast]
      by_cases c : rdL held (i : Int) < 0 <;> cases rdL t1 (i : Int) <;> cases ls (oat y o) (bat y i) <;> simp [c]
     by_cases hsk : (!ls (oat y o) (bat y i) || rdL t1 (i : Int)) = true
     ·refine .inl ⟨_,by rw [hb,if_pos hsk],⟨i + 1,t1,rfl,hlt',htl,hsub,hsh,fun k hk hs => ?_⟩,by dsimp only; omega,fun t h => h⟩
      rcases Nat.lt_or_ge k i with h | h
      ·exact hown k h hs
      ·have : k = i:=by omega
       subst this
       rcases Bool.or_eq_true_iff.1 hsk with h | h
       ·rw [hs.2.2] at h; cases h
       ·exact h
     ·rw [if_neg hsk] at hb
      have hsk2:=Bool.eq_false_iff.2 hsk
      rw [Bool.or_eq_false_iff] at hsk2
      have hnt : ¬ rs t1 i:=by unfold rs; rw [hsk2.2]; exact Bool.false_ne_true
      have hS : Su y o i:=⟨ho,hlt',by have:=hsk2.1; simpa using this⟩
      have hit : i < t1.length:=by omega
      have hua:=oI hlt' hnt
      rw [← pJ t1 hit] at hua
      have hM1 : MatX (Su y) (rs t1) (rh held):=hM.more hsub
      have hn1 : ¬ p7 (rs t1) (rh held) o:=fun ⟨j,hj,e⟩ => hn ⟨j,fun h => hj (hsub j h),e⟩
      have hsub' : ∀ k,rs t1 k → rs (t1.set i true) k:=fun k hk => by rw [pJ t1 hit]; exact .inl hk
      have hi1 : rs (t1.set i true) i:=by rw [pJ t1 hit]; exact .inr rfl
      cases hhi : rh held i with
      | none =>
       rw [if_pos (rh_none hh hlt' hhi)] at hb
       refine .inr ⟨_,hb,rfl,hh.set hlt' ho,by dsimp only; rw [List.length_set]; exact htl,fun k hk => hsub' k (hsub k hk),?_⟩
       dsimp only
       rw [rh_set held (by omega)]
       exact lD hM hsub hn (o6 hM1 hnt hS hhi hn1)
      | some x =>
       obtain ⟨hx1,_,hx3⟩:=rh_some hh hhi
       rw [hx1,if_neg (by omega)] at hb
       have hMi : MatX (Su y) (rs (t1.set i true)) (rh held):=hM1.more hsub'
       have hni : ¬ p7 (rs (t1.set i true)) (rh held) x:=fun ⟨j,hj,e⟩ => by
        have : j = i:=hM1.inj j i x (fun h => hj (hsub' j h)) hnt e hhi
        subst this; exact hj hi1
       obtain ⟨r,held',t',hr,hh',htl',hs',hcase⟩:=ih x (t1.set i true) held hx3 hh (by rw [List.length_set]; exact htl) (by omega) hMi hni
       rw [hr,oB] at hb
       dsimp only at hb
       rcases hcase with ⟨rfl,hA⟩ | ⟨rfl,rfl,hA⟩
       ·rw [if_pos rfl] at hb
        refine .inr ⟨_,hb,rfl,hh'.set hlt' ho,htl',fun k hk => hs' k (hsub' k (hsub k hk)),?_⟩
        dsimp only
        rw [rh_set held' (by rw [hh'.1]; exact hlt')]
        rw [pJ t1 hit] at hA
        exact lD hM hsub hn (nb hM1 hnt hS hhi hn1 hA)
       ·rw [if_neg (by simp)] at hb
        refine .inl ⟨_,hb,⟨i + 1,t',rfl,hlt',htl',fun k hk => hs' k (hsub' k (hsub k hk)),fun k hk hnk => ?_,fun k hk hs => ?_⟩,by dsimp only; omega,fun t h => h⟩
        ·by_cases hk1 : rs (t1.set i true) k
         ·by_cases hki : k = i
          ·subst hki
           exact ⟨x,hhi,fun k' hk' => hA.own k' hk'⟩
          ·rw [pJ t1 hit] at hk1
           have hk2 : rs t1 k:=hk1.elim id fun e => absurd e hki
           obtain ⟨z,e,hz⟩:=hsh k hk2 hnk
           exact ⟨z,e,fun k' hk' => hs' k' (hsub' k' (hz k' hk'))⟩
         ·exact hA.shut k hk hk1
        ·rcases Nat.lt_or_ge k i with h | h
         ·exact hs' k (hsub' k (hown k h hs))
         ·have : k = i:=by omega
          subst this; exact hs' k hi1
    ·have : i = y.fB.length:=by omega
     subst this
     refine .inr ⟨.inr (false,((y.fB.length : Nat) : Int),held,t1),?_,rfl,htl,hsub,hsh,fun k hs => hown k hs.2.1 hs⟩
     unfold dO; dsimp only
     rw [en (by omega)]) (false,0,held,seen) ⟨0,seen,rfl,Nat.zero_le _,hsl,fun _ h => h,fun k h1 h2 => absurd h1 h2,fun k hk => absurd hk (Nat.not_lt_zero _)⟩
  obtain ⟨out,hr,hpost⟩:=hinv
  unfold cY go
  rw [hr,oB]
  rcases out with u | u
  ·obtain ⟨h1,h2,h3,h4,h5⟩:=hpost
   exact ⟨u.1,u.2.2.1,u.2.2.2,rfl,h2,h3,h4,.inl ⟨h1,h5⟩⟩
  ·obtain ⟨h1,h2,h3⟩:=hpost
   exact ⟨false,u.2.2.1,u.2.2.2,rfl,by rw [h1]; exact hh,h2,h3.sub,.inr ⟨rfl,h1,h3⟩⟩
theorem none_eq {n : Nat} (hn : n ≤ 1000) : iT (n : Int) = some (List.replicate n (-1)):=by
 unfold iT
 rw [gPo (by omega),Int.toNat_natCast]
 have:=ja (body:=eW (n : Int)) (fun k => ((k : Int),List.replicate k (-1 : Int) ++ List.replicate (n - k) 0)) n (t:=((n : Int),List.replicate n (-1 : Int))) (fun k hk => by
  unfold eW; dsimp only
  rw [fJ (by omega),gPo (by rw [Int.toNat_natCast]; omega),bc (by omega),Int.toNat_natCast]
  refine congrArg some (congrArg Sum.inl (Prod.ext rfl ?_))
  show (List.replicate k (-1 : Int) ++ List.replicate (n - k) 0).set k (-1) = _
  rw [show n - k = (n - (k + 1)) + 1 by omega,List.replicate_succ,lA _ _ _ _ _ (by simp),List.replicate_succ']
  simp) (by
  unfold eW; dsimp only
  rw [en (by omega),Nat.sub_self]
  simp)
 have e0 : aO (eW (n : Int)) (0,List.replicate n 0) = some ((n : Int),List.replicate n (-1 : Int)):=by
  simpa using this
 rw [e0]
 rfl
theorem tb {α : Type} [Inhabited α] {n k : Nat} (hk : k < n) (v : α) : rdL (List.replicate n v) (k : Int) = v:=by
 unfold rdL
 rw [Int.toNat_natCast,List.getD_eq_getElem?_getD,List.getElem?_replicate,if_pos hk]
 rfl
structure Nums (n : Nat) (l : List Int) : Prop where
 nat : ∀ x ∈ l,∃ k : Nat,x = (k : Int) ∧ k < n
 once : l.Nodup
theorem qW {y : TY} (hB : y.fB.length ≤ 1000) (hO : y.fR.length ≤ 1000) {l : List Int} (hl : Nums y.fR.length l) (hll : l.length ≤ 1000) : ∃ b,d8 y l = some b ∧ (b = true ↔ Matchable (Su y) fun x => (x : Int) ∈ l):=by
 have hF:=Su.fit y
 have hinv:=dQ (body:=fw y l)
  (fun s => ∃ (k : Nat) (held : List Int),s = (false,(k : Int),held) ∧ k ≤ l.length ∧ OkH y.fB.length y.fR.length held ∧ Mat (Su y) (rh held) ∧ ∀ x,Dom (rh held) x ↔ (x : Int) ∈ l.take k)
  (fun _ out => match out with
   | .inl u => u.1 = false ∧ ¬ Matchable (Su y) fun x => (x : Int) ∈ l
   | .inr _ => Matchable (Su y) fun x => (x : Int) ∈ l)
  (fun s => l.length - s.2.1.toNat) (by
   rintro _ ⟨k,held,rfl,hk,hh,hM,hd⟩
   rcases Nat.lt_or_ge k l.length with hlt | hge
   ·obtain ⟨o,eo,ho⟩:=hl.nat l[k] (List.getElem_mem _)
    have htake : l.take (k + 1) = l.take k ++ [(o : Int)]:=by rw [List.take_add_one,List.getElem?_eq_getElem hlt,eo]; rfl
    have hnt : ¬ (o : Int) ∈ l.take k:=fun h => by
     have hn2 : (l.take (k + 1)).Nodup:=hl.once.sublist (List.take_sublist _ _)
     rw [htake,List.nodup_append] at hn2
     exact hn2.2.2 _ h _ (by simp) rfl
    have hnd : ¬ Dom (rh held) o:=fun h => hnt ((hd o).1 h)
    have hrs : rs (List.replicate (Int.toNat ((y.fB.length : Nat) : Int)) false) = fun _ => False:=by
     funext j
     unfold rs
     rw [Int.toNat_natCast]
     refine propext ⟨fun h => ?_,False.elim⟩
     unfold rdL at h
     rw [Int.toNat_natCast,List.getD_eq_getElem?_getD,List.getElem?_replicate] at h
     split at h <;> cases h
    have hu:=sO (nB:=y.fB.length) (T:=rs (List.replicate (Int.toNat ((y.fB.length : Nat) : Int)) false))
    obtain ⟨r,held',seen',hr,hh',_,_,hcase⟩:=rlook y hB hO (y.fB.length + 2) o (List.replicate (Int.toNat ((y.fB.length : Nat) : Int)) false) held ho hh (by rw [List.length_replicate,Int.toNat_natCast]) (by omega) (by rw [hrs]; exact hM.x) (by rw [hrs]; exact fun h => hnd (jO.1 h))
    have hbody : fw y l (false,(k : Int),held) = (if (!r) = true then some (.inr (.inl (false,(k : Int),held'))) else some (.inl (false,((k + 1 : Nat) : Int),held'))):=by
     unfold fw; dsimp only
     rw [fJ (by omega),gPo (by omega),gPo (by omega),cg hlt,eo,hr,oB,bc (by omega)]
    rw [hrs] at hcase
    rcases hcase with ⟨rfl,hA⟩ | ⟨rfl,rfl,hA⟩
    ·refine .inl ⟨_,hbody,⟨k + 1,held',rfl,hlt,hh',hA.mat0,fun x => ?_⟩,by dsimp only; omega,fun t h => h⟩
     rw [hA.dom0 x,hd x,htake,List.mem_append,List.mem_singleton]
     exact or_comm.trans (or_congr Iff.rfl ⟨fun e => by rw [e],fun e => by omega⟩)
    ·refine .inr ⟨_,hbody,rfl,jd hF hM hA.shut0 hnd hA.own (fun x hx => ?_)⟩
     rcases hx with rfl | ⟨k1,_,e1⟩
     ·rw [← eo]; exact List.getElem_mem _
     ·exact List.mem_of_mem_take ((hd x).1 ⟨k1,e1⟩)
   ·have hke : k = l.length:=by omega
    subst hke
    refine .inr ⟨.inr (false,((l.length : Nat) : Int),held),?_,rh held,hM,fun x => ?_⟩
    ·unfold fw; dsimp only
     rw [en (by omega)]
    ·rw [hd x,List.take_length]) (false,0,List.replicate y.fB.length (-1)) ⟨0,_,rfl,Nat.zero_le _,⟨List.length_replicate,fun k hk => .inl (by rw [tb hk]; omega)⟩,by
    have : rh (List.replicate y.fB.length (-1)) = fun _ => none:=by
     funext k
     unfold rh
     rw [List.length_replicate]
     refine if_neg fun h => ?_
     rw [tb h.1] at h
     omega
    rw [this]
    exact ⟨⟨fun _ _ e => (by cases e),fun _ _ _ e => (by cases e)⟩,fun x => ⟨fun ⟨k,e⟩ => (by cases e),fun h => by simp at h⟩⟩⟩
 obtain ⟨out,hr,hpost⟩:=hinv
 unfold d8
 rw [none_eq hB,oB,hr,oB]
 rcases out with u | u
 ·exact ⟨u.1,rfl,by rw [hpost.1]; exact ⟨fun h => (by cases h),fun h => absurd h hpost.2⟩⟩
 ·exact ⟨true,rfl,fun _ => hpost,fun _ => rfl⟩
set_option linter.unusedSimpArgs false
open Classical
theorem Matchable.mono {S S' : Nat → Nat → Prop} {A : Nat → Prop} (h : Matchable S A) (hs : ∀ x k,A x → S x k → S' x k) : Matchable S' A:=by
 obtain ⟨m,hM,hd⟩:=h
 exact ⟨m,⟨fun k o e => hs o k ((hd o).1 ⟨k,e⟩) (hM.suit k o e),hM.inj⟩,hd⟩
theorem Matchable.congr {S : Nat → Nat → Prop} {A B : Nat → Prop} (h : Matchable S A) (hab : ∀ x,A x ↔ B x) : Matchable S B:=by
 obtain ⟨m,hM,hd⟩:=h
 exact ⟨m,hM,fun x => (hd x).trans (hab x)⟩
def w1 (y : TY) (first wi : Int) (x : Nat) : Int:=if (x : Int) = first ∨ (x : Int) = wi then 1001 else wo y x
def S1 (y : TY) (wi : Int) (x k : Nat) : Prop:=Su y x k ∧ (x : Int) ≠ wi
theorem S1.fit (y : TY) (wi : Int) : Fit (S1 y wi) y.fB.length y.fR.length:=⟨fun o k h => h.1.2.1,fun o k h => h.1.1⟩
def Seen (y : TY) (first wi w : Int) (i : Nat) (x : Nat) : Prop:=(x < y.fR.length ∧ (w < wo y x ∨ (wo y x = w ∧ x < i))) ∨ (x : Int) = first ∨ (x : Int) = wi
structure BestI (y : TY) (first wi w : Int) (i : Nat) (l : List Int) : Prop where
 nums : Nums y.fR.length l
 greedy : Greedy (S1 y wi) (w1 y first wi) (Seen y first wi w i) (fun x => (x : Int) ∈ l)
 no : ¬ wi ∈ l
theorem Nums.len {n : Nat} {l : List Int} (h : Nums n l) : l.length ≤ n:=by
 have h1 : ∀ (ks : List Int),oc (fun _ => 1) ks = (ks.length : Int):=fun ks => by
  induction ks with
  | nil => rfl
  | cons k ks ih => show 1 + oc (fun _ => 1) ks = _; rw [ih,List.length_cons]; omega
 have h2:=nm (f:=fun _ => 1) (n:=n) l h.once h.nat
 have h3 : ∀ n,sm n (fun _ => 1) = (n : Int):=fun n => by
  induction n with
  | zero => rfl
  | succ n ih => show sm n (fun _ => 1) + 1 = _; rw [ih]; omega
 have h4:=h3 n
 have h5 : sm n (fun j => if (j : Int) ∈ l then (1 : Int) else 0) ≤ sm n (fun _ => 1):=m4 fun i _ => by split <;> omega
 rw [h1] at h2
 omega
theorem best_in {y : TY} (hG : Good y) {first wi w : Int} {i0 : Int} {l : List Int} (hw1 : 1 ≤ w) (hw2 : w ≤ 1000) (hI : BestI y first wi w 0 l) : ∃ l',aO (d5 y first wi (w,l)) (0,l) = some ((y.fR.length : Int),l') ∧ BestI y first wi w y.fR.length l':=by
 have hF:=S1.fit y wi
 have hB:=hG.bays
 have hO:=hG.ords
 have hinv:=dQ (body:=d5 y first wi (w,l))
  (fun s => ∃ (i : Nat) (l1 : List Int),s = ((i : Int),l1) ∧ i ≤ y.fR.length ∧ BestI y first wi w i l1)
  (fun _ out => out.1 = (y.fR.length : Int) ∧ BestI y first wi w y.fR.length out.2)
  (fun s => y.fR.length - s.1.toNat) (by
   rintro _ ⟨i,l1,rfl,hi,hb⟩
   have hll:=hb.nums.len
   rcases Nat.lt_or_ge i y.fR.length with hlt | hge
   ·left
    have hbody : d5 y first wi (w,l) ((i : Int),l1) = (if (wo y i ≠ w ∨ (i : Int) = first ∨ (i : Int) = wi) then some (.inl (((i + 1 : Nat) : Int),l1)) else ((d8 y (l1 ++ [(i : Int)])).bind fun y29 => (if y29 = true then some (.inl (((i + 1 : Nat) : Int),l1 ++ [(i : Int)])) else some (.inl (((i + 1 : Nat) : Int),l1))))):=by
     unfold d5; dsimp only
     rw [fJ (by omega),gPo (by omega)]
     simp only [eZ,List.nil_append,bc (show i < 9223372036854775807 by omega),gPo (show 0 + l1.length ≤ 1000000000 by omega),gPo (show (0 + l1.length) + 1 ≤ 1000000000 by omega)]
     show (if ((((oat y i).fW != w) || ((i : Int) == first)) || ((i : Int) == wi)) = true then _ else _) = _
     have hc : ((((oat y i).fW != w) || ((i : Int) == first)) || ((i : Int) == wi)) = true ↔ (wo y i ≠ w ∨ (i : Int) = first ∨ (i : Int) = wi):=by
      rw [Bool.or_eq_true,Bool.or_eq_true,bne_iff_ne,beq_iff_eq,beq_iff_eq,or_assoc]
      exact Iff.rfl
     by_cases c : (wo y i ≠ w ∨ (i : Int) = first ∨ (i : Int) = wi)
     ·rw [if_pos c,if_pos (hc.2 c)]
     ·rw [if_neg c,if_neg (fun h => c (hc.1 h))]
    by_cases c : (wo y i ≠ w ∨ (i : Int) = first ∨ (i : Int) = wi)
    ·rw [if_pos c] at hbody
     refine ⟨_,hbody,⟨i + 1,l1,rfl,hlt,hb.nums,hb.greedy.iff (fun x => ?_) (fun _ => Iff.rfl),hb.no⟩,by dsimp only; omega,fun t h => h⟩
     unfold Seen
     constructor
     ·rintro (⟨h1,h2 | ⟨h2,h3⟩⟩ | h)
      ·exact .inl ⟨h1,.inl h2⟩
      ·exact .inl ⟨h1,.inr ⟨h2,by omega⟩⟩
      ·exact .inr h
     ·rintro (⟨h1,h2 | ⟨h2,h3⟩⟩ | h)
      ·exact .inl ⟨h1,.inl h2⟩
      ·by_cases hx : x = i
       ·subst hx
        rcases c with c | c
        ·exact absurd h2 c
        ·exact .inr c
       ·exact .inl ⟨h1,.inr ⟨h2,by omega⟩⟩
      ·exact .inr h
    ·rw [if_neg c] at hbody
     have hwi : wo y i = w:=Classical.byContradiction fun h => c (.inl h)
     have hnf : ¬ (i : Int) = first:=fun h => c (.inr (.inl h))
     have hnw : ¬ (i : Int) = wi:=fun h => c (.inr (.inr h))
     have hni : ¬ (i : Int) ∈ l1:=fun h => by
      rcases hb.greedy.sub i h with ⟨_,h2 | ⟨_,h2⟩⟩ | h2 | h2
      ·omega
      ·omega
      ·exact hnf h2
      ·exact hnw h2
     have hnum : Nums y.fR.length (l1 ++ [(i : Int)]):=⟨fun x hx => by
      rcases List.mem_append.1 hx with hx | hx
      ·exact hb.nums.nat x hx
      ·rw [List.mem_singleton.1 hx]; exact ⟨i,rfl,hlt⟩,by
      rw [List.nodup_append]
      exact ⟨hb.nums.once,by simp,fun a ha b hb' e => hni (by rw [List.mem_singleton.1 hb'] at e; rw [← e]; exact ha)⟩⟩
     obtain ⟨b,hb1,hb2⟩:=qW (y:=y) (by omega) (by omega) hnum (by have:=hnum.len; omega)
     rw [hb1,oB] at hbody
     have hmem : ∀ x : Nat,(x : Int) ∈ l1 ++ [(i : Int)] ↔ ((x : Int) ∈ l1 ∨ x = i):=fun x => by
      rw [List.mem_append,List.mem_singleton]
      exact or_congr Iff.rfl ⟨fun e => by omega,fun e => by rw [e]⟩
     have hseen : ∀ x,(Seen y first wi w i x ∨ x = i) ↔ Seen y first wi w (i + 1) x:=fun x => by
      unfold Seen
      constructor
      ·rintro ((⟨h1,h2 | ⟨h2,h3⟩⟩ | h) | rfl)
       ·exact .inl ⟨h1,.inl h2⟩
       ·exact .inl ⟨h1,.inr ⟨h2,by omega⟩⟩
       ·exact .inr h
       ·exact .inl ⟨hlt,.inr ⟨hwi,by omega⟩⟩
      ·rintro (⟨h1,h2 | ⟨h2,h3⟩⟩ | h)
       ·exact .inl (.inl ⟨h1,.inl h2⟩)
       ·by_cases hx : x = i
        ·exact .inr hx
        ·exact .inl (.inl ⟨h1,.inr ⟨h2,by omega⟩⟩)
       ·exact .inl (.inr h)
     have hno : ∀ x : Nat,((x : Int) ∈ l1 ∨ x = i) → (x : Int) ≠ wi:=fun x hx e => by
      rcases hx with hx | rfl
      ·exact hb.no (e ▸ hx)
      ·exact hnw e
     by_cases hbt : b = true
     ·rw [if_pos hbt] at hbody
      have hm : Matchable (S1 y wi) fun x => (x : Int) ∈ l1 ∨ x = i:=((hb2.1 hbt).congr hmem).mono fun x k hx hs => ⟨hs,hno x hx⟩
      exact ⟨_,hbody,⟨i + 1,_,rfl,hlt,hnum,(hb.greedy.yes hm).iff hseen (fun x => (hmem x).symm),fun h => by
       rcases List.mem_append.1 h with h | h
       ·exact hb.no h
       ·exact hnw (List.mem_singleton.1 h).symm⟩,by dsimp only; omega,fun t h => h⟩
     ·rw [if_neg hbt] at hbody
      have hm : ¬ Matchable (S1 y wi) fun x => (x : Int) ∈ l1 ∨ x = i:=fun h => hbt (hb2.2 ((h.mono fun x k _ hs => hs.1).congr fun x => (hmem x).symm))
      refine ⟨_,hbody,⟨i + 1,_,rfl,hlt,hb.nums,(hb.greedy.no hF (fun x hx => ?_) hm).iff hseen (fun x => Iff.rfl),hb.no⟩,by dsimp only; omega,fun t h => h⟩
      have ew : w1 y first wi i = w:=by
       unfold w1
       rw [if_neg (fun h => h.elim hnf hnw),hwi]
      rw [ew]
      unfold w1
      split
      ·omega
      ·rename_i hh
       rcases hx with ⟨_,h2 | ⟨h2,_⟩⟩ | h2
       ·omega
       ·omega
       ·exact absurd h2 hh
   ·have hke : i = y.fR.length:=by omega
    subst hke
    refine .inr ⟨((y.fR.length : Int),l1),?_,rfl,hb⟩
    unfold d5; dsimp only
    rw [en (by omega)]) (0,l) ⟨0,l,rfl,Nat.zero_le _,hI⟩
 obtain ⟨out,hr,h1,h2⟩:=hinv
 refine ⟨out.2,?_,h2⟩
 rw [hr,← h1]
theorem rp {y : TY} (hG : Good y) {first wi : Int} {l : List Int} (hI : BestI y first wi 1000 0 l) : ∃ l',aO (dX y first wi) (1000,l) = some (0,l') ∧ BestI y first wi 0 0 l':=by
 have hinv:=dQ (body:=dX y first wi)
  (fun s => ∃ (w : Nat) (l1 : List Int),s = ((w : Int),l1) ∧ w ≤ 1000 ∧ BestI y first wi (w : Int) 0 l1)
  (fun _ out => out.1 = 0 ∧ BestI y first wi 0 0 out.2)
  (fun s => s.1.toNat) (by
   rintro _ ⟨w,l1,rfl,hw,hb⟩
   rcases Nat.eq_zero_or_pos w with h0 | hpos
   ·subst h0
    refine .inr ⟨(0,l1),?_,rfl,hb⟩
    unfold dX; dsimp only
    rw [en (by omega)]
    rfl
   ·left
    obtain ⟨l',h1,h2⟩:=best_in hG (i0:=0) (by omega) (by omega) hb
    refine ⟨(((w - 1 : Nat) : Int),l'),?_,⟨w - 1,l',rfl,by omega,h2.nums,h2.greedy.iff (fun x => ?_) (fun _ => Iff.rfl),h2.no⟩,by dsimp only; omega,fun t h => h⟩
    ·unfold dX; dsimp only
     rw [fJ (by omega),h1,oB,iB (by omega) (by omega)]
     refine congrArg some (congrArg Sum.inl (Prod.ext ?_ rfl))
     dsimp only; omega
    ·unfold Seen
     constructor
     ·rintro (⟨h1,h2⟩ | h)
      ·exact .inl ⟨h1,by rcases h2 with h2 | ⟨h2,_⟩ <;> left <;> omega⟩
      ·exact .inr h
     ·rintro (⟨h1,h2⟩ | h)
      ·rcases h2 with h2 | ⟨_,h2⟩
       ·by_cases hx : wo y x = (w : Int)
        ·exact .inl ⟨h1,.inr ⟨hx,h1⟩⟩
        ·exact .inl ⟨h1,.inl (by omega)⟩
       ·omega
      ·exact .inr h) (1000,l) ⟨1000,l,rfl,Nat.le_refl _,hI⟩
 obtain ⟨out,hr,h1,h2⟩:=hinv
 refine ⟨out.2,?_,h2⟩
 rw [hr,← h1]
theorem l31 : i8 = dX:=rfl
theorem rworth_ok {y : TY} (hy : Fine y) {l : List Int} (hl : Nums y.fR.length l) : cl y l = some (sm y.fR.length fun x => if (x : Int) ∈ l then wo y x else 0):=by
 have hll:=hl.len
 have hO:=hy.ords
 have hpre : ∀ (ks : List Int),(∀ k ∈ ks,0 ≤ (rdL y.fR k).fW ∧ (rdL y.fR k).fW ≤ 2000) → 0 ≤ oc (fun k => (rdL y.fR k).fW) ks ∧ oc (fun k => (rdL y.fR k).fW) ks ≤ 2000 * (ks.length : Int):=fun ks => by
  induction ks with
  | nil => intro _; exact ⟨Int.le_refl _,Int.le_refl _⟩
  | cons k ks ih =>
   intro h
   have h1:=ih fun j hj => h j (List.mem_cons_of_mem _ hj)
   have h2:=h k (List.mem_cons_self ..)
   rw [List.length_cons]
   show 0 ≤ (rdL y.fR k).fW + oc (fun k => (rdL y.fR k).fW) ks ∧ (rdL y.fR k).fW + oc (fun k => (rdL y.fR k).fW) ks ≤ _
   omega
 have happ : ∀ (f : Int → Int) (ks : List Int) (x : Int),oc f (ks ++ [x]) = oc f ks + f x:=fun f ks x => by
  induction ks with
  | nil => show f x + 0 = 0 + f x; omega
  | cons k ks ih => show f k + oc f (ks ++ [x]) = f k + oc f ks + f x; rw [ih]; omega
 have hbd : ∀ k ∈ l,0 ≤ (rdL y.fR k).fW ∧ (rdL y.fR k).fW ≤ 2000:=fun k hk => by
  obtain ⟨j,rfl,_⟩:=hl.nat k hk
  rw [eZ]
  exact ⟨hy.low j,hy.high j⟩
 have hrun:=ja (body:=eg y l) (fun k => (oc (fun k => (rdL y.fR k).fW) (l.take k),(k : Int))) l.length (t:=(oc (fun k => (rdL y.fR k).fW) l,(l.length : Int))) (fun k hk => by
  obtain ⟨o,eo,ho⟩:=hl.nat l[k] (List.getElem_mem _)
  have h1:=hpre (l.take k) fun x hx => hbd x (List.mem_of_mem_take hx)
  have h2 : (l.take k).length ≤ 20:=by rw [List.length_take]; omega
  have h3:=hbd l[k] (List.getElem_mem _)
  unfold eg; dsimp only
  rw [fJ (by omega),gPo (by omega),cg hk,gPo (by rw [eo]; omega),iB (by omega) (by omega),bc (by omega),List.take_add_one,List.getElem?_eq_getElem hk]
  rw [show (some l[k]).toList = [l[k]] from rfl,happ]) (by
  unfold eg; dsimp only
  rw [en (by omega),List.take_length])
 unfold cl
 have e0 : aO (eg y l) (0,0) = _:=hrun
 rw [e0,oB,nm l hl.once hl.nat]
 refine congrArg some (cw fun x _ => ?_)
 rw [eZ]
 rfl
theorem BestI.opt {y : TY} (hG : Good y) (h9 : y.fR.length < 20) {first wi : Int} {l : List Int} (h : BestI y first wi 0 0 l) : ∃ m,Mat (S1 y wi) m ∧ (∀ x,Dom m x ↔ (x : Int) ∈ l) ∧ Opt (S1 y wi) (w1 y first wi) y.fB.length (wor y.fB.length (w1 y first wi) m) ∧ cl y l = some (wor y.fB.length (wo y) m):=by
 obtain ⟨m,hM,hd⟩:=h.greedy.can
 have hF:=S1.fit y wi
 have hw : ∀ i,0 ≤ w1 y first wi i:=fun i => by
  unfold w1
  split
  ·omega
  ·exact (hG.fine h9).low i
 refine ⟨m,hM,hd,h.greedy.opt hF hw (fun i hi => .inl ⟨hi,.inl (by have:=hG.worth hi; omega)⟩) hM hd,?_⟩
 rw [rworth_ok (hG.fine h9) h.nums]
 unfold wor
 rw [bij hF hM (wo y)]
 refine congrArg some (cw fun x _ => ?_)
 by_cases hx : (x : Int) ∈ l
 ·rw [if_pos hx,if_pos ((hd x).2 hx)]
 ·rw [if_neg hx,if_neg fun h => hx ((hd x).1 h)]
theorem Opt.congr {S S' : Nat → Nat → Prop} {w w' : Nat → Int} {nB : Nat} {V : Int} (h : Opt S w nB V) (hS : ∀ o k,S o k ↔ S' o k) (hw : ∀ o k,S o k → w o = w' o) : Opt S' w' nB V:=by
 have e : S = S':=funext fun o => funext fun k => propext (hS o k)
 subst e
 have hv : ∀ m,Mat S m → wor nB w m = wor nB w' m:=fun m hM => cw fun k _ => by
  cases e : m k with
  | none => rfl
  | some x => exact hw x k (hM.suit k x e)
 obtain ⟨m,hM,e⟩:=h.some
 exact ⟨⟨m,hM,by rw [← hv m hM]; exact e⟩,fun m hM => by rw [← hv m hM]; exact h.most m hM⟩
theorem q3 {y : TY} (hG : Good y) (h9 : y.fR.length < 20) {wi : Int} (hwi : -1 ≤ wi) : ∃ l V,db y (-1) wi = some l ∧ cl y l = some V ∧ Opt (S1 y wi) (wo y) y.fB.length V:=by
 have h0 : BestI y (-1) wi 1000 0 []:=⟨⟨fun x hx => (by cases hx),List.nodup_nil⟩,by
  have hw : Greedy (S1 y wi) (w1 y (-1) wi) (fun _ => False) (fun _ => False):=Greedy.nil
  refine ⟨hw.can.congr fun x => ⟨False.elim,fun h => (by cases h)⟩,fun x hx => (by cases hx),fun i hi hn => ?_⟩
  rcases hi with ⟨h1,h2 | ⟨_,h2⟩⟩ | h2 | h2
  ·have:=(hG.worth h1).2; omega
  ·omega
  ·omega
  ·exact ⟨fun _ => none,fun _ => False,⟨fun _ _ e => (by cases e),fun _ _ _ e => (by cases e)⟩,fun x ⟨k,e⟩ => (by cases e),⟨fun k h => h.elim⟩,fun k hs => hs.2 h2,fun k x h => h.elim⟩,by simp⟩
 obtain ⟨l,h1,h2⟩:=rp hG h0
 obtain ⟨m,hM,hd,hopt,hw⟩:=h2.opt hG h9
 refine ⟨l,_,?_,hw,?_⟩
 ·unfold db
  rw [en (by omega),l31,h1]
  rfl
 ·have hww : ∀ o k,S1 y wi o k → w1 y (-1) wi o = wo y o:=fun o k hs => by
   unfold w1
   rw [if_neg]
   rintro (h | h)
   ·omega
   ·exact hs.2 h
  have:=hopt.congr (fun _ _ => Iff.rfl) hww
  have e : wor y.fB.length (w1 y (-1) wi) m = wor y.fB.length (wo y) m:=cw fun k _ => by
   cases e : m k with
   | none => rfl
   | some x => exact hww x k (hM.suit k x e)
  rw [e] at this
  exact this
theorem qu {y : TY} (hG : Good y) (h9 : y.fR.length < 20) {f : Nat} (hf : f < y.fR.length) (hc : Matchable (Su y) fun x => x = f) : ∃ l V,db y (f : Int) (-1) = some l ∧ cl y l = some V ∧ Opt (Su y) (fun x => if x = f then 1001 else wo y x) y.fB.length (V - wo y f + 1001):=by
 have hS : ∀ o k,S1 y (-1) o k ↔ Su y o k:=fun o k => ⟨fun h => h.1,fun h => ⟨h,by omega⟩⟩
 have hnum : Nums y.fR.length [(f : Int)]:=⟨fun x hx => by rw [List.mem_singleton.1 hx]; exact ⟨f,rfl,hf⟩,by simp⟩
 obtain ⟨b,hb1,hb2⟩:=qW (y:=y) (by have:=hG.bays; omega) (by have:=hG.ords; omega) hnum (by simp)
 have hmem : ∀ x : Nat,x = f ↔ (x : Int) ∈ [(f : Int)]:=fun x => by rw [List.mem_singleton]; omega
 have hbt : b = true:=hb2.2 (hc.congr hmem)
 have h0 : BestI y (f : Int) (-1) 1000 0 [(f : Int)]:=⟨hnum,by
  refine ⟨(hc.congr hmem).mono fun x k _ hs => (hS x k).2 hs,fun x hx => .inr (.inl (by simpa using hx)),fun i hi hn => ?_⟩
  rcases hi with ⟨h1,h2 | ⟨_,h2⟩⟩ | h2 | h2
  ·have:=(hG.worth h1).2; omega
  ·omega
  ·exact absurd (by rw [List.mem_singleton]; exact h2) hn
  ·omega,by simp⟩
 obtain ⟨l,h1,h2⟩:=rp hG h0
 obtain ⟨m,hM,hd,hopt,hw⟩:=h2.opt hG h9
 have hfl : Dom m f:=Classical.byContradiction fun hn => by
  have hfit:=S1.fit y (-1)
  have hcert:=(h2.greedy.cert f (.inr (.inl rfl)) (fun hl => hn ((hd f).2 hl))).out
  obtain ⟨h,C,hMh,hsub,hC,hs,hwC⟩:=hcert
  have hhold : ∀ k x,C k → h k = some x → x = f:=fun k x hk e => Classical.byContradiction fun hx => by
   have:=hwC k x hk e
   have hxn : x < y.fR.length:=hfit.ord x k (hMh.suit k x e)
   have h3:=(hG.worth hxn).2
   unfold w1 at this
   rw [if_pos (.inl rfl),if_neg (by omega)] at this
   omega
  obtain ⟨m0,hM0,hd0⟩:=hc
  obtain ⟨k,ek⟩:=(hd0 f).2 rfl
  have hCk:=hs k ((hS f k).2 (hM0.suit k f ek))
  obtain ⟨x,ex,_⟩:=hC.shut k hCk
  have:=hhold k x hCk ex
  subst this
  have hf2:=filled hfit hMh hC hM (fun k' x' hk' e' => ?_) k hCk
  ·obtain ⟨z,ez,k1,hk1,e1⟩:=hf2
   have:=hhold k1 z hk1 e1
   subst this
   exact hn ⟨k,ez⟩
  ·exact (hd x').2 (by
    have : Dom h x':=⟨k',e'⟩
    exact hsub x' this)
 refine ⟨l,_,?_,hw,?_⟩
 ·unfold db
  rw [fJ (by omega),hb1,oB,hbt,if_neg (by simp),h1]
  rfl
 ·have hww : ∀ o,w1 y (f : Int) (-1) o = if o = f then 1001 else wo y o:=fun o => by
   unfold w1
   by_cases e : o = f
   ·rw [if_pos e,if_pos (.inl (by omega))]
   ·rw [if_neg e,if_neg (by omega)]
  have h3:=hopt.congr hS (fun o k _ => hww o)
  have hMS : Mat (Su y) m:=⟨fun k o e => ((hS o k).1 (hM.suit k o e)),hM.inj⟩
  have e : wor y.fB.length (w1 y (f : Int) (-1)) m = wor y.fB.length (wo y) m - wo y f + 1001:=by
   obtain ⟨kf,ekf⟩:=hfl
   have hkf : kf < y.fB.length:=(Su.fit y).bay f kf (hMS.suit kf f ekf)
   have:=lp (f:=fun k => ov (wo y) (m k)) (g:=fun k => ov (w1 y (f : Int) (-1)) (m k)) hkf (fun i _ hi => by
    cases e : m i with
    | none => rfl
    | some x =>
     show w1 y (f : Int) (-1) x = wo y x
     rw [hww,if_neg]
     intro e'
     subst e'
     exact hi (hM.inj i kf x e ekf))
   simp only [ekf] at this
   have e1 : ov (w1 y (f : Int) (-1)) (some f) = 1001:=by
    show w1 y (f : Int) (-1) f = 1001
    rw [hww,if_pos rfl]
   have e2 : ov (wo y) (some f) = wo y f:=rfl
   rw [e1,e2] at this
   exact this
  rw [e] at h3
  exact h3
set_option linter.unusedSimpArgs false
open Classical
def ga (p : TPlan) (i : Nat) : Int:=p.fG.getD i 0
def pa (p : TPlan) (k : Nat) : Int:=p.fPrices.getD k 0
def rX (y : TY) (f : Nat → Int) (i : Nat) (a : Int) : Nat → Int
 | 0 => a
 | n + 1 => if ls (oat y i) (bat y n) = true then min (rX y f i a n) (f n) else rX y f i a n
theorem qj (y : TY) (f : Nat → Int) (i : Nat) (a : Int) : ∀ n,rX y f i a n ≤ a ∧ ∀ k,k < n → ls (oat y i) (bat y k) = true → rX y f i a n ≤ f k
 | 0 => ⟨Int.le_refl _,fun k hk => by omega⟩
 | n + 1 => by
  obtain ⟨h1,h2⟩:=qj y f i a n
  unfold rX
  split
  ·rename_i hs
   refine ⟨by omega,fun k hk hk2 => ?_⟩
   rcases Nat.lt_or_ge k n with h | h
   ·have:=h2 k h hk2; omega
   ·have : k = n:=by omega
    subst this; omega
  ·rename_i hs
   refine ⟨h1,fun k hk hk2 => ?_⟩
   rcases Nat.lt_or_ge k n with h | h
   ·exact h2 k h hk2
   ·have : k = n:=by omega
    subst this; exact absurd hk2 hs
theorem qF (y : TY) (f : Nat → Int) (i : Nat) (a : Int) : ∀ n,rX y f i a n = a ∨ ∃ k,k < n ∧ ls (oat y i) (bat y k) = true ∧ rX y f i a n = f k
 | 0 => .inl rfl
 | n + 1 => by
  unfold rX
  split
  ·rename_i hs
   rcases qF y f i a n with h | ⟨k,h1,h2,h3⟩
   ·rcases Int.le_total (rX y f i a n) (f n) with h4 | h4
    ·left; rw [Int.min_eq_left h4]; exact h
    ·right; exact ⟨n,by omega,hs,Int.min_eq_right h4⟩
   ·rcases Int.le_total (rX y f i a n) (f n) with h4 | h4
    ·right; exact ⟨k,by omega,h2,by rw [Int.min_eq_left h4]; exact h3⟩
    ·right; exact ⟨n,by omega,hs,Int.min_eq_right h4⟩
  ·rcases qF y f i a n with h | ⟨k,h1,h2,h3⟩
   ·exact .inl h
   ·exact .inr ⟨k,by omega,h2,h3⟩
def gain (y : TY) (f : Nat → Int) (i : Nat) : Int:=max 0 (wo y i - rX y f i 1001 y.fB.length)
def okAt (y : TY) (p : TPlan) (i : Nat) : Prop:=ga p i = 0 ∨ (0 ≤ pI y (ga p i) ∧ ls (oat y i) (rdL y.fB (pI y (ga p i))) = true ∧ ∀ j,j < i → ga p j ≠ ga p i)
def sumW (y : TY) (p : TPlan) (n : Nat) : Int:=sm n fun i => if ga p i = 0 then 0 else wo y i
structure Proved (y : TY) (p : TPlan) : Prop where
 len : p.fG.length = y.fR.length
 plen : p.fPrices.length = y.fB.length
 price : ∀ k,k < y.fB.length → 0 ≤ pa p k ∧ pa p k ≤ 1000
 ok : ∀ i,i < y.fR.length → okAt y p i
 sum : sumW y p y.fR.length = p.fW
 bound : sm y.fR.length (gain y (pa p)) + sm y.fB.length (pa p) = p.fW
theorem bay_lt (y : TY) (id : Int) : pI y id < (y.fB.length : Int):=nn _ _
set_option linter.unusedSimpArgs false
open Classical
theorem oM {y : TY} (hG : Good y) {k : Nat} (hk : k < y.fB.length) : pI y (bat y k).fID = (k : Int):=by
 unfold pI bat
 rw [dh hk]
 exact sN hG.bayN hk
theorem bay_pos {y : TY} (hG : Good y) {k : Nat} (hk : k < y.fB.length) : 1 ≤ (bat y k).fID:=by
 have:=hG.bay y.fB[k] (List.getElem_mem hk)
 unfold sv at this
 simp only [Bool.and_eq_true,decide_eq_true_eq] at this
 unfold bat
 rw [dh hk]
 exact this.1.1
theorem PlanOf.proved {y : TY} (hG : Good y) {m : Nat → Option Nat} (hM : Mat (Su y) m) {q u : Nat → Int} (hp : Prices (Su y) (wo y) y.fB.length y.fR.length m q u) {p : TPlan} (h : PlanOf y m q p) : Proved y p:=by
 have hF:=Su.fit y
 have hgot : ∀ o k,m k = some o → ga p o = (bat y k).fID ∧ k < y.fB.length ∧ o < y.fR.length:=fun o k e => ⟨h.got o k e,hF.bay o k (hM.suit k o e),hF.ord o k (hM.suit k o e)⟩
 have hnz : ∀ o,ga p o = 0 ↔ ¬ Dom m o:=fun o => ⟨fun e ⟨k,ek⟩ => by
  obtain ⟨h1,h2,_⟩:=hgot o k ek
  have:=bay_pos hG h2
  omega,h.not o⟩
 have hpr : ∀ k,k < y.fB.length → pa p k = q k:=h.price
 have hq : ∀ k,k < y.fB.length → 0 ≤ q k ∧ q k ≤ 1000:=fun k hk => ⟨hp.q0 k,by
  cases e : m k with
  | none => rw [hp.free k e]; omega
  | some x => have h1:=hp.held k x e; have h2:=hG.worth (hgot x k e).2.2; omega⟩
 have hgain : ∀ i,i < y.fR.length → gain y (pa p) i = u i:=fun i hi => by
  have hw:=hG.worth hi
  obtain ⟨hm1,hm2⟩:=qj y (pa p) i 1001 y.fB.length
  have hm3:=qF y (pa p) i 1001 y.fB.length
  unfold gain
  by_cases hd : Dom m i
  ·obtain ⟨k,e⟩:=hd
   have hs:=hM.suit k i e
   have h1:=hp.uset k i e
   have h2:=hp.held k i e
   have h3:=hm2 k hs.2.1 hs.2.2
   rw [hpr k hs.2.1] at h3
   have h4 : q k ≤ rX y (pa p) i 1001 y.fB.length:=by
    rcases hm3 with h4 | ⟨k',hk',hs',h4⟩
    ·have:=(hq k hs.2.1).2; omega
    ·rw [h4,hpr k' hk']; exact hp.least k i k' e ⟨hi,hk',hs'⟩
   omega
  ·rw [hp.unot i hd]
   have h4 : wo y i ≤ rX y (pa p) i 1001 y.fB.length:=by
    rcases hm3 with h4 | ⟨k',hk',hs',h4⟩
    ·omega
    ·rw [h4,hpr k' hk']; exact hp.out i k' hi hd ⟨hi,hk',hs'⟩
   omega
 refine ⟨h.len,h.plen,fun k hk => by rw [hpr k hk]; exact hq k hk,fun i hi => ?_,?_,?_⟩
 ·by_cases hd : Dom m i
  ·obtain ⟨k,e⟩:=hd
   obtain ⟨h1,h2,_⟩:=hgot i k e
   refine .inr ⟨by rw [h1,oM hG h2]; omega,by rw [h1,oM hG h2,oP]; exact (hM.suit k i e).2.2,fun j hj ej => ?_⟩
   have hdj : Dom m j:=Classical.byContradiction fun hn => by
    have:=(hnz j).2 hn
    have:=bay_pos hG h2
    omega
   obtain ⟨k',e'⟩:=hdj
   obtain ⟨h1',h2',_⟩:=hgot j k' e'
   have h5:=oM hG h2
   rw [← h1,← ej,h1',oM hG h2'] at h5
   have : k' = k:=by omega
   subst this
   rw [e] at e'
   cases e'
   omega
  ·exact .inl ((hnz i).2 hd)
 ·rw [h.worth]
  unfold wor
  rw [bij hF hM (wo y)]
  refine cw fun i _ => ?_
  by_cases hd : Dom m i
  ·rw [if_pos hd,if_neg fun e => (hnz i).1 e hd]
  ·rw [if_neg hd,if_pos ((hnz i).2 hd)]
 ·rw [h.worth,hp.total,cw hgain,cw hpr]
  exact Int.add_comm _ _
theorem plan_mat {y : TY} {p : TPlan} (hok : ∀ i,i < y.fR.length → okAt y p i) : ∃ m,Mat (Su y) m ∧ (∀ i,Dom m i ↔ i < y.fR.length ∧ ga p i ≠ 0) ∧ wor y.fB.length (wo y) m = sumW y p y.fR.length:=by
 let Q : Nat → Nat → Prop:=fun k i => i < y.fR.length ∧ ga p i ≠ 0 ∧ pI y (ga p i) = (k : Int)
 let m : Nat → Option Nat:=fun k => if h : ∃ i,Q k i then some (Classical.choose h) else none
 have huniq : ∀ k i j,Q k i → Q k j → i = j:=fun k i j hi hj => by
  have h1 : 0 ≤ pI y (ga p i):=by rw [hi.2.2]; omega
  have h2 : 0 ≤ pI y (ga p j):=by rw [hj.2.2]; omega
  have e1:=oG (q:=fun n : TBay => n.fID == ga p i) h1
  have e2:=oG (q:=fun n : TBay => n.fID == ga p j) h2
  have e3 : ga p i = ga p j:=by
   have a1 : (rdL y.fB (k : Int)).fID = ga p i:=by have:=hi.2.2; unfold pI at this; rw [this] at e1; exact beq_iff_eq.1 e1
   have a2 : (rdL y.fB (k : Int)).fID = ga p j:=by have:=hj.2.2; unfold pI at this; rw [this] at e2; exact beq_iff_eq.1 e2
   rw [← a1,a2]
  rcases Nat.lt_trichotomy i j with h | h | h
  ·rcases hok j hj.1 with h0 | ⟨_,_,h0⟩
   ·exact absurd h0 hj.2.1
   ·exact absurd e3 (h0 i h)
  ·exact h
  ·rcases hok i hi.1 with h0 | ⟨_,_,h0⟩
   ·exact absurd h0 hi.2.1
   ·exact absurd e3.symm (h0 j h)
 have hm : ∀ k o,m k = some o ↔ Q k o:=fun k o => by
  show (if h : ∃ i,Q k i then some (Classical.choose h) else none) = some o ↔ _
  by_cases h : ∃ i,Q k i
  ·rw [dif_pos h]
   have hc:=Classical.choose_spec h
   exact ⟨fun e => by cases e; exact hc,fun ho => by rw [huniq k _ _ hc ho]⟩
  ·rw [dif_neg h]
   exact ⟨fun e => (by cases e),fun ho => absurd ⟨o,ho⟩ h⟩
 have hM : Mat (Su y) m:=⟨fun k o e => by
  obtain ⟨h1,h2,h3⟩:=(hm k o).1 e
  rcases hok o h1 with h0 | ⟨h0,h4,_⟩
  ·exact absurd h0 h2
  ·have h5:=bay_lt y (ga p o)
   rw [h3,oP] at h4
   exact ⟨h1,by omega,h4⟩,fun k k' o e e' => by
  have h1:=((hm k o).1 e).2.2
  have h2:=((hm k' o).1 e').2.2
  omega⟩
 have hd : ∀ i,Dom m i ↔ i < y.fR.length ∧ ga p i ≠ 0:=fun i => ⟨fun ⟨k,e⟩ => ⟨((hm k i).1 e).1,((hm k i).1 e).2.1⟩,fun ⟨h1,h2⟩ => by
  rcases hok i h1 with h0 | ⟨h0,_,_⟩
  ·exact absurd h0 h2
  ·exact ⟨(pI y (ga p i)).toNat,(hm _ i).2 ⟨h1,h2,by omega⟩⟩⟩
 refine ⟨m,hM,hd,?_⟩
 unfold wor
 rw [bij (Su.fit y) hM (wo y)]
 refine cw fun i hi => ?_
 by_cases h0 : ga p i = 0
 ·rw [if_pos h0,if_neg fun h => ((hd i).1 h).2 h0]
 ·rw [if_neg h0,if_pos ((hd i).2 ⟨hi,h0⟩)]
theorem Proved.opt {y : TY} {p : TPlan} (h : Proved y p) : Opt (Su y) (wo y) y.fB.length p.fW:=by
 have hF:=Su.fit y
 obtain ⟨m,hM,_,e⟩:=plan_mat h.ok
 refine ⟨⟨m,hM,by rw [e]; exact h.sum⟩,fun m2 hM2 => ?_⟩
 have:=weak' (w:=wo y) (q:=pa p) (u:=gain y (pa p)) hF (fun k hk => (h.price k hk).1) (fun i _ => by unfold gain; omega) (fun i k hs => by
  have:=(qj y (pa p) i 1001 y.fB.length).2 k hs.2.1 hs.2.2
  unfold gain; omega) hM2
 have h2:=h.bound
 omega
set_option linter.unusedSimpArgs false
theorem rv {y : TY} (hy : Fine y) {V : Int} (hV : Opt (Su y) (wo y) y.fB.length V) : dl y = some V:=by
 obtain ⟨V',h1,h2⟩:=lE hy
 rw [h1,h2.unique hV]
set_option linter.unusedSimpArgs false
theorem sk {L : List Int} (hs : eh L) (n : Int) (k : Nat) (hk : k ≤ L.length) (h1 : ∀ j,(hj : j < L.length) → j < k → L[j] < n) (h2 : ∀ h : k < L.length,n ≤ L[k]) : L.take k ++ [n] ++ L.drop k = ms (L ++ [n]):=by
 refine qw ?_ ?_
 ·have e : (L.take k ++ L.drop k ++ [n]).Perm (L ++ [n]):=by rw [List.take_append_drop]
  refine List.Perm.trans ?_ e
  rw [List.append_assoc,List.append_assoc]
  exact List.perm_append_comm.append_left _
 ·have hpw:=List.pairwise_iff_getElem.1 hs
  unfold eh at hs ⊢
  rw [List.append_assoc,List.pairwise_append]
  refine ⟨hs.sublist (List.take_sublist _ _),?_,fun a ha b hb => ?_⟩
  ·rw [List.singleton_append,List.pairwise_cons]
   refine ⟨fun b hb => ?_,hs.sublist (List.drop_sublist _ _)⟩
   obtain ⟨j,hj,rfl⟩:=List.mem_iff_getElem.1 hb
   rw [List.getElem_drop]
   rw [List.length_drop] at hj
   have h3:=h2 (by omega)
   by_cases e : j = 0
   ·subst e; simpa using h3
   ·have:=hpw k (k + j) (by omega) (by omega) (by omega)
    omega
  ·obtain ⟨j,hj,rfl⟩:=List.mem_take_iff_getElem.1 ha
   have hlt : L[j]'(by omega) < n:=h1 j (by omega) (by omega)
   rw [List.singleton_append] at hb
   rcases List.mem_cons.1 hb with rfl | hb
   ·omega
   ·obtain ⟨i,hi,rfl⟩:=List.mem_iff_getElem.1 hb
    rw [List.getElem_drop]
    rw [List.length_drop] at hi
    have:=hpw j (k + i) (by omega) (by omega) (by omega)
    omega
theorem put_eq {L : List Int} (hl : L.length ≤ 1000000) (hs : eh L) (n : Int) : gv L n = some (ms (L ++ [n])):=by
 have key : ∃ t,aO (gA L n) 0 = some t ∧ ∃ k : Nat,t = (k : Int) ∧ k ≤ L.length ∧ (∀ j,(hj : j < L.length) → j < k → L[j] < n) ∧ ∀ h : k < L.length,n ≤ L[k]:=by
  refine dQ (body:=gA L n) (fun s => ∃ k : Nat,s = (k : Int) ∧ k ≤ L.length ∧ ∀ j,(hj : j < L.length) → j < k → L[j] < n) (fun s t => ∃ k : Nat,t = (k : Int) ∧ k ≤ L.length ∧ (∀ j,(hj : j < L.length) → j < k → L[j] < n) ∧ ∀ h : k < L.length,n ≤ L[k]) (fun s => L.length - s.toNat) (fun s hs => ?_) _ ⟨0,rfl,Nat.zero_le _,fun j hj h => by omega⟩
  obtain ⟨k,rfl,i2,i3⟩:=hs
  unfold gA
  by_cases hk : k < L.length
  ·rw [fJ (by omega),gPo (by omega),cg hk,oB,bc (by omega)]
   by_cases hc : L[k] < n
   ·rw [if_pos (decide_eq_true hc)]
    refine .inl ⟨_,rfl,⟨k + 1,rfl,hk,fun j hj h => ?_⟩,by omega,fun t ht => ht⟩
    by_cases e : j = k
    ·subst e; exact hc
    ·exact i3 j hj (by omega)
   ·rw [if_neg (by simp [hc])]
    exact .inr ⟨_,rfl,k,rfl,i2,i3,fun _ => by omega⟩
  ·rw [en (by omega),oB,if_neg (by simp)]
   exact .inr ⟨_,rfl,k,rfl,i2,i3,fun h => absurd h hk⟩
 obtain ⟨t,t1,k,rfl,k2,k3,k4⟩:=key
 unfold gv
 rw [t1,oB,gPo (by omega),Int.toNat_natCast,gPo (by omega),gPo (by omega),gPo (by omega),gPo (by omega)]
 rw [List.nil_append,sk hs n k k2 k3 k4]
def jU (n : Nat) (id : Nat → Int) (P : Nat → Bool) : List Int:=(List.range n).filterMap fun k => if P k = true then some (id k) else none
theorem lT (n : Nat) (id : Nat → Int) (P : Nat → Bool) : jU (n + 1) id P = if P n = true then jU n id P ++ [id n] else jU n id P:=by
 unfold jU
 rw [List.range_succ,List.filterMap_append]
 by_cases h : P n = true <;> simp [h]
theorem iK (n : Nat) (id : Nat → Int) (P : Nat → Bool) : (jU n id P).length ≤ n:=by
 induction n with
 | zero => simp [jU]
 | succ n ih =>
  rw [lT]
  split
  ·rw [List.length_append]; simp; exact ih
  ·omega
theorem qN {n : Nat} (id : Nat → Int) (P : Nat → Bool) {body : (Int × List Int) → Option ((Int × List Int) ⊕ (Int × List Int))} (hb : ∀ k,k < n → ∀ L : List Int,L.length ≤ k → body ((k : Int),L) = some (.inl (((k + 1 : Nat) : Int),if P k = true then L ++ [id k] else L))) (hs : ∀ L : List Int,body ((n : Int),L) = some (.inr ((n : Int),L))) : aO body (0,[]) = some ((n : Int),jU n id P):=by
 have h:=ja (body:=body) (fun k => ((k : Int),jU k id P)) n (t:=((n : Int),jU n id P)) (fun k hk => by
  rw [hb k hk _ (iK k id P)]
  show _ = some (Sum.inl (((k + 1 : Nat) : Int),jU (k + 1) id P))
  rw [lT]) (hs _)
 exact h
theorem srtI_app (l : List Int) (x : Int) : ms (ms l ++ [x]) = ms (l ++ [x]):=qw ((jK _).trans ((jK l).append_right [x])) (jm _)
theorem putLoop {n : Nat} (hn : n ≤ 1000000) (id : Nat → Int) (P : Nat → Bool) {body : (Int × List Int) → Option ((Int × List Int) ⊕ (Int × List Int))} (hb : ∀ k,k < n → ∀ L : List Int,body ((k : Int),L) = if P k = true then (gv L (id k)).bind fun y => some (.inl (((k + 1 : Nat) : Int),y)) else some (.inl (((k + 1 : Nat) : Int),L))) (hs : ∀ L : List Int,body ((n : Int),L) = some (.inr ((n : Int),L))) : aO body (0,[]) = some ((n : Int),ms (jU n id P)):=by
 have h:=ja (body:=body) (fun k => ((k : Int),ms (jU k id P))) n (t:=((n : Int),ms (jU n id P))) (fun k hk => by
  show body ((k : Int),ms (jU k id P)) = some (Sum.inl (((k + 1 : Nat) : Int),ms (jU (k + 1) id P)))
  rw [hb k hk,lT]
  by_cases h : P k = true
  ·rw [if_pos h,if_pos h,put_eq (by rw [mN]; have:=iK k id P; omega) (jm _),oB,srtI_app]
  ·rw [if_neg h,if_neg h]) (hs _)
 exact h
theorem jc (a : List Int) (h : a.length < 1000000000) : bH a a = some true:=by
 unfold bH
 rw [if_neg (by simp)]
 have hrun:=ja (body:=da a a) (fun k => (false,(k : Int))) a.length (t:=.inr (false,(a.length : Int))) (fun k hk => by
  unfold da; dsimp only
  rw [fJ (by omega),gPo (by omega),gPo (by omega),if_neg (by simp),bc (by omega)]) (by
  unfold da; dsimp only
  rw [en (by omega)])
 have h0 : aO (da a a) (false,0) = _:=hrun
 rw [h0]
 rfl
theorem te {L : List Int} (h : L.length ≤ 12) : bQ L = some (ms L):=by
 unfold bQ
 rw [gPo h]
def oid (y : TY) (k : Nat) : Int:=(oat y k).fID
set_option linter.unusedSimpArgs false
open Classical
def chg (y : TY) (i : Nat) (v : Int) : TY:=⟨y.fB,y.fR.set i ⟨(oat y i).fID,(oat y i).fH,(oat y i).fD,v⟩⟩
theorem oat_chg {y : TY} {i : Nat} (hi : i < y.fR.length) (v : Int) (o : Nat) : oat (chg y i v) o = if o = i then ⟨(oat y i).fID,(oat y i).fH,(oat y i).fD,v⟩ else oat y o:=by
 have h:=ow y.fR hi ⟨(oat y i).fID,(oat y i).fH,(oat y i).fD,v⟩ o
 rw [← eZ,← eZ]
 exact h
theorem Su_chg {y : TY} {i : Nat} (hi : i < y.fR.length) (v : Int) (o k : Nat) : Su (chg y i v) o k ↔ Su y o k:=by
 have e : (chg y i v).fR.length = y.fR.length:=List.length_set
 unfold Su
 rw [e,oat_chg hi]
 by_cases h : o = i
 ·rw [if_pos h,h]; exact Iff.rfl
 ·rw [if_neg h]; exact Iff.rfl
def wv (y : TY) (i : Nat) (v : Int) : Nat → Int:=fun o => if o = i then v else wo y o
theorem ta {y : TY} {i : Nat} (hi : i < y.fR.length) (v : Int) (o : Nat) : wo (chg y i v) o = wv y i v o:=by
 unfold wo wv
 rw [oat_chg hi]
 by_cases h : o = i
 ·rw [if_pos h,if_pos h]
 ·rw [if_neg h,if_neg h]; rfl
theorem rF {y : TY} (hy : Fine y) {i : Nat} (hi : i < y.fR.length) {v : Int} (h0 : 0 ≤ v) (h1 : v ≤ 2000) : ∃ V,dW v y (i : Int) = some V ∧ Opt (Su y) (wv y i v) y.fB.length V:=by
 have ho:=hy.ords
 have hf : Fine (chg y i v):=⟨hy.bays,by show (y.fR.set _ _).length < 20; rw [List.length_set]; exact ho,fun o => by
  rw [ta hi]; unfold wv
  split
  ·exact h0
  ·exact hy.low o,fun o => by
  rw [ta hi]; unfold wv
  split
  ·exact h1
  ·exact hy.high o⟩
 obtain ⟨V,hV,hO⟩:=lE hf
 refine ⟨V,?_,hO.congr (Su_chg hi v) fun o _ _ => ta hi v o⟩
 unfold dW cL
 rw [gPo (by omega),oB,List.nil_append,gPo (by omega),eZ,Int.toNat_natCast]
 rw [show TY.mk y.fB (y.fR.set i (TO.mk (oat y i).fID (TSpan.mk (oat y i).fH.fLo (oat y i).fH.fHi) (oat y i).fD v)) = chg y i v from rfl,hV]
 rfl
theorem n5 {y : TY} {m : Nat → Option Nat} (hM : Mat (Su y) m) (i : Nat) (v : Int) : wor y.fB.length (wv y i v) m = wor y.fB.length (wo y) m + if Dom m i then v - wo y i else 0:=by
 by_cases hd : Dom m i
 ·rw [if_pos hd]
  obtain ⟨k,e⟩:=hd
  have hk : k < y.fB.length:=(hM.suit k i e).2.1
  have:=lp (f:=fun k => ov (wo y) (m k)) (g:=fun k => ov (wv y i v) (m k)) hk fun j _ hj => by
   cases ej : m j with
   | none => rfl
   | some o =>
    have : o ≠ i:=fun h => hj (hM.inj j k i (by rw [ej,h]) e)
    show wv y i v o = wo y o
    exact if_neg this
  unfold wor
  rw [this]
  simp only [e]
  have e1 : ov (wo y) (some i) = wo y i:=rfl
  have e2 : ov (wv y i v) (some i) = v:=if_pos rfl
  rw [e1,e2]; omega
 ·rw [if_neg hd,Int.add_zero]
  refine cw fun k _ => ?_
  cases ek : m k with
  | none => rfl
  | some o =>
   have : o ≠ i:=fun h => hd ⟨k,by rw [ek,h]⟩
   show wv y i v o = wo y o
   exact if_neg this
def p9 (y : TY) (V0 : Int) (i : Nat) : Prop:=∀ m,Mat (Su y) m → wor y.fB.length (wo y) m = V0 → Dom m i
def lr (y : TY) (V0 : Int) (i : Nat) : Prop:=∀ m,Mat (Su y) m → wor y.fB.length (wo y) m = V0 → ¬ Dom m i
theorem Mat.s1 {y : TY} {m : Nat → Option Nat} (hM : Mat (Su y) m) {i : Nat} (h : ¬ Dom m i) : Mat (S1 y (i : Int)) m:=⟨fun k o e => ⟨hM.suit k o e,fun h2 => h ⟨k,by rw [e]; congr 1; omega⟩⟩,hM.inj⟩
theorem Mat.su {y : TY} {m : Nat → Option Nat} {wi : Int} (hM : Mat (S1 y wi) m) : Mat (Su y) m:=⟨fun k o e => (hM.suit k o e).1,hM.inj⟩
theorem Mat.s1_no {y : TY} {m : Nat → Option Nat} {i : Nat} (hM : Mat (S1 y (i : Int)) m) : ¬ Dom m i:=fun ⟨k,e⟩ => (hM.suit k i e).2 rfl
theorem rJ {y : TY} {i : Nat} {V0 V1 : Int} (h0 : Opt (Su y) (wo y) y.fB.length V0) (h1 : Opt (S1 y (i : Int)) (wo y) y.fB.length V1) : V1 < V0 ↔ p9 y V0 i:=by
 constructor
 ·intro h m hM e
  by_cases hd : Dom m i
  ·exact hd
  ·have:=h1.most m (hM.s1 hd); omega
 ·intro h
  obtain ⟨m,hM,e⟩:=h1.some
  have h2:=h0.most m hM.su
  by_cases e2 : wor y.fB.length (wo y) m = V0
  ·exact absurd (h m hM.su e2) hM.s1_no
  ·omega
def but (m : Nat → Option Nat) (i : Nat) : Nat → Option Nat:=fun k => if m k = some i then none else m k
theorem pc {m : Nat → Option Nat} {i k o : Nat} : but m i k = some o ↔ m k = some o ∧ o ≠ i:=by
 unfold but
 by_cases h : m k = some i
 ·rw [if_pos h]
  exact ⟨fun e => (by cases e),fun ⟨e,ne⟩ => absurd (by rw [h] at e; exact (Option.some.inj e).symm) ne⟩
 ·rw [if_neg h]
  exact ⟨fun e => ⟨e,fun e2 => h (by rw [e,e2])⟩,fun h => h.1⟩
theorem opt_s1 {y : TY} {i : Nat} {V : Int} (h : Opt (Su y) (wv y i 0) y.fB.length V) : Opt (S1 y (i : Int)) (wo y) y.fB.length V:=by
 refine ⟨?_,fun m hM => ?_⟩
 ·obtain ⟨m,hM,e⟩:=h.some
  refine ⟨but m i,⟨fun k o e => by
   obtain ⟨e1,e2⟩:=pc.1 e
   exact ⟨hM.suit k o e1,by omega⟩,fun k k' o e e' => hM.inj k k' o (pc.1 e).1 (pc.1 e').1⟩,?_⟩
  rw [← e]
  refine cw fun k _ => ?_
  unfold but
  cases ek : m k with
  | none => rfl
  | some o =>
   by_cases ho : o = i
   ·rw [ho,if_pos rfl]
    exact (if_pos rfl : wv y i 0 i = 0).symm
   ·rw [if_neg fun e => ho (Option.some.inj e)]
    exact (if_neg ho : wv y i 0 o = wo y o).symm
 ·have h2:=h.most m hM.su
  rw [n5 hM.su,if_neg hM.s1_no] at h2
  omega
theorem never_iff {y : TY} {i : Nat} {V0 VN : Int} (h0 : Opt (Su y) (wo y) y.fB.length V0) (hN : Opt (Su y) (wv y i (wo y i + 1)) y.fB.length VN) : VN = V0 ↔ lr y V0 i:=by
 constructor
 ·intro e m hM e2 hd
  have:=hN.most m hM
  rw [n5 hM,if_pos hd] at this
  omega
 ·intro h
  obtain ⟨m,hM,e⟩:=h0.some
  have h1:=hN.most m hM
  rw [n5 hM,if_neg (h m hM e)] at h1
  obtain ⟨m2,hM2,e2⟩:=hN.some
  have h2:=h0.most m2 hM2
  rw [n5 hM2] at e2
  by_cases hd : Dom m2 i
  ·rw [if_pos hd] at e2
   have h3 : wor y.fB.length (wo y) m2 ≠ V0:=fun h4 => h m2 hM2 h4 hd
   omega
  ·rw [if_neg hd] at e2
   omega
theorem first_iff {y : TY} (hG : Good y) {i : Nat} (hi : i < y.fR.length) {V0 V : Int} (h0 : Opt (Su y) (wo y) y.fB.length V0) (hN : Opt (Su y) (wv y i 1001) y.fB.length (V - wo y i + 1001)) : V < V0 ↔ lr y V0 i:=by
 have hw:=hG.worth hi
 constructor
 ·intro h m hM e2 hd
  have:=hN.most m hM
  rw [n5 hM,if_pos hd] at this
  omega
 ·intro h
  obtain ⟨m2,hM2,e2⟩:=hN.some
  have h2:=h0.most m2 hM2
  rw [n5 hM2] at e2
  by_cases hd : Dom m2 i
  ·rw [if_pos hd] at e2
   have h3 : wor y.fB.length (wo y) m2 ≠ V0:=fun h4 => h m2 hM2 h4 hd
   omega
  ·rw [if_neg hd] at e2
   omega
theorem r8 {y : TY} {i : Nat} (h : ¬ Matchable (Su y) fun x => x = i) (V0 : Int) : lr y V0 i:=fun m hM _ hd => h (Matchable.sub (A:=fun x => Dom m x) ⟨m,hM,fun x => Iff.rfl⟩ fun x hx => by rw [hx]; exact hd)
noncomputable def rf (y : TY) (V0 : Int) : List Int:=ms (jU y.fR.length (oid y) fun k => decide (p9 y V0 k))
noncomputable def never (y : TY) (V0 : Int) : List Int:=ms (jU y.fR.length (oid y) fun k => decide (lr y V0 k))
theorem Surely_ok {y : TY} (hG : Good y) (h9 : y.fR.length ≤ 12) {V0 : Int} (h0 : Opt (Su y) (wo y) y.fB.length V0) : eE y = some (rf y V0,0):=by
 have hy:=hG.fine (by omega)
 unfold eE
 rw [dz,eS.2 hG,oB,if_neg (by simp),rv hy h0,oB]
 have hl:=qN (n:=y.fR.length) (oid y) (fun k => decide (p9 y V0 k)) (body:=cC y V0) (fun k hk L hL => by
  obtain ⟨V,hV,hO⟩:=rF hy hk (v:=0) (by omega) (by omega)
  have e : decide (V < V0) = decide (p9 y V0 k):=by
   exact decide_eq_decide.2 (rJ h0 (opt_s1 hO))
  unfold cC; dsimp only
  rw [fJ (by omega),gPo (by omega)]
  unfold gS
  dsimp only
  rw [hV,oB,oB,e,bc (by omega),eZ,gPo (by omega)]
  by_cases h : p9 y V0 k
  ·rw [if_pos (decide_eq_true h),if_pos (decide_eq_true h)]; rfl
  ·rw [if_neg (by simp [h]),if_neg (by simp [h])]) (fun L => by
  unfold cC; dsimp only
  rw [en (by omega)])
 unfold ep
 rw [hl,oB,te (Nat.le_trans (iK _ _ _) h9)]
 rfl
theorem Never_ok {y : TY} (hG : Good y) (h9 : y.fR.length ≤ 12) {V0 : Int} (h0 : Opt (Su y) (wo y) y.fB.length V0) : fv y = some (never y V0,0):=by
 have hy:=hG.fine (by omega)
 unfold fv
 rw [dz,eS.2 hG,oB,if_neg (by simp),rv hy h0,oB]
 have hl:=qN (n:=y.fR.length) (oid y) (fun k => decide (lr y V0 k)) (body:=cU y V0) (fun k hk L hL => by
  have hw:=hG.worth hk
  obtain ⟨V,hV,hO⟩:=rF hy hk (v:=wo y k + 1) (by omega) (by omega)
  have e : (V == V0) = decide (lr y V0 k):=by
   rw [Bool.eq_iff_iff,beq_iff_eq,decide_eq_true_eq]
   exact never_iff h0 hO
  unfold cU; dsimp only
  rw [fJ (by omega),gPo (by omega)]
  unfold iE
  dsimp only
  rw [eZ,show (oat y k).fW = wo y k from rfl,iB (by omega) (by omega),hV,oB,oB,e,bc (by omega),gPo (by omega)]
  by_cases h : lr y V0 k
  ·rw [if_pos (decide_eq_true h),if_pos (decide_eq_true h)]; rfl
  ·rw [if_neg (by simp [h]),if_neg (by simp [h])]) (fun L => by
  unfold cU; dsimp only
  rw [en (by omega)])
 unfold eU
 rw [hl,oB,te (Nat.le_trans (iK _ _ _) h9)]
 rfl
theorem so {y : TY} (h : jw y ≠ 0) : eE y = some ([],jw y):=by
 unfold eE
 rw [dz,oB,if_pos (by simpa using h)]
theorem Never_bad {y : TY} (h : jw y ≠ 0) : fv y = some ([],jw y):=by
 unfold fv
 rw [dz,oB,if_pos (by simpa using h)]
end Go.Proofs.YthndghnkebboaaaGreat
