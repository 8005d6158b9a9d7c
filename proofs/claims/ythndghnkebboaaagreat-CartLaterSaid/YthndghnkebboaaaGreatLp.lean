import Derived.Test.YthndghnkebboaaaGreatP
import Derived.Test.YthndghnkebboaaaGreatGz
import Derived.Test.YthndghnkebboaaaGreatGk
import Derived.KernelRfl
set_option linter.unusedSimpArgs false
set_option linter.unusedVariables false
namespace Go.Proofs.YthndghnkebboaaaGreat
theorem qB {S T : Type} {body : S → Option (S ⊕ T)} (st : Nat → S) : ∀ (n : Nat),(∀ k,k < n → body (st k) = some (.inl (st (k + 1)))) → aM body (st 0) = aM body (st n)
 | 0,_ => rfl
 | n + 1,h => by rw [qB st n (fun k hk => h k (by omega)),eg (h n (by omega))]
theorem gK {S T : Type} {body : S → Option (S ⊕ T)} (st : Nat → S) (n : Nat) {t : T} (h : ∀ k,k < n → body (st k) = some (.inl (st (k + 1)))) (hs : body (st n) = some (.inr t)) : aM body (st 0) = some t:=by
 rw [qB st n h,bW hs]
theorem fU {S T : Type} {body : S → Option (S ⊕ T)} (st : Nat → S) (n : Nat) (R : Nat → Option T) {t0 : T} (h : ∀ k,k < n → body (st k) = some (match R k with | none => .inl (st (k + 1)) | some t => .inr t)) (hs : body (st n) = some (.inr t0)) :
  aM body (st 0) = some (((List.range n).findSome? R).getD t0):=by
 have key : ∀ c k,k + c = n → aM body (st k) = some (((List.range' k c).findSome? R).getD t0):=by
  intro c
  induction c with
  | zero =>
   intro k hk
   have : k = n:=by omega
   subst this
   rw [bW hs]
   rfl
  | succ c ih =>
   intro k hk
   have hb:=h k (by omega)
   rw [List.range'_succ]
   cases hR : R k with
   | none =>
    rw [hR] at hb
    rw [eg hb,ih (k + 1) (by omega)]
    simp [hR]
   | some t =>
    rw [hR] at hb
    rw [bW hb]
    simp [hR]
 have:=key n 0 (by omega)
 rw [this,List.range_eq_range']
theorem gr {α : Type} {p : Prop} [Decidable p] {x y : α} (h : p) : (if decide p = true then x else y) = x:=by rw [if_pos (decide_eq_true h)]
theorem fj {α : Type} {p : Prop} [Decidable p] {x y : α} (h : ¬p) : (if decide p = true then x else y) = y:=by rw [if_neg (by rw [decide_eq_false h]; exact Bool.false_ne_true)]
theorem d8 {α : Type} [Inhabited α] {xs : List α} {k : Nat} (h : k < xs.length) : rdL xs (k : Int) = xs[k]:=by
 unfold rdL
 rw [Int.toNat_natCast,List.getD_eq_getElem?_getD,List.getElem?_eq_getElem h]
 rfl
theorem bn {k : Nat} (h : k < 9223372036854775807) : w64 ((k : Int) + 1) = ((k + 1 : Nat) : Int):=by
 rw [fq (by omega) (by omega)]; rfl
theorem gi {T : Type} {R : Nat → Option T} {n : Nat} (t0 : T) : ((∀ k,k < n → R k = none) ∧ ((List.range n).findSome? R).getD t0 = t0) ∨ ∃ k t,k < n ∧ R k = some t ∧ (∀ j,j < k → R j = none) ∧ ((List.range n).findSome? R).getD t0 = t:=by
 induction n with
 | zero => exact .inl ⟨fun k hk => by omega,rfl⟩
 | succ n ih =>
  rw [List.range_succ,List.findSome?_append]
  rcases ih with ⟨h1,h2⟩ | ⟨k,t,hk,hR,hj,h2⟩
  ·have h3 : (List.range n).findSome? R = none:=List.findSome?_eq_none_iff.2 (fun x hx => h1 x (List.mem_range.1 hx))
   rw [h3]
   cases hR : R n with
   | none => exact .inl ⟨fun k hk => by
    rcases Nat.lt_or_ge k n with h | h
    ·exact h1 k h
    ·rw [show k = n by omega]; exact hR,by simp [hR]⟩
   | some t => exact .inr ⟨n,t,by omega,hR,h1,by simp [hR]⟩
  ·refine .inr ⟨k,t,by omega,hR,hj,?_⟩
   have h3 : ((List.range n).findSome? R) = some t:=by
    cases hf : (List.range n).findSome? R with
    | none => have:=List.findSome?_eq_none_iff.1 hf k (List.mem_range.2 hk); rw [hR] at this; cases this
    | some u => rw [hf] at h2; exact congrArg some h2
   rw [h3]
   rfl
theorem nw {T : Type} {R : Nat → Option T} {n : Nat} {t0 : T} (h : ∀ k,k < n → R k = none) : ((List.range n).findSome? R).getD t0 = t0:=by
 rw [List.findSome?_eq_none_iff.2 (fun x hx => h x (List.mem_range.1 hx))]; rfl
theorem qc {T : Type} {R : Nat → Option T} {n : Nat} {t0 t : T} (k : Nat) (hk : k < n) (hR : R k = some t) (hj : ∀ j,j < k → R j = none) : ((List.range n).findSome? R).getD t0 = t:=by
 rcases gi (R:=R) (n:=n) t0 with ⟨h,_⟩ | ⟨k',t',hk',hR',hj',h⟩
 ·rw [h k hk] at hR; cases hR
 ·rcases Nat.lt_trichotomy k k' with h' | h' | h'
  ·rw [hj' k h'] at hR; cases hR
  ·subst h'; rw [hR] at hR'; cases hR'; exact h
  ·rw [hj k' h'] at hR'; cases hR'
def kJ {α : Type} [Inhabited α] (l : List α) (q : α → Bool) : Int:=((List.range l.length).findSome? fun k => if q (l.getD k default) = true then some (k : Int) else none).getD (-1)
theorem dh {α : Type} [Inhabited α] {l : List α} {k : Nat} (h : k < l.length) : l.getD k default = l[k]:=by
 rw [List.getD_eq_getElem?_getD,List.getElem?_eq_getElem h]; rfl
theorem gU {α : Type} [Inhabited α] (l : List α) (q : α → Bool) : ((∀ x ∈ l,q x = false) ∧ kJ l q = -1) ∨ ∃ k,∃ h : k < l.length,q l[k] = true ∧ (∀ j,(hj : j < k) → q (l[j]'(by omega)) = false) ∧ kJ l q = (k : Int):=by
 unfold kJ
 rcases gi (R:=fun k => if q (l.getD k default) = true then some (k : Int) else none) (n:=l.length) (-1) with ⟨h,h2⟩ | ⟨k,t,hk,hR,hj,h2⟩
 ·refine .inl ⟨fun x hx => ?_,h2⟩
  obtain ⟨k,hk,rfl⟩:=List.mem_iff_getElem.1 hx
  have:=h k hk
  rw [dh hk] at this
  cases hq : q l[k]
  ·rfl
  ·rw [hq] at this; simp at this
 ·rw [dh hk] at hR
  cases hq : q l[k] with
  | false => rw [hq] at hR; simp at hR
  | true =>
   rw [hq] at hR
   simp only [if_true] at hR
   refine .inr ⟨k,hk,hq,fun j hj' => ?_,h2.trans (Option.some.inj hR).symm⟩
   have:=hj j hj'
   rw [dh (by omega)] at this
   cases hq' : q (l[j]'(by omega))
   ·rfl
   ·rw [hq'] at this; simp at this
theorem mr {α : Type} [Inhabited α] (l : List α) (q : α → Bool) : (match ((List.range l.length).findSome? (fun k => if q (l.getD k default) = true then some (Sum.inl ((k : Int),(k : Int)) : (Int × Int) ⊕ (Int × Int)) else none)).getD (.inr (0,(l.length : Int))) with | .inl u => some u.1 | .inr _ => some (-1)) = some (kJ l q):=by
 unfold kJ
 rcases gi (R:=fun k => if q (l.getD k default) = true then some (Sum.inl ((k : Int),(k : Int)) : (Int × Int) ⊕ (Int × Int)) else none) (n:=l.length) (.inr (0,(l.length : Int))) with ⟨hn,h2⟩ | ⟨k,t,hk,hR,hj,h2⟩
 ·rw [h2,nw (fun k hk => by have:=hn k hk; split at this <;> simp_all)]
 ·rw [h2]
  have hq : q (l.getD k default) = true:=by
   by_cases hq : q (l.getD k default) = true
   ·exact hq
   ·rw [if_neg hq] at hR; cases hR
  rw [if_pos hq] at hR
  cases hR
  rw [qc k hk (by rw [if_pos hq]) (fun j hj' => by have:=hj j hj'; split at this <;> simp_all)]
theorem m5 {α : Type} [Inhabited α] {l : List α} {q : α → Bool} : 0 ≤ kJ l q ↔ ∃ x ∈ l,q x = true:=by
 rcases gU l q with ⟨h,h2⟩ | ⟨k,hk,hq,_,h2⟩
 ·rw [h2]
  exact ⟨fun h => by omega,fun ⟨x,hx,hq⟩ => by rw [h x hx] at hq; cases hq⟩
 ·rw [h2]
  exact ⟨fun _ => ⟨l[k],List.getElem_mem hk,hq⟩,fun _ => by omega⟩
theorem p7 {α : Type} [Inhabited α] (l : List α) (q : α → Bool) : kJ l q < (l.length : Int):=by
 rcases gU l q with ⟨h,h2⟩ | ⟨k,hk,hq,_,h2⟩ <;> omega
theorem lz {α : Type} [Inhabited α] {l : List α} {q : α → Bool} (h : 0 ≤ kJ l q) : q (rdL l (kJ l q)) = true:=by
 rcases gU l q with ⟨_,h2⟩ | ⟨k,hk,hq,_,h2⟩
 ·omega
 ·rw [h2,d8 hk]; exact hq
theorem idxI_mem {α : Type} [Inhabited α] {l : List α} {q : α → Bool} (h : 0 ≤ kJ l q) : rdL l (kJ l q) ∈ l:=by
 rcases gU l q with ⟨_,h2⟩ | ⟨k,hk,hq,_,h2⟩
 ·omega
 ·rw [h2,d8 hk]; exact List.getElem_mem hk
theorem su {α : Type} [Inhabited α] {l : List α} {f : α → Int} (hd : (l.map f).Nodup) {k : Nat} (hk : k < l.length) : kJ l (fun x => f x == f l[k]) = (k : Int):=by
 rcases gU l (fun x => f x == f l[k]) with ⟨h,_⟩ | ⟨j,hj,hq,_,h2⟩
 ·have:=h l[k] (List.getElem_mem hk); simp at this
 ·rw [h2]
  have he : f l[j] = f l[k]:=by simpa using hq
  have hpw:=List.pairwise_iff_getElem.1 hd
  rcases Nat.lt_trichotomy j k with h3 | h3 | h3
  ·have:=hpw j k (by simpa using hj) (by simpa using hk) h3
   simp only [List.getElem_map] at this
   exact absurd he this
  ·rw [h3]
  ·have:=hpw k j (by simpa using hk) (by simpa using hj) h3
   simp only [List.getElem_map] at this
   exact absurd he.symm this
theorem r5 {α : Type} [Inhabited α] {l : List α} {f : α → Int} {k : Nat} (hk : k < l.length) : kJ l (fun x => f x == f l[k]) < (k : Int) ↔ ∃ j,∃ h : j < k,f (l[j]'(by omega)) = f l[k]:=by
 rcases gU l (fun x => f x == f l[k]) with ⟨h,_⟩ | ⟨j,hj,hq,hm,h2⟩
 ·have:=h l[k] (List.getElem_mem hk); simp at this
 ·rw [h2]
  have he : f l[j] = f l[k]:=by simpa using hq
  refine ⟨fun h => ⟨j,by omega,he⟩,fun ⟨i,hi,hie⟩ => ?_⟩
  rcases Nat.lt_or_ge j k with h3 | h3
  ·omega
  ·exfalso
   have:=hm i (by omega)
   rw [hie] at this
   simp at this
theorem jP {α : Type} [Inhabited α] {l : List α} {f : α → Int} : (∀ k,(hk : k < l.length) → ¬ kJ l (fun x => f x == f l[k]) < (k : Int)) ↔ (l.map f).Nodup:=by
 refine ⟨fun h => ?_,fun h k hk => by rw [su h hk]; omega⟩
 rw [List.Nodup,List.pairwise_iff_getElem]
 intro i j hi hj hij
 simp only [List.length_map] at hi hj
 simp only [List.getElem_map]
 intro e
 exact h j hj ((r5 hj).2 ⟨i,hij,e⟩)
theorem ls (x : TSpan) : TSpan.mk x.fLo x.fHi = x:=rfl
theorem j2 (x : TO) : TO.mk x.fID x.fH x.fD x.fW = x:=rfl
theorem mH (x : TBay) : TBay.mk x.fID x.fHour x.fD = x:=rfl
theorem oX {l : List TO} {f : TO → Option Bool} {q : TO → Bool} (hl : l.length < 1000000000) (h : ∀ x ∈ l,f x = some (q x)) : bt l f = some (kJ l q):=by
 unfold bt
 have:=fU (body:=aX l f) (fun k => ((0 : Int),(k : Int))) l.length (fun k => if q (l.getD k default) = true then some (Sum.inl ((k : Int),(k : Int))) else none) (t0:=.inr (0,(l.length : Int))) (fun k hk => by
  have c1 : decide ((k : Int) < ((l.length : Nat) : Int)) = true:=decide_eq_true (by omega)
  have c2 : (0 : Int) ≤ (k : Int) ∧ (k : Int) < ((l.length : Nat) : Int):=by omega
  unfold aX; dsimp only
  simp only [c1,if_true,gPo c2,d8 hk,ls,j2,h _ (List.getElem_mem hk),oB,dh hk,bn (show k < 9223372036854775807 by omega)]
  cases q l[k] <;> rfl) (by
  unfold aX; dsimp only
  rw [fj (by omega)])
 have h0 : aM (aX l f) (0,0) = _:=this
 rw [h0,oB]
 exact mr l q
theorem qf {l : List TBay} {f : TBay → Option Bool} {q : TBay → Bool} (hl : l.length < 1000000000) (h : ∀ x ∈ l,f x = some (q x)) : bH l f = some (kJ l q):=by
 unfold bH
 have:=fU (body:=be l f) (fun k => ((0 : Int),(k : Int))) l.length (fun k => if q (l.getD k default) = true then some (Sum.inl ((k : Int),(k : Int))) else none) (t0:=.inr (0,(l.length : Int))) (fun k hk => by
  have c1 : decide ((k : Int) < ((l.length : Nat) : Int)) = true:=decide_eq_true (by omega)
  have c2 : (0 : Int) ≤ (k : Int) ∧ (k : Int) < ((l.length : Nat) : Int):=by omega
  unfold be; dsimp only
  simp only [c1,if_true,gPo c2,d8 hk,mH,h _ (List.getElem_mem hk),oB,dh hk,bn (show k < 9223372036854775807 by omega)]
  cases q l[k] <;> rfl) (by
  unfold be; dsimp only
  rw [fj (by omega)])
 have h0 : aM (be l f) (0,0) = _:=this
 rw [h0,oB]
 exact mr l q
theorem pS {l : List Int} {f : Int → Option Bool} {q : Int → Bool} (hl : l.length < 1000000000) (h : ∀ x ∈ l,f x = some (q x)) : bw l f = some (kJ l q):=by
 unfold bw
 have:=fU (body:=bf l f) (fun k => ((0 : Int),(k : Int))) l.length (fun k => if q (l.getD k default) = true then some (Sum.inl ((k : Int),(k : Int))) else none) (t0:=.inr (0,(l.length : Int))) (fun k hk => by
  have c1 : decide ((k : Int) < ((l.length : Nat) : Int)) = true:=decide_eq_true (by omega)
  have c2 : (0 : Int) ≤ (k : Int) ∧ (k : Int) < ((l.length : Nat) : Int):=by omega
  unfold bf; dsimp only
  simp only [c1,if_true,gPo c2,d8 hk,h _ (List.getElem_mem hk),oB,dh hk,bn (show k < 9223372036854775807 by omega)]
  cases q l[k] <;> rfl) (by
  unfold bf; dsimp only
  rw [fj (by omega)])
 have h0 : aM (bf l f) (0,0) = _:=this
 rw [h0,oB]
 exact mr l q
theorem jA (n lo hi : Int) : a7 n lo hi = some (decide (lo ≤ n ∧ n ≤ hi)):=by unfold a7; rw [Bool.decide_and]
theorem hour_eq (n : Int) : ef n = some (decide (0 ≤ n ∧ n ≤ 16384)):=by unfold ef; rw [jA]; rfl
theorem gV (n lo hi : Int) : bY n lo hi = some (decide (lo ≤ n ∧ n ≤ hi)):=by unfold bY; rw [Bool.decide_and]
theorem re (n : Int) : fS n = some (decide (0 ≤ n ∧ n ≤ 16384)):=by unfold fS; rw [gV]; rfl
def orderI (y : TY) (id : Int) : Int:=kJ y.fR fun n => n.fID == id
def im (y : TY) (id : Int) : Int:=kJ y.fB fun n => n.fID == id
theorem order_eq {y : TY} (hl : y.fR.length < 1000000000) (id : Int) : gb y id = some (orderI y id):=by
 unfold gb ck
 rw [oX (f:=fun x3 => gw x3 id) (q:=fun x => x.fID == id) hl (fun x _ => rfl)]
 rfl
theorem sZ {y : TY} (hl : y.fB.length < 1000000000) (id : Int) : iq y id = some (im y id):=by
 unfold iq cy
 rw [qf (f:=fun x3 => iR x3 id) (q:=fun x => x.fID == id) hl (fun x _ => rfl)]
 rfl
theorem rbay_eq {y : TY} (hl : y.fB.length < 1000000000) (id : Int) : jH y id = some (im y id):=by
 unfold jH
 have:=fU (body:=eY y id) (fun k => ((0 : Int),(k : Int))) y.fB.length (fun k => if ((y.fB.getD k default).fID == id) = true then some (Sum.inl ((k : Int),(k : Int))) else none) (t0:=.inr (0,(y.fB.length : Int))) (fun k hk => by
  have c1 : decide ((k : Int) < ((y.fB.length : Nat) : Int)) = true:=decide_eq_true (by omega)
  have c2 : (0 : Int) ≤ (k : Int) ∧ (k : Int) < ((y.fB.length : Nat) : Int):=by omega
  unfold eY; dsimp only
  simp only [c1,if_true,gPo c2,d8 hk,dh hk,bn (show k < 9223372036854775807 by omega)]
  cases (y.fB[k].fID == id) <;> rfl) (by
  unfold eY; dsimp only
  rw [fj (by omega)])
 have h0 : aM (eY y id) (0,0) = _:=this
 rw [h0,oB]
 exact mr y.fB fun n => n.fID == id
set_option linter.unusedSimpArgs false
open Classical
def sm : Nat → (Nat → Int) → Int
 | 0,_ => 0
 | n + 1,f => sm n f + f n
theorem cx {f g : Nat → Int} : ∀ {n : Nat},(∀ i,i < n → f i = g i) → sm n f = sm n g
 | 0,_ => rfl
 | n + 1,h => by unfold sm; rw [cx fun i hi => h i (by omega),h n (by omega)]
theorem mP {f g : Nat → Int} : ∀ {n : Nat},(∀ i,i < n → f i ≤ g i) → sm n f ≤ sm n g
 | 0,_ => Int.le_refl _
 | n + 1,h => by
  have h1:=mP (f:=f) (g:=g) (n:=n) fun i hi => h i (by omega)
  have h2:=h n (by omega)
  unfold sm; omega
theorem sm_add (f g : Nat → Int) : ∀ n,sm n (fun i => f i + g i) = sm n f + sm n g
 | 0 => rfl
 | n + 1 => by have:=sm_add f g n; unfold sm; dsimp only; omega
theorem sm_sub (f g : Nat → Int) : ∀ n,sm n (fun i => f i - g i) = sm n f - sm n g
 | 0 => rfl
 | n + 1 => by have:=sm_sub f g n; unfold sm; dsimp only; omega
theorem o4 : ∀ {n : Nat} {f : Nat → Int},(∀ i,i < n → f i = 0) → sm n f = 0
 | 0,_,_ => rfl
 | n + 1,f,h => by have h1:=o4 (n:=n) (f:=f) fun i hi => h i (by omega); have h2:=h n (by omega); unfold sm; omega
theorem pC {n : Nat} {f : Nat → Int} (h : ∀ i,i < n → 0 ≤ f i) : 0 ≤ sm n f:=by
 have:=mP (f:=fun _ => 0) h
 rwa [o4 (f:=fun _ => 0) fun _ _ => rfl] at this
theorem jv {f g : Nat → Int} {k : Nat} : ∀ {n : Nat},k < n → (∀ i,i < n → i ≠ k → g i = f i) → sm n g = sm n f - f k + g k
 | 0,h,_ => by omega
 | n + 1,h,he => by
  unfold sm
  rcases Nat.lt_or_ge k n with hk | hk
  ·have:=jv hk (fun i hi => he i (by omega))
   have h2:=he n (by omega) (by omega)
   omega
  ·have hkn : k = n:=by omega
   subst hkn
   rw [cx (f:=g) (g:=f) fun i hi => he i (by omega) (by omega)]
   omega
theorem sm_lt {f g : Nat → Int} {n k : Nat} (hk : k < n) (h : ∀ i,i < n → f i ≤ g i) (hlt : f k < g k) : sm n f < sm n g:=by
 have h1 : sm n (fun i => if i = k then f k else g i) ≤ sm n g:=mP fun i hi => by
  split
  ·rename_i e; subst e; omega
  ·exact Int.le_refl _
 have h2 : sm n f ≤ sm n (fun i => if i = k then f k else g i):=mP fun i hi => by
  split
  ·rename_i e; subst e; exact Int.le_refl _
  ·exact h i hi
 have h3:=jv (f:=g) (g:=fun i => if i = k then f k else g i) hk (fun i _ hi => by simp only [if_neg hi])
 simp only [if_pos] at h3
 omega
def shf (k j : Nat) : Nat:=if j < k then j else j + 1
def uns (k j : Nat) : Nat:=if j < k then j else j - 1
theorem shf_ne (k j : Nat) : shf k j ≠ k:=by unfold shf; split <;> omega
theorem qi (k j : Nat) : uns k (shf k j) = j:=by
 unfold uns shf
 by_cases h : j < k
 ·rw [if_pos h,if_pos h]
 ·rw [if_neg h,if_neg (by omega)]; omega
theorem pP {k j : Nat} (h : j ≠ k) : shf k (uns k j) = j:=by
 unfold uns shf
 by_cases h' : j < k
 ·rw [if_pos h',if_pos h']
 ·rw [if_neg h',if_neg (by omega)]; omega
theorem pQ (f : Nat → Int) (k : Nat) : ∀ n,k ≤ n → sm (n + 1) f = sm n (fun j => f (shf k j)) + f k
 | 0,h => by
  have : k = 0:=by omega
  subst this; rfl
 | n + 1,h => by
  rcases Nat.lt_or_ge k (n + 1) with hk | hk
  ·have:=pQ f k n (by omega)
   show sm (n + 1) f + f (n + 1) = (sm n (fun j => f (shf k j)) + f (shf k n)) + f k
   have e : shf k n = n + 1:=by unfold shf; rw [if_neg (by omega)]
   rw [e]; omega
  ·have hkn : k = n + 1:=by omega
   subst hkn
   show sm (n + 1) f + f (n + 1) = _
   rw [cx (n:=n + 1) (f:=fun j => f (shf (n + 1) j)) (g:=f) fun i hi => by unfold shf; rw [if_pos (by omega)]]
theorem min_ex {P : Nat → Prop} {f : Nat → Int} (hf : ∀ k,0 ≤ f k) : ∀ (m k : Nat),P k → f k ≤ (m : Int) → ∃ k,P k ∧ ∀ k',P k' → f k ≤ f k'
 | 0,k,hk,hm => ⟨k,hk,fun k' _ => by have:=hf k'; omega⟩
 | m + 1,k,hk,hm => by
  by_cases h : ∃ k',P k' ∧ f k' ≤ (m : Int)
  ·obtain ⟨k',h1,h2⟩:=h
   exact min_ex hf m k' h1 h2
  ·refine ⟨k,hk,fun k' hk' => ?_⟩
   have : ¬ f k' ≤ (m : Int):=fun hc => h ⟨k',hk',hc⟩
   omega
structure Mat (S : Nat → Nat → Prop) (h : Nat → Option Nat) : Prop where
 suit : ∀ k o,h k = some o → S o k
 inj : ∀ k k' o,h k = some o → h k' = some o → k = k'
def Dom (h : Nat → Option Nat) (o : Nat) : Prop:=∃ k,h k = some o
def ov (g : Nat → Int) : Option Nat → Int
 | none => 0
 | some o => g o
structure Fit (S : Nat → Nat → Prop) (nB nO : Nat) : Prop where
 bay : ∀ o k,S o k → k < nB
 ord : ∀ o k,S o k → o < nO
theorem sN {nO : Nat} {h : Nat → Option Nat} {g : Nat → Int} (hi : ∀ k k' o,h k = some o → h k' = some o → k = k') (ho : ∀ k o,h k = some o → o < nO) : ∀ n,sm n (fun k => ov g (h k)) = sm nO (fun o => if ∃ k,k < n ∧ h k = some o then g o else 0)
 | 0 => by
  rw [o4 (n:=nO) fun o _ => if_neg (fun ⟨k,hk,_⟩ => by omega)]
  rfl
 | n + 1 => by
  have ih:=sN (nO:=nO) (g:=g) hi ho n
  show sm n (fun k => ov g (h k)) + ov g (h n) = _
  rw [ih]
  cases hn : h n with
  | none =>
   show _ + (0 : Int) = _
   rw [Int.add_zero]
   refine cx fun o _ => ?_
   have : (∃ k,k < n ∧ h k = some o) ↔ (∃ k,k < n + 1 ∧ h k = some o):=⟨fun ⟨k,hk,e⟩ => ⟨k,by omega,e⟩,fun ⟨k,hk,e⟩ => ⟨k,by
    rcases Nat.lt_or_ge k n with h' | h'
    ·exact ⟨h',e⟩
    ·have : k = n:=by omega
     subst this; rw [hn] at e; cases e⟩⟩
   by_cases hc : ∃ k,k < n ∧ h k = some o
   ·rw [if_pos hc,if_pos (this.1 hc)]
   ·rw [if_neg hc,if_neg (fun hh => hc (this.2 hh))]
  | some x =>
   have hx:=ho n x hn
   have hnx : ¬ ∃ k,k < n ∧ h k = some x:=fun ⟨k,hk,e⟩ => by have:=hi k n x e hn; omega
   have e:=jv (f:=fun o => if ∃ k,k < n ∧ h k = some o then g o else 0) (g:=fun o => if ∃ k,k < n + 1 ∧ h k = some o then g o else 0) hx (fun o _ hne => by
    have : (∃ k,k < n ∧ h k = some o) ↔ (∃ k,k < n + 1 ∧ h k = some o):=⟨fun ⟨k,hk,e⟩ => ⟨k,by omega,e⟩,fun ⟨k,hk,e⟩ => ⟨k,by
     rcases Nat.lt_or_ge k n with h' | h'
     ·exact ⟨h',e⟩
     ·have : k = n:=by omega
      subst this; rw [hn] at e; cases e; exact absurd rfl hne⟩⟩
    by_cases hc : ∃ k,k < n ∧ h k = some o
    ·simp only [if_pos hc,if_pos (this.1 hc)]
    ·simp only [if_neg hc,if_neg (fun hh => hc (this.2 hh))])
   rw [e]
   simp only [if_neg hnx,if_pos (show ∃ k,k < n + 1 ∧ h k = some x from ⟨n,by omega,hn⟩)]
   show _ + g x = _
   omega
theorem bij {S : Nat → Nat → Prop} {nB nO : Nat} (hF : Fit S nB nO) {h : Nat → Option Nat} (hM : Mat S h) (g : Nat → Int) : sm nB (fun k => ov g (h k)) = sm nO (fun o => if Dom h o then g o else 0):=by
 rw [sN (nO:=nO) (g:=g) hM.inj (fun k o e => hF.ord o k (hM.suit k o e)) nB]
 refine cx fun o _ => ?_
 have : (∃ k,k < nB ∧ h k = some o) ↔ Dom h o:=⟨fun ⟨k,_,e⟩ => ⟨k,e⟩,fun ⟨k,e⟩ => ⟨k,hF.bay o k (hM.suit k o e),e⟩⟩
 by_cases hc : Dom h o
 ·rw [if_pos hc,if_pos (this.2 hc)]
 ·rw [if_neg hc,if_neg (fun hh => hc (this.1 hh))]
noncomputable def off (p : Prop) : Int:=if p then 0 else 1
theorem sj {p : Prop} (h : p) : off p = 0:=if_pos h
theorem sV {p : Prop} (h : ¬ p) : off p = 1:=if_neg h
theorem kY (p : Prop) : (p ∧ off p = 0) ∨ (¬ p ∧ off p = 1):=by
 by_cases h : p
 ·exact .inl ⟨h,sj h⟩
 ·exact .inr ⟨h,sV h⟩
noncomputable def unt (nB : Nat) (T : Nat → Prop) : Int:=sm nB fun k => off (T k)
theorem f0 (nB : Nat) (T : Nat → Prop) : 0 ≤ unt nB T:=pC fun i _ => by rcases kY (T i) with ⟨_,h⟩ | ⟨_,h⟩ <;> omega
theorem qS {p q : Prop} (h : p → q) : off q ≤ off p:=by
 rcases kY p with ⟨h1,e1⟩ | ⟨h1,e1⟩ <;> rcases kY q with ⟨h2,e2⟩ | ⟨h2,e2⟩ <;> first | omega | exact absurd (h h1) h2
theorem sr {nB : Nat} {T T' : Nat → Prop} (h : ∀ k,T k → T' k) : unt nB T' ≤ unt nB T:=mP fun k _ => qS (h k)
theorem unt_lt {nB : Nat} {T T' : Nat → Prop} {k : Nat} (hk : k < nB) (h : ∀ k,T k → T' k) (h1 : ¬ T k) (h2 : T' k) : unt nB T' < unt nB T:=sm_lt hk (fun k _ => qS (h k)) (by rw [sV h1,sj h2]; omega)
theorem pV {nB : Nat} {T : Nat → Prop} {k : Nat} (hk : k < nB) (h1 : ¬ T k) : unt nB (fun j => T j ∨ j = k) = unt nB T - 1:=by
 have h0 : sm nB (fun j => off (T j ∨ j = k)) = sm nB (fun j => off (T j)) - off (T k) + off (T k ∨ k = k):=jv (f:=fun j => off (T j)) (g:=fun j => off (T j ∨ j = k)) hk (fun i _ hi => by
  by_cases h : T i
  ·rw [sj h,sj (.inl h)]
  ·rw [sV h,sV fun hh => hh.elim h hi])
 rw [sV h1,sj (Or.inr rfl)] at h0
 show sm nB (fun j => off (T j ∨ j = k)) = sm nB (fun j => off (T j)) - 1
 omega
structure MatX (S : Nat → Nat → Prop) (T : Nat → Prop) (h : Nat → Option Nat) : Prop where
 suit : ∀ k o,¬ T k → h k = some o → S o k
 inj : ∀ k k' o,¬ T k → ¬ T k' → h k = some o → h k' = some o → k = k'
def rD (T : Nat → Prop) (h : Nat → Option Nat) (o : Nat) : Prop:=∃ k,¬ T k ∧ h k = some o
structure AugY (S : Nat → Nat → Prop) (T : Nat → Prop) (o : Nat) (h h' : Nat → Option Nat) : Prop where
 keep : ∀ k,T k → h' k = h k
 mat : MatX S T h'
 dom : ∀ x,rD T h' x ↔ x = o ∨ rD T h x
structure AugN (S : Nat → Nat → Prop) (T T' : Nat → Prop) (o : Nat) (h : Nat → Option Nat) : Prop where
 sub : ∀ k,T k → T' k
 shut : ∀ k,T' k → ¬ T k → ∃ x,h k = some x ∧ ∀ k',S x k' → T' k'
 own : ∀ k',S o k' → T' k'
theorem MatX.more {S : Nat → Nat → Prop} {T T' : Nat → Prop} {h : Nat → Option Nat} (hM : MatX S T h) (hs : ∀ k,T k → T' k) : MatX S T' h :=
 ⟨fun k o hk e => hM.suit k o (fun ht => hk (hs k ht)) e,fun k k' o hk hk' e e' => hM.inj k k' o (fun ht => hk (hs k ht)) (fun ht => hk' (hs k' ht)) e e'⟩
theorem qr {S : Nat → Nat → Prop} {T : Nat → Prop} {o k : Nat} {h : Nat → Option Nat} (hM : MatX S T h) (hk : ¬ T k) (hS : S o k) (hn : h k = none) (ho : ¬ rD T h o) : AugY S T o h (fun j => if j = k then some o else h j) where
 keep:=fun j hj => if_neg (fun (e : j = k) => hk (e ▸ hj))
 mat:=by
  refine ⟨fun j x hj e => ?_,fun j j' x hj hj' e e' => ?_⟩
  ·by_cases hjk : j = k
   ·subst hjk; simp only [if_pos rfl] at e; cases e; exact hS
   ·simp only [if_neg hjk] at e; exact hM.suit j x hj e
  ·by_cases hjk : j = k <;> by_cases hjk' : j' = k
   ·rw [hjk,hjk']
   ·subst hjk
    simp only [if_pos rfl] at e
    simp only [if_neg hjk'] at e'
    cases e
    exact absurd ⟨j',hj',e'⟩ ho
   ·subst hjk'
    simp only [if_pos rfl] at e'
    simp only [if_neg hjk] at e
    cases e'
    exact absurd ⟨j,hj,e⟩ ho
   ·simp only [if_neg hjk] at e
    simp only [if_neg hjk'] at e'
    exact hM.inj j j' x hj hj' e e'
 dom:=fun x => by
  refine ⟨fun ⟨j,hj,e⟩ => ?_,fun hx => ?_⟩
  ·by_cases hjk : j = k
   ·simp only [if_pos hjk] at e; cases e; exact .inl rfl
   ·simp only [if_neg hjk] at e; exact .inr ⟨j,hj,e⟩
  ·rcases hx with rfl | ⟨j,hj,e⟩
   ·exact ⟨k,hk,if_pos rfl⟩
   ·refine ⟨j,hj,?_⟩
    have : j ≠ k:=fun e' => by subst e'; rw [hn] at e; cases e
    simp only [if_neg this]; exact e
theorem pq {S : Nat → Nat → Prop} {T : Nat → Prop} {o k x : Nat} {h h' : Nat → Option Nat} (hM : MatX S T h) (hk : ¬ T k) (hS : S o k) (hx : h k = some x) (ho : ¬ rD T h o) (hA : AugY S (fun j => T j ∨ j = k) x h h') : AugY S T o h (fun j => if j = k then some o else h' j):=by
 have hd : ∀ z,(∃ j,¬ (T j ∨ j = k) ∧ h' j = some z) ↔ rD T h z:=fun z => by
  refine (hA.dom z).trans ⟨fun hz => ?_,fun ⟨j,hj,e⟩ => ?_⟩
  ·rcases hz with rfl | ⟨j,hj,e⟩
   ·exact ⟨k,hk,hx⟩
   ·exact ⟨j,fun ht => hj (.inl ht),e⟩
  ·by_cases hjk : j = k
   ·subst hjk; rw [hx] at e; cases e; exact .inl rfl
   ·exact .inr ⟨j,fun ht => ht.elim hj hjk,e⟩
 have hno : ∀ j,¬ T j → j ≠ k → h' j ≠ some o:=fun j hj hjk e => ho ((hd o).1 ⟨j,fun ht => ht.elim hj hjk,e⟩)
 refine ⟨fun j hj => ?_,⟨fun j z hj e => ?_,fun j j' z hj hj' e e' => ?_⟩,fun z => ⟨fun ⟨j,hj,e⟩ => ?_,fun hz => ?_⟩⟩
 ·have : j ≠ k:=fun e => hk (e ▸ hj)
  simp only [if_neg this]
  exact hA.keep j (.inl hj)
 ·by_cases hjk : j = k
  ·subst hjk; simp only [if_pos rfl] at e; cases e; exact hS
  ·simp only [if_neg hjk] at e; exact hA.mat.suit j z (fun ht => ht.elim hj hjk) e
 ·by_cases hjk : j = k <;> by_cases hjk' : j' = k
  ·rw [hjk,hjk']
  ·simp only [if_pos hjk] at e
   simp only [if_neg hjk'] at e'
   cases e
   exact absurd e' (hno j' hj' hjk')
  ·simp only [if_pos hjk'] at e'
   simp only [if_neg hjk] at e
   cases e'
   exact absurd e (hno j hj hjk)
  ·simp only [if_neg hjk] at e
   simp only [if_neg hjk'] at e'
   exact hA.mat.inj j j' z (fun ht => ht.elim hj hjk) (fun ht => ht.elim hj' hjk') e e'
 ·by_cases hjk : j = k
  ·simp only [if_pos hjk] at e; cases e; exact .inl rfl
  ·simp only [if_neg hjk] at e; exact .inr ((hd z).1 ⟨j,fun ht => ht.elim hj hjk,e⟩)
 ·rcases hz with rfl | hz
  ·exact ⟨k,hk,if_pos rfl⟩
  ·obtain ⟨j,hj,e⟩:=(hd z).2 hz
   have hjk : j ≠ k:=fun e' => hj (.inr e')
   exact ⟨j,fun ht => hj (.inl ht),by simp only [if_neg hjk]; exact e⟩
theorem oT {S : Nat → Nat → Prop} {T T1 : Nat → Prop} {o : Nat} {h h' : Nat → Option Nat} (hM : MatX S T h) (hs : ∀ k,T k → T1 k) (ho : ¬ rD T h o) (hA : AugY S T1 o h h') : AugY S T o h h':=by
 have hk1 : ∀ k z,T1 k → ¬ T k → h' k = some z → ∀ k',¬ T1 k' → h' k' = some z → False:=fun k z ht hn e k' ht' e' => by
  rw [hA.keep k ht] at e
  rcases (hA.dom z).1 ⟨k',ht',e'⟩ with rfl | ⟨j,hj,ej⟩
  ·exact ho ⟨k,hn,e⟩
  ·have:=hM.inj k j z hn (fun t => hj (hs j t)) e ej
   subst this
   exact hj ht
 refine ⟨fun k hk => hA.keep k (hs k hk),⟨fun k z hk e => ?_,fun k k' z hk hk' e e' => ?_⟩,fun z => ⟨fun ⟨k,hk,e⟩ => ?_,fun hz => ?_⟩⟩
 ·by_cases ht : T1 k
  ·rw [hA.keep k ht] at e; exact hM.suit k z hk e
  ·exact hA.mat.suit k z ht e
 ·by_cases ht : T1 k <;> by_cases ht' : T1 k'
  ·rw [hA.keep k ht] at e; rw [hA.keep k' ht'] at e'; exact hM.inj k k' z hk hk' e e'
  ·exact (hk1 k z ht hk e k' ht' e').elim
  ·exact (hk1 k' z ht' hk' e' k ht e).elim
  ·exact hA.mat.inj k k' z ht ht' e e'
 ·by_cases ht : T1 k
  ·rw [hA.keep k ht] at e; exact .inr ⟨k,hk,e⟩
  ·rcases (hA.dom z).1 ⟨k,ht,e⟩ with rfl | ⟨j,hj,ej⟩
   ·exact .inl rfl
   ·exact .inr ⟨j,fun t => hj (hs j t),ej⟩
 ·rcases hz with rfl | ⟨k,hk,e⟩
  ·obtain ⟨k,hk,e⟩:=(hA.dom z).2 (.inl rfl)
   exact ⟨k,fun t => hk (hs k t),e⟩
  ·by_cases ht : T1 k
   ·exact ⟨k,hk,by rw [hA.keep k ht]; exact e⟩
   ·obtain ⟨j,hj,ej⟩:=(hA.dom z).2 (.inr ⟨k,ht,e⟩)
    exact ⟨j,fun t => hj (hs j t),ej⟩
theorem aug {S : Nat → Nat → Prop} {nB : Nat} (hB : ∀ o k,S o k → k < nB) : ∀ (u : Nat) (T : Nat → Prop) (o : Nat) (h : Nat → Option Nat),unt nB T ≤ (u : Int) → MatX S T h → ¬ rD T h o → (∃ h',AugY S T o h h') ∨ ∃ T',AugN S T T' o h:=by
 intro u
 induction u with
 | zero =>
  intro T o h hu hM ho
  refine .inr ⟨T,fun _ h => h,fun k h1 h2 => absurd h1 h2,fun k hS => ?_⟩
  by_cases hk : T k
  ·exact hk
  ·have h1:=pV (hB o k hS) hk
   have h2:=f0 nB (fun j => T j ∨ j = k)
   omega
 | succ u ih =>
  intro T o h hu hM ho
  by_cases hex : ∃ k,¬ T k ∧ S o k
  ·obtain ⟨k,hk,hS⟩:=hex
   cases hn : h k with
   | none => exact .inl ⟨_,qr hM hk hS hn ho⟩
   | some x =>
    have h1:=pV (hB o k hS) hk
    have hM1 : MatX S (fun j => T j ∨ j = k) h:=hM.more fun j hj => .inl hj
    have hx1 : ¬ rD (fun j => T j ∨ j = k) h x:=fun ⟨j,hj,e⟩ => hj (.inr (hM.inj j k x (fun t => hj (.inl t)) hk e hn))
    rcases ih (fun j => T j ∨ j = k) x h (by omega) hM1 hx1 with ⟨h',hA⟩ | ⟨T',hA⟩
    ·exact .inl ⟨_,pq hM hk hS hn ho hA⟩
    ·have hu' : unt nB T' ≤ (u : Int):=by have:=sr (nB:=nB) hA.sub; omega
     have hsub : ∀ j,T j → T' j:=fun j hj => hA.sub j (.inl hj)
     rcases ih T' o h hu' (hM.more hsub) (fun ⟨j,hj,e⟩ => ho ⟨j,fun t => hj (hsub j t),e⟩) with ⟨h',hA'⟩ | ⟨T'',hA'⟩
     ·exact .inl ⟨h',oT hM hsub ho hA'⟩
     ·refine .inr ⟨T'',fun j hj => hA'.sub j (hsub j hj),fun j hj hnj => ?_,hA'.own⟩
      by_cases hj' : T' j
      ·by_cases hjk : j = k
       ·subst hjk
        exact ⟨x,hn,fun k' hk' => hA'.sub k' (hA.own k' hk')⟩
       ·obtain ⟨z,e,hz⟩:=hA.shut j hj' (fun t => t.elim hnj hjk)
        exact ⟨z,e,fun k' hk' => hA'.sub k' (hz k' hk')⟩
      ·exact hA'.shut j hj hj'
  ·exact .inr ⟨T,fun _ h => h,fun k h1 h2 => absurd h1 h2,fun k hS => by
    by_cases hk : T k
    ·exact hk
    ·exact absurd ⟨k,hk,hS⟩ hex⟩
structure Shut (S : Nat → Nat → Prop) (C : Nat → Prop) (h : Nat → Option Nat) : Prop where
 shut : ∀ k,C k → ∃ x,h k = some x ∧ ∀ k',S x k' → C k'
theorem Mat.x {S : Nat → Nat → Prop} {h : Nat → Option Nat} (hM : Mat S h) : MatX S (fun _ => False) h:=⟨fun k o _ e => hM.suit k o e,fun k k' o _ _ e e' => hM.inj k k' o e e'⟩
theorem k7 {h : Nat → Option Nat} {o : Nat} : rD (fun _ => False) h o ↔ Dom h o:=⟨fun ⟨k,_,e⟩ => ⟨k,e⟩,fun ⟨k,e⟩ => ⟨k,id,e⟩⟩
theorem AugY.mat0 {S : Nat → Nat → Prop} {o : Nat} {h h' : Nat → Option Nat} (hA : AugY S (fun _ => False) o h h') : Mat S h':=⟨fun k o e => hA.mat.suit k o id e,fun k k' o e e' => hA.mat.inj k k' o id id e e'⟩
theorem AugY.dom0 {S : Nat → Nat → Prop} {o : Nat} {h h' : Nat → Option Nat} (hA : AugY S (fun _ => False) o h h') (x : Nat) : Dom h' x ↔ x = o ∨ Dom h x:=by rw [← k7,← k7]; exact hA.dom x
theorem AugN.shut0 {S : Nat → Nat → Prop} {T' : Nat → Prop} {o : Nat} {h : Nat → Option Nat} (hA : AugN S (fun _ => False) T' o h) : Shut S T' h:=⟨fun k hk => hA.shut k hk id⟩
theorem aug0 {S : Nat → Nat → Prop} {nB nO : Nat} (hF : Fit S nB nO) {h : Nat → Option Nat} (hM : Mat S h) {o : Nat} (ho : ¬ Dom h o) : (∃ h',Mat S h' ∧ ∀ x,Dom h' x ↔ x = o ∨ Dom h x) ∨ ∃ C,Shut S C h ∧ ∀ k,S o k → C k:=by
 rcases aug hF.bay (unt nB fun _ => False).toNat (fun _ => False) o h (by have:=f0 nB fun _ => False; omega) hM.x (fun hd => ho (k7.1 hd)) with ⟨h',hA⟩ | ⟨T',hA⟩
 ·exact .inl ⟨h',hA.mat0,hA.dom0⟩
 ·exact .inr ⟨T',hA.shut0,hA.own⟩
theorem filled {S : Nat → Nat → Prop} {nB nO : Nat} (hF : Fit S nB nO) {h h2 : Nat → Option Nat} (hM : Mat S h) {C : Nat → Prop} (hC : Shut S C h) (hM2 : Mat S h2) (hX : ∀ k x,C k → h k = some x → Dom h2 x) : ∀ k,C k → ∃ x,h2 k = some x ∧ ∃ k1,C k1 ∧ h k1 = some x:=by
 let X : Nat → Prop:=fun x => ∃ k1,C k1 ∧ h k1 = some x
 have e1:=bij hF hM (fun o => if X o then 1 else 0)
 have e2:=bij hF hM2 (fun o => if X o then 1 else 0)
 have e3 : sm nO (fun o => if Dom h o then (if X o then (1 : Int) else 0) else 0) = sm nO (fun o => if Dom h2 o then (if X o then (1 : Int) else 0) else 0):=cx fun o _ => by
  by_cases hx : X o
  ·obtain ⟨k1,hk1,e⟩:=hx
   rw [if_pos ⟨k1,e⟩,if_pos (hX k1 o hk1 e)]
  ·simp only [if_neg hx]
   split <;> split <;> rfl
 have e4 : ∀ k,ov (fun o => if X o then (1 : Int) else 0) (h k) = if C k then 1 else 0:=fun k => by
  by_cases hk : C k
  ·obtain ⟨x,e,_⟩:=hC.shut k hk
   rw [e,if_pos hk]
   exact if_pos ⟨k,hk,e⟩
  ·rw [if_neg hk]
   cases e : h k with
   | none => rfl
   | some x => exact if_neg fun ⟨k1,hk1,e1⟩ => hk (hM.inj k1 k x e1 e ▸ hk1)
 have e5 : ∀ k,ov (fun o => if X o then (1 : Int) else 0) (h2 k) ≤ ov (fun o => if X o then (1 : Int) else 0) (h k):=fun k => by
  rw [e4]
  cases e : h2 k with
  | none => show (0 : Int) ≤ _; split <;> omega
  | some x =>
   show (if X x then (1 : Int) else 0) ≤ _
   by_cases hx : X x
   ·obtain ⟨k1,hk1,e1⟩:=hx
    obtain ⟨x',e',hs⟩:=hC.shut k1 hk1
    rw [e1] at e'; cases e'
    rw [if_pos (hs k (hM2.suit k x e)),if_pos (show X x from ⟨k1,hk1,e1⟩)]
    omega
   ·rw [if_neg hx]; split <;> omega
 intro k hk
 obtain ⟨x0,e0,_⟩:=hC.shut k hk
 have hkB : k < nB:=hF.bay x0 k (hM.suit k x0 e0)
 by_cases hlt : ov (fun o => if X o then (1 : Int) else 0) (h2 k) < ov (fun o => if X o then (1 : Int) else 0) (h k)
 ·have:=sm_lt hkB (fun i _ => e5 i) hlt
  omega
 ·rw [e4,if_pos hk] at hlt
  cases e : h2 k with
  | none => rw [e] at hlt; exact absurd (show (0 : Int) < 1 by omega) hlt
  | some x =>
   rw [e] at hlt
   by_cases hx : X x
   ·exact ⟨x,rfl,hx⟩
   ·exfalso
    apply hlt
    show (if X x then (1 : Int) else 0) < 1
    rw [if_neg hx]; omega
def Matchable (S : Nat → Nat → Prop) (A : Nat → Prop) : Prop:=∃ h,Mat S h ∧ ∀ x,Dom h x ↔ A x
theorem lg {S : Nat → Nat → Prop} {nB nO : Nat} (hF : Fit S nB nO) {h : Nat → Option Nat} (hM : Mat S h) {C : Nat → Prop} (hC : Shut S C h) {o : Nat} (ho : ¬ Dom h o) (hs : ∀ k,S o k → C k) {A : Nat → Prop} (hA : ∀ x,(x = o ∨ ∃ k,C k ∧ h k = some x) → A x) : ¬ Matchable S A:=by
 rintro ⟨h2,hM2,hd⟩
 have hf:=filled hF hM hC hM2 (fun k x hk e => (hd x).2 (hA x (.inr ⟨k,hk,e⟩)))
 obtain ⟨k,e⟩:=(hd o).2 (hA o (.inl rfl))
 obtain ⟨x,e',k1,hk1,e1⟩:=hf k (hs k (hM2.suit k o e))
 rw [e] at e'; cases e'
 exact ho ⟨k1,e1⟩
theorem Matchable.sub {S : Nat → Nat → Prop} {A B : Nat → Prop} (hA : Matchable S A) (hB : ∀ x,B x → A x) : Matchable S B:=by
 obtain ⟨h,hM,hd⟩:=hA
 refine ⟨fun k => match h k with | none => none | some x => if B x then some x else none,⟨fun k o e => ?_,fun k k' o e e' => ?_⟩,fun x => ⟨fun ⟨k,e⟩ => ?_,fun hx => ?_⟩⟩
 ·cases hk : h k with
  | none => simp only [hk] at e; cases e
  | some x =>
   simp only [hk] at e
   split at e
   ·cases e; exact hM.suit k _ hk
   ·cases e
 ·cases hk : h k with
  | none => simp only [hk] at e; cases e
  | some x =>
   cases hk' : h k' with
   | none => simp only [hk'] at e'; cases e'
   | some x' =>
    simp only [hk] at e
    simp only [hk'] at e'
    split at e
    ·split at e'
     ·cases e; cases e'; exact hM.inj k k' _ hk hk'
     ·cases e'
    ·cases e
 ·cases hk : h k with
  | none => simp only [hk] at e; cases e
  | some z =>
   simp only [hk] at e
   split at e
   ·cases e; assumption
   ·cases e
 ·obtain ⟨k,e⟩:=(hd x).2 (hB x hx)
  exact ⟨k,by simp only [e]; exact if_pos hx⟩
set_option linter.unusedSimpArgs false
open Classical
def wor (nB : Nat) (w : Nat → Int) (h : Nat → Option Nat) : Int:=sm nB fun k => ov w (h k)
structure Opt (S : Nat → Nat → Prop) (w : Nat → Int) (nB : Nat) (V : Int) : Prop where
 some : ∃ h,Mat S h ∧ wor nB w h = V
 most : ∀ h,Mat S h → wor nB w h ≤ V
theorem Opt.unique {S : Nat → Nat → Prop} {w : Nat → Int} {nB : Nat} {V V' : Int} (h : Opt S w nB V) (h' : Opt S w nB V') : V = V':=by
 obtain ⟨a,ha,ea⟩:=h.some
 obtain ⟨b,hb,eb⟩:=h'.some
 have h1:=h'.most a ha
 have h2:=h.most b hb
 omega
structure Cert (S : Nat → Nat → Prop) (w : Nat → Int) (L : Nat → Prop) (i : Nat) : Prop where
 out : ∃ h C,Mat S h ∧ (∀ x,Dom h x → L x) ∧ Shut S C h ∧ (∀ k,S i k → C k) ∧ ∀ k x,C k → h k = some x → w i ≤ w x
theorem Cert.more {S : Nat → Nat → Prop} {w : Nat → Int} {L L' : Nat → Prop} {i : Nat} (hc : Cert S w L i) (hs : ∀ x,L x → L' x) : Cert S w L' i:=by
 obtain ⟨h,C,h1,h2,h3,h4,h5⟩:=hc.out
 exact ⟨h,C,h1,fun x hx => hs x (h2 x hx),h3,h4,h5⟩
structure Greedy (S : Nat → Nat → Prop) (w : Nat → Int) (P L : Nat → Prop) : Prop where
 can : Matchable S L
 sub : ∀ x,L x → P x
 cert : ∀ i,P i → ¬ L i → Cert S w L i
theorem Greedy.nil {S : Nat → Nat → Prop} {w : Nat → Int} : Greedy S w (fun _ => False) (fun _ => False):=⟨⟨fun _ => none,⟨fun _ _ e => (by cases e),fun _ _ _ e => (by cases e)⟩,fun x => ⟨fun ⟨k,e⟩ => (by cases e),False.elim⟩⟩,fun _ h => h,fun _ h => h.elim⟩
theorem Greedy.yes {S : Nat → Nat → Prop} {w : Nat → Int} {P L : Nat → Prop} {i : Nat} (h : Greedy S w P L) (hm : Matchable S fun x => L x ∨ x = i) : Greedy S w (fun x => P x ∨ x = i) (fun x => L x ∨ x = i) :=
 ⟨hm,fun x hx => hx.imp (h.sub x) id,fun j hj hn => by
  rcases hj with hj | rfl
  ·exact (h.cert j hj fun hl => hn (.inl hl)).more fun x hx => .inl hx
  ·exact absurd (.inr rfl) hn⟩
theorem Greedy.no {S : Nat → Nat → Prop} {w : Nat → Int} {nB nO : Nat} (hF : Fit S nB nO) {P L : Nat → Prop} {i : Nat} (h : Greedy S w P L) (hw : ∀ x,P x → w i ≤ w x) (hm : ¬ Matchable S fun x => L x ∨ x = i) : Greedy S w (fun x => P x ∨ x = i) L:=by
 have hi : ¬ L i:=fun hl => hm (by
  obtain ⟨m,hM,hd⟩:=h.can
  exact ⟨m,hM,fun x => (hd x).trans ⟨.inl,fun hx => hx.elim id fun e => e ▸ hl⟩⟩)
 refine ⟨h.can,fun x hx => .inl (h.sub x hx),fun j hj hn => ?_⟩
 rcases hj with hj | rfl
 ·exact h.cert j hj hn
 ·obtain ⟨m,hM,hd⟩:=h.can
  rcases aug0 hF hM (o:=j) (fun hj => hn ((hd j).1 hj)) with ⟨m',hM',hd'⟩ | ⟨C,hC,hs⟩
  ·exact absurd ⟨m',hM',fun x => (hd' x).trans ⟨fun hx => hx.elim .inr fun hx => .inl ((hd x).1 hx),fun hx => hx.elim (fun hl => .inr ((hd x).2 hl)) .inl⟩⟩ hm
  ·exact ⟨m,C,hM,fun x hx => (hd x).1 hx,hC,hs,fun k x _ e => hw x (h.sub x ((hd x).1 ⟨k,e⟩))⟩
theorem Greedy.iff {S : Nat → Nat → Prop} {w : Nat → Int} {P P' L L' : Nat → Prop} (h : Greedy S w P L) (hP : ∀ x,P x ↔ P' x) (hL : ∀ x,L x ↔ L' x) : Greedy S w P' L':=by
 have e1 : P = P':=funext fun x => propext (hP x)
 have e2 : L = L':=funext fun x => propext (hL x)
 subst e1 e2; exact h
inductive Way (S : Nat → Nat → Prop) (h : Nat → Option Nat) (k : Nat) : Nat → Prop
 | refl : Way S h k k
 | step {k1 k2 x : Nat} : Way S h k k1 → h k1 = some x → S x k2 → Way S h k k2
theorem Way.head {S : Nat → Nat → Prop} {h : Nat → Option Nat} {k k' k2 x : Nat} (e : h k = some x) (hs : S x k') (hw : Way S h k' k2) : Way S h k k2:=by
 induction hw with
 | refl => exact .step .refl e hs
 | step _ e1 s1 ih => exact .step ih e1 s1
structure Prices (S : Nat → Nat → Prop) (w : Nat → Int) (nB nO : Nat) (h : Nat → Option Nat) (q u : Nat → Int) : Prop where
 q0 : ∀ k,0 ≤ q k
 free : ∀ k,h k = none → q k = 0
 held : ∀ k x,h k = some x → q k ≤ w x
 least : ∀ k x k',h k = some x → S x k' → q k ≤ q k'
 out : ∀ i k,i < nO → ¬ Dom h i → S i k → w i ≤ q k
 uset : ∀ k x,h k = some x → u x = w x - q k
 unot : ∀ i,¬ Dom h i → u i = 0
 total : wor nB w h = sm nB q + sm nO u
 less : ∀ k,∃ h',Mat S h' ∧ h' k = none ∧ wor nB w h' = wor nB w h - q k
theorem Prices.u0 {S : Nat → Nat → Prop} {w : Nat → Int} {nB nO : Nat} {h : Nat → Option Nat} {q u : Nat → Int} (hp : Prices S w nB nO h q u) (i : Nat) : 0 ≤ u i:=by
 by_cases hd : Dom h i
 ·obtain ⟨k,e⟩:=hd
  have h1:=hp.uset k i e
  have h2:=hp.held k i e
  omega
 ·rw [hp.unot i hd]; omega
theorem Prices.feas {S : Nat → Nat → Prop} {w : Nat → Int} {nB nO : Nat} {h : Nat → Option Nat} {q u : Nat → Int} (hF : Fit S nB nO) (hp : Prices S w nB nO h q u) {i k : Nat} (hs : S i k) : w i ≤ q k + u i:=by
 by_cases hd : Dom h i
 ·obtain ⟨k',e⟩:=hd
  have h1:=hp.uset k' i e
  have h2:=hp.least k' i k e hs
  omega
 ·rw [hp.unot i hd]; have:=hp.out i k (hF.ord i k hs) hd hs; omega
theorem weak {S : Nat → Nat → Prop} {w : Nat → Int} {nB nO : Nat} (hF : Fit S nB nO) {q u : Nat → Int} (hq : ∀ k,k < nB → 0 ≤ q k) (hu : ∀ i,i < nO → 0 ≤ u i) (hf : ∀ i k,S i k → w i ≤ q k + u i) {h : Nat → Option Nat} (hM : Mat S h) : wor nB w h ≤ sm nB (fun k => if h k = none then 0 else q k) + sm nO u:=by
 have h1 : wor nB w h ≤ sm nB (fun k => (if h k = none then 0 else q k) + ov u (h k)):=mP fun k _ => by
  cases e : h k with
  | none => simp [ov]
  | some x =>
   have:=hf x k (hM.suit k x e)
   simp only [ov,reduceCtorEq,if_false]
   exact this
 have h2:=sm_add (fun k => if h k = none then 0 else q k) (fun k => ov u (h k)) nB
 have h3:=bij hF hM u
 have h4 : sm nO (fun o => if Dom h o then u o else 0) ≤ sm nO u:=mP fun o ho => by
  have:=hu o ho
  split
  ·exact Int.le_refl _
  ·exact this
 omega
theorem weak' {S : Nat → Nat → Prop} {w : Nat → Int} {nB nO : Nat} (hF : Fit S nB nO) {q u : Nat → Int} (hq : ∀ k,k < nB → 0 ≤ q k) (hu : ∀ i,i < nO → 0 ≤ u i) (hf : ∀ i k,S i k → w i ≤ q k + u i) {h : Nat → Option Nat} (hM : Mat S h) : wor nB w h ≤ sm nB q + sm nO u:=by
 have h1:=weak hF hq hu hf hM
 have h2 : sm nB (fun k => if h k = none then 0 else q k) ≤ sm nB q:=mP fun k hk => by
  have:=hq k hk
  split
  ·exact this
  ·exact Int.le_refl _
 omega
theorem weak_but {S : Nat → Nat → Prop} {w : Nat → Int} {nB nO : Nat} (hF : Fit S nB nO) {q u : Nat → Int} (hq : ∀ k,k < nB → 0 ≤ q k) (hu : ∀ i,i < nO → 0 ≤ u i) (hf : ∀ i k,S i k → w i ≤ q k + u i) {h : Nat → Option Nat} (hM : Mat S h) {k : Nat} (hk : k < nB) (hn : h k = none) : wor nB w h ≤ sm nB q - q k + sm nO u:=by
 have h1:=weak hF hq hu hf hM
 have h3:=jv (f:=q) (g:=fun j => if j = k then 0 else q j) hk (fun i _ hi => by simp only [if_neg hi])
 have h4 : (if k = k then (0 : Int) else q k) = 0:=if_pos rfl
 rw [h4] at h3
 have h2 : sm nB (fun j => if h j = none then 0 else q j) ≤ sm nB (fun j => if j = k then 0 else q j):=mP fun j hj => by
  have:=hq j hj
  by_cases hjk : j = k
  ·subst hjk; simp [hn]
  ·simp only [if_neg hjk]
   split
   ·exact this
   ·exact Int.le_refl _
 omega
def freed (h : Nat → Option Nat) (k : Nat) : Nat → Option Nat:=fun j => if j = k then none else h j
theorem qE (h : Nat → Option Nat) (k : Nat) : freed h k k = none:=if_pos rfl
theorem oc {h : Nat → Option Nat} {k j : Nat} (hj : j ≠ k) : freed h k j = h j:=if_neg hj
theorem cD {h : Nat → Option Nat} {k j x : Nat} (e : freed h k j = some x) : j ≠ k ∧ h j = some x:=by
 by_cases hj : j = k
 ·subst hj; rw [qE] at e; cases e
 ·rw [oc hj] at e; exact ⟨hj,e⟩
theorem Mat.freed {S : Nat → Nat → Prop} {h : Nat → Option Nat} (hM : Mat S h) (k : Nat) : Mat S (freed h k) :=
 ⟨fun j o e => hM.suit j o (cD e).2,fun j j' o e e' => hM.inj j j' o (cD e).2 (cD e').2⟩
theorem r6 {nB k : Nat} (hk : k < nB) (w : Nat → Int) (h : Nat → Option Nat) : wor nB w (freed h k) = wor nB w h - ov w (h k):=by
 have:=jv (f:=fun j => ov w (h j)) (g:=fun j => ov w (freed h k j)) hk (fun i _ hi => by simp only [oc hi])
 simp only [qE] at this
 have e : ov w none = 0:=rfl
 rw [e] at this
 unfold wor
 omega
theorem qa {S : Nat → Nat → Prop} {nB nO : Nat} (hF : Fit S nB nO) (w : Nat → Int) {h h' : Nat → Option Nat} (hM : Mat S h) (hM' : Mat S h') (hd : ∀ x,Dom h x ↔ Dom h' x) : wor nB w h = wor nB w h':=by
 unfold wor
 rw [bij hF hM w,bij hF hM' w]
 refine cx fun o _ => ?_
 by_cases hc : Dom h o
 ·rw [if_pos hc,if_pos ((hd o).1 hc)]
 ·rw [if_neg hc,if_neg fun hh => hc ((hd o).2 hh)]
theorem rc {S : Nat → Nat → Prop} {nB nO : Nat} (hF : Fit S nB nO) (w : Nat → Int) {h : Nat → Option Nat} (hM : Mat S h) {k0 k1 : Nat} (hk1 : k1 < nB) (hw : Way S h k0 k1) : ∃ h',Mat S h' ∧ h' k0 = none ∧ wor nB w h' = wor nB w h - ov w (h k1):=by
 have e2:=r6 hk1 w h
 have hM2:=hM.freed k1
 cases hk0 : freed h k1 k0 with
 | none => exact ⟨_,hM2,hk0,e2⟩
 | some o =>
  obtain ⟨hne,ho⟩:=cD hk0
  -- without the first bay
  let S' : Nat → Nat → Prop:=fun x k => S x k ∧ k ≠ k0
  have hF' : Fit S' nB nO:=⟨fun x k hs => hF.bay x k hs.1,fun x k hs => hF.ord x k hs.1⟩
  let h3:=freed (freed h k1) k0
  have hM3 : Mat S' h3:=⟨fun k x e => ⟨hM2.suit k x (cD e).2,(cD e).1⟩,(hM2.freed k0).inj⟩
  have hno : ¬ Dom h3 o:=fun ⟨k,e⟩ => (cD e).1 (hM2.inj k k0 o (cD e).2 hk0)
  rcases aug0 hF' hM3 hno with ⟨h',hM',hd⟩ | ⟨C,hC,hs⟩
  ·have hMS : Mat S h':=⟨fun k x e => (hM'.suit k x e).1,hM'.inj⟩
   refine ⟨h',hMS,?_,?_⟩
   ·cases e : h' k0 with
    | none => rfl
    | some x => exact absurd rfl (hM'.suit k0 x e).2
   ·rw [← e2]
    refine qa hF w hMS hM2 fun x => ?_
    rw [hd x]
    refine ⟨fun hx => ?_,fun ⟨k,e⟩ => ?_⟩
    ·rcases hx with rfl | ⟨k,e⟩
     ·exact ⟨k0,hk0⟩
     ·exact ⟨k,(cD e).2⟩
    ·by_cases hk : k = k0
     ·subst hk; rw [hk0] at e; cases e; exact .inl rfl
     ·exact .inr ⟨k,(oc hk).trans e⟩
  ·exfalso
   have hall : ∀ k,Way S h k0 k → C k ∨ k = k0:=fun k hk => by
    induction hk with
    | refl => exact .inr rfl
    | @step ka kb x _ e s ih =>
     by_cases hkb : kb = k0
     ·exact .inr hkb
     ·rcases ih with hc | rfl
      ·obtain ⟨y,ey,hy⟩:=hC.shut ka hc
       have:=(cD (cD ey).2).2
       rw [e] at this; cases this
       exact .inl (hy kb ⟨s,hkb⟩)
      ·rw [ho] at e; cases e
       exact .inl (hs kb ⟨s,hkb⟩)
   rcases hall k1 hw with hc | e
   ·obtain ⟨y,ey,_⟩:=hC.shut k1 hc
    exact (cD (cD ey).2).1 rfl
   ·exact hne e.symm
theorem prices {S : Nat → Nat → Prop} {w : Nat → Int} {nB nO : Nat} (hF : Fit S nB nO) (hw : ∀ i,0 ≤ w i) {L : Nat → Prop} {h : Nat → Option Nat} (hM : Mat S h) (hd : ∀ x,Dom h x ↔ L x) (hc : ∀ i,i < nO → ¬ L i → Cert S w L i) : ∃ q u,Prices S w nB nO h q u:=by
 have hv : ∀ k,0 ≤ ov w (h k):=fun k => by
  cases h k with
  | none => exact Int.le_refl _
  | some x => exact hw x
 have hex : ∀ k,∃ k',Way S h k k' ∧ ∀ k'',Way S h k k'' → ov w (h k') ≤ ov w (h k''):=fun k => min_ex hv (ov w (h k)).toNat k .refl (by have:=hv k; omega)
 let r : Nat → Nat:=fun k => Classical.choose (hex k)
 have hr : ∀ k,Way S h k (r k) ∧ ∀ k'',Way S h k k'' → ov w (h (r k)) ≤ ov w (h k''):=fun k => Classical.choose_spec (hex k)
 let q : Nat → Int:=fun k => ov w (h (r k))
 let u : Nat → Int:=fun i => if hx : Dom h i then w i - q (Classical.choose hx) else 0
 have huset : ∀ k x,h k = some x → u x = w x - q k:=fun k x e => by
  have hx : Dom h x:=⟨k,e⟩
  have:=hM.inj _ _ x (Classical.choose_spec hx) e
  show (if hx : Dom h x then w x - q (Classical.choose hx) else 0) = _
  rw [dif_pos hx,this]
 have hunot : ∀ i,¬ Dom h i → u i = 0:=fun i hi => dif_neg hi
 have hfree : ∀ k,h k = none → q k = 0:=fun k e => by
  have h1:=(hr k).2 k .refl
  have h2:=hv (r k)
  rw [e] at h1
  have e0 : ov w none = 0:=rfl
  show ov w (h (r k)) = 0
  omega
 refine ⟨q,u,fun k => hv (r k),hfree,fun k x e => ?_,fun k x k' e hs => (hr k).2 _ (.head e hs (hr k').1),fun i k hi hn hs => ?_,huset,hunot,?_,fun k => ?_⟩
 ·have h1:=(hr k).2 k .refl
  rw [e] at h1
  exact h1
 ·obtain ⟨h0,C,hM0,hd0,hC,hsC,hwC⟩:=(hc i hi (fun hl => hn ((hd i).2 hl))).out
  have hf:=filled hF hM0 hC hM (fun k x _ e => (hd x).2 (hd0 x ⟨k,e⟩))
  have hall : ∀ k',Way S h k k' → C k':=fun k' hk' => by
   induction hk' with
   | refl => exact hsC k hs
   | @step ka kb x _ e s ih =>
    obtain ⟨y,ey,k1,hk1,e1⟩:=hf ka ih
    rw [e] at ey; cases ey
    obtain ⟨z,ez,hz⟩:=hC.shut k1 hk1
    rw [e1] at ez; cases ez
    exact hz kb s
  obtain ⟨y,ey,k1,hk1,e1⟩:=hf _ (hall _ (hr k).1)
  show w i ≤ ov w (h (r k))
  rw [ey]
  exact hwC k1 y hk1 e1
 ·have h1:=bij hF hM u
  have h2 : sm nO (fun o => if Dom h o then u o else 0) = sm nO u:=cx fun o _ => by
   by_cases hx : Dom h o
   ·rw [if_pos hx]
   ·rw [if_neg hx,hunot o hx]
  have h3 : sm nB (fun k => ov u (h k)) = sm nB (fun k => ov w (h k) - q k):=cx fun k _ => by
   cases e : h k with
   | none => rw [hfree k e]; rfl
   | some x => exact huset k x e
  have h4:=sm_sub (fun k => ov w (h k)) q nB
  have e5 : sm nB (fun k => ov w (h k)) = wor nB w h:=rfl
  omega
 ·by_cases hk : r k < nB
  ·exact rc hF w hM hk (hr k).1
  ·have hout : h (r k) = none:=by
    cases e : h (r k) with
    | none => rfl
    | some x => exact absurd (hF.bay x _ (hM.suit _ x e)) hk
   have hq : q k = 0:=by show ov w (h (r k)) = 0; rw [hout]; rfl
   by_cases hk2 : h k = none
   ·exact ⟨h,hM,hk2,by omega⟩
   ·exfalso
    have:=(hr k).1
    have hstep : ∀ k',Way S h k k' → k' < nB:=fun k' hk' => by
     cases hk' with
     | refl =>
      cases e : h k with
      | none => exact absurd e hk2
      | some x => exact hF.bay x k (hM.suit k x e)
     | step _ _ s => exact hF.bay _ _ s
    exact hk (hstep _ this)
theorem Prices.opt {S : Nat → Nat → Prop} {w : Nat → Int} {nB nO : Nat} (hF : Fit S nB nO) {h : Nat → Option Nat} (hM : Mat S h) {q u : Nat → Int} (hp : Prices S w nB nO h q u) : Opt S w nB (wor nB w h) :=
 ⟨⟨h,hM,rfl⟩,fun h2 hM2 => by rw [hp.total]; exact weak' hF (fun k _ => hp.q0 k) (fun i _ => hp.u0 i) (fun i k hs => hp.feas hF hs) hM2⟩
theorem Prices.without {S : Nat → Nat → Prop} {w : Nat → Int} {nB nO : Nat} (hF : Fit S nB nO) {h : Nat → Option Nat} (hM : Mat S h) {q u : Nat → Int} (hp : Prices S w nB nO h q u) {k : Nat} (hk : k < nB) : Opt (fun i j => S i j ∧ j ≠ k) w nB (wor nB w h - q k):=by
 refine ⟨?_,fun h2 hM2 => ?_⟩
 ·obtain ⟨h',hM',hn,e⟩:=hp.less k
  refine ⟨h',⟨fun j o ej => ⟨hM'.suit j o ej,fun ejk => ?_⟩,hM'.inj⟩,e⟩
  subst ejk; rw [hn] at ej; cases ej
 ·have hM3 : Mat S h2:=⟨fun j o e => (hM2.suit j o e).1,hM2.inj⟩
  have hn : h2 k = none:=by
   cases e : h2 k with
   | none => rfl
   | some x => exact absurd rfl (hM2.suit k x e).2
  have:=weak_but (w:=w) (q:=q) (u:=u) hF (fun k _ => hp.q0 k) (fun i _ => hp.u0 i) (fun i k hs => hp.feas hF hs) hM3 hk hn
  rw [hp.total]
  omega
theorem Greedy.prices {S : Nat → Nat → Prop} {w : Nat → Int} {nB nO : Nat} (hF : Fit S nB nO) (hw : ∀ i,0 ≤ w i) {P L : Nat → Prop} (hg : Greedy S w P L) (hP : ∀ i,i < nO → P i) {h : Nat → Option Nat} (hM : Mat S h) (hd : ∀ x,Dom h x ↔ L x) : ∃ q u,Prices S w nB nO h q u:=Go.Proofs.YthndghnkebboaaaGreat.prices hF hw hM hd fun i hi hn => hg.cert i (hP i hi) hn
theorem Greedy.opt {S : Nat → Nat → Prop} {w : Nat → Int} {nB nO : Nat} (hF : Fit S nB nO) (hw : ∀ i,0 ≤ w i) {P L : Nat → Prop} (hg : Greedy S w P L) (hP : ∀ i,i < nO → P i) {h : Nat → Option Nat} (hM : Mat S h) (hd : ∀ x,Dom h x ↔ L x) : Opt S w nB (wor nB w h):=by
 obtain ⟨q,u,hp⟩:=hg.prices hF hw hP hM hd
 exact hp.opt hF hM
set_option linter.unusedSimpArgs false
theorem insF_l2 {n : Nat} {data0 : List Int} (h0 : data0.length = n) (hn : n < 1000000) {cmp : Int → Int → Option Int} (c : Int → Int → Int) (f : Int → Int) (S : Int → Prop) (hc : ∀ x y,S x → S y → cmp x y = some (c x y) ∧ (c x y < 0 ↔ f x < f y)) (x : Int) (hx : S x) :
  ∀ (k : Nat) (A1 T : List Int),A1.length = k → A1.length + 1 + T.length = n → (∀ y ∈ A1,S y) → ∃ B1 B2 : List Int,A1 = B1 ++ B2 ∧ aM (aR data0 0 cmp) ((A1.length : Int),A1 ++ x :: T) = some ((B1.length : Int),B1 ++ x :: (B2 ++ T)) ∧ (∀ y ∈ B2,f x < f y) ∧ (∀ y,B1.getLast? = some y → ¬ f x < f y):=by
 intro k
 induction k with
 | zero =>
  intro A1 T hk hl hS
  have : A1 = []:=List.eq_nil_of_length_eq_zero hk
  subst this
  refine ⟨[],[],rfl,?_,by simp,by simp⟩
  refine bW ?_
  unfold aR; dsimp only
  rfl
 | succ k ih =>
  intro A1 T hk hl hS
  obtain ⟨A,y,rfl⟩ : ∃ A y,A1 = A ++ [y]:=⟨A1.dropLast,A1.getLast (by intro h; rw [h] at hk; cases hk),(List.dropLast_concat_getLast _).symm⟩
  have hA : A.length = k:=by simpa using hk
  simp only [List.length_append,List.length_cons,List.length_nil] at hl
  have hy : S y:=hS y (by simp)
  have e1 : A ++ [y] ++ x :: T = A ++ y :: x :: T:=by simp
  have hi : (((A ++ [y]).length : Nat) : Int) = (A.length : Int) + 1:=by simp
  have hj1 : w64 ((((A ++ [y]).length : Nat) : Int) - 1) = (A.length : Int):=by rw [fq (by simp only [List.length_append,List.length_cons,List.length_nil]; omega) (by simp only [List.length_append,List.length_cons,List.length_nil]; omega)]; simp
  have r1 : rdL (A ++ [y] ++ x :: T) (((A ++ [y]).length : Nat) : Int) = x:=ms _ _ _ _ rfl
  have r2 : rdL (A ++ [y] ++ x :: T) (A.length : Int) = y:=by rw [e1]; exact ms _ _ _ _ rfl
  obtain ⟨hc1,hc2⟩:=hc x y hx hy
  have g1 : (0 : Int) ≤ (((A ++ [y]).length : Nat) : Int) ∧ (((A ++ [y]).length : Nat) : Int) < ((data0.length : Nat) : Int):=by rw [h0]; simp only [List.length_append,List.length_cons,List.length_nil]; omega
  have g2 : (0 : Int) ≤ (A.length : Int) ∧ (A.length : Int) < ((data0.length : Nat) : Int):=by rw [h0]; omega
  have hd : decide ((0 : Int) < (((A ++ [y]).length : Nat) : Int)) = true:=decide_eq_true (by rw [hi]; omega)
  have step : aR data0 0 cmp ((((A ++ [y]).length : Nat) : Int),A ++ [y] ++ x :: T) = if f x < f y then some (.inl ((A.length : Int),A ++ x :: ([y] ++ T))) else some (.inr ((((A ++ [y]).length : Nat) : Int),A ++ [y] ++ x :: T)):=by
   unfold aR; dsimp only
   simp only [hj1,r1,r2,hd,if_true,gPo g1,gPo g2,hc1,oB,decide_eq_true_eq]
   by_cases hlt : f x < f y
   ·rw [if_pos (hc2.2 hlt),if_pos hlt]
    refine congrArg some (congrArg Sum.inl (Prod.ext rfl ?_))
    show ((A ++ [y] ++ x :: T).set (Int.toNat (((A ++ [y]).length : Nat) : Int)) y).set (Int.toNat (A.length : Int)) x = _
    rw [Int.toNat_natCast,Int.toNat_natCast,mw (A ++ [y]) x y T _ rfl]
    have e3 : A ++ [y] ++ y :: T = A ++ y :: (y :: T):=by simp
    rw [e3,mw A y x (y :: T) _ rfl]
    simp
   ·rw [if_neg (fun h => hlt (hc2.1 h)),if_neg hlt]
  by_cases hlt : f x < f y
  ·rw [if_pos hlt] at step
   obtain ⟨B1,B2,hB,hr,h2,h3⟩:=ih A ([y] ++ T) hA (by simp; omega) (fun z hz => hS z (by simp [hz]))
   refine ⟨B1,B2 ++ [y],by rw [hB,List.append_assoc],?_,?_,h3⟩
   ·rw [eg step,hr]
    simp
   ·intro z hz
    rcases List.mem_append.1 hz with hz | hz
    ·exact h2 z hz
    ·rw [List.mem_singleton.1 hz]; exact hlt
  ·rw [if_neg hlt] at step
   refine ⟨A ++ [y],[],by simp,?_,by simp,?_⟩
   ·rw [bW step]; simp
   ·intro z hz
    simp at hz
    rw [← hz]
    exact hlt
theorem insF_all {l : List Int} (hl : l.length < 1000000) {cmp : Int → Int → Option Int} (c : Int → Int → Int) (f : Int → Int) (hc : ∀ x y,x ∈ l → y ∈ l → cmp x y = some (c x y) ∧ (c x y < 0 ↔ f x < f y)) :
  ∃ s,bc l 0 (l.length : Int) cmp = some s ∧ s.Perm l ∧ s.Pairwise (fun a b => f a ≤ f b):=by
 unfold bc
 have e1 : w64 (0 + 1) = 1:=rfl
 rw [e1]
 have main : ∀ (R A : List Int),(A ++ R).Perm l → A.Pairwise (fun a b => f a ≤ f b) → ∃ s,aM (aC l 0 (l.length : Int) cmp) ((A.length : Int),A ++ R) = some ((l.length : Int),s) ∧ s.Perm l ∧ s.Pairwise (fun a b => f a ≤ f b):=by
  intro R
  induction R with
  | nil =>
   intro A hp hs
   have hlen : A.length = l.length:=by have:=hp.length_eq; simpa using this
   refine ⟨A,?_,by simpa using hp,hs⟩
   rw [List.append_nil,hlen]
   refine bW ?_
   unfold aC; dsimp only
   rw [show decide ((l.length : Int) < (l.length : Int)) = false from decide_eq_false (by omega)]
   rfl
  | cons x T ih =>
   intro A hp hs
   have hlen : A.length + (T.length + 1) = l.length:=by have:=hp.length_eq; simpa using this
   obtain ⟨B1,B2,hB,hr,h2,h3⟩:=insF_l2 (data0:=l) rfl hl c f (fun z => z ∈ l) hc x (hp.mem_iff.1 (by simp)) A.length A T rfl (by omega) (fun y hy => hp.mem_iff.1 (by simp [hy]))
   have hstep : aC l 0 (l.length : Int) cmp ((A.length : Int),A ++ x :: T) = some (.inl (((B1 ++ x :: B2).length : Int),(B1 ++ x :: B2) ++ T)):=by
    unfold aC; dsimp only
    rw [show decide ((A.length : Int) < (l.length : Int)) = true from decide_eq_true (by omega)]
    rw [if_pos rfl,hr,oB]
    have hw : w64 ((A.length : Int) + 1) = (A.length : Int) + 1:=fq (by omega) (by omega)
    simp only [hw]
    refine congrArg some (congrArg Sum.inl (Prod.ext ?_ ?_))
    ·simp [hB]; omega
    ·simp
   have hs' : (B1 ++ x :: B2).Pairwise (fun a b => f a ≤ f b):=by
    rw [hB,List.pairwise_append] at hs
    obtain ⟨s1,s2,s3⟩:=hs
    have hle : ∀ y ∈ B1,f y ≤ f x:=by
     intro y hy
     rcases List.eq_nil_or_concat B1 with rfl | ⟨B,z,rfl⟩
     ·cases hy
     ·have hz:=h3 z (by simp)
      rw [List.concat_eq_append] at hy s1
      rcases List.mem_append.1 hy with hy | hy
      ·rw [List.pairwise_append] at s1
       have:=s1.2.2 y hy z (by simp); omega
      ·rw [List.mem_singleton.1 hy]; omega
    rw [List.pairwise_append]
    refine ⟨s1,List.pairwise_cons.2 ⟨fun y hy => by have:=h2 y hy; omega,s2⟩,fun a ha b hb => ?_⟩
    rcases List.mem_cons.1 hb with rfl | hb
    ·exact hle a ha
    ·exact s3 a ha b hb
   have hp' : ((B1 ++ x :: B2) ++ T).Perm l:=by
    refine List.Perm.trans ?_ hp
    rw [hB]
    simp only [List.append_assoc,List.cons_append]
    exact List.Perm.append_left B1 (List.perm_middle).symm
   obtain ⟨s,h4,h5,h6⟩:=ih (B1 ++ x :: B2) hp' hs'
   exact ⟨s,by rw [eg hstep]; exact h4,h5,h6⟩
 rcases l with _ | ⟨x,T⟩
 ·have : aM (aC [] 0 (([] : List Int).length : Int) cmp) (1,[]) = some (1,[]):=by
   refine bW ?_
   unfold aC
   rfl
  exact ⟨[],by rw [this]; rfl,List.Perm.refl _,List.Pairwise.nil⟩
 ·obtain ⟨s,h1,h2,h3⟩:=main T [x] (by simp) (by simp)
  have h1' : aM (aC (x :: T) 0 ((x :: T).length : Int) cmp) (1,x :: T) = some (((x :: T).length : Int),s):=h1
  exact ⟨s,by rw [h1']; rfl,h2,h3⟩
theorem rp (a b : Int) : ec a b = some (if a < b then -1 else if b < a then 1 else 0):=by
 unfold ec cY
 simp only [bne_self_eq_false,oB,Bool.false_eq_true,if_false]
 by_cases h1 : a < b
 ·simp [h1]
 ·by_cases h2 : b < a <;> simp [h1,h2]
def po (n : Nat) : List Int:=(List.range n).map fun k : Nat => (k : Int)
theorem sk {l : List Int} (hl : l.length < 20) {cmp : Int → Int → Option Int} (c : Int → Int → Int) (f : Int → Int) (hc : ∀ x y,x ∈ l → y ∈ l → cmp x y = some (c x y) ∧ (c x y < 0 ↔ f x < f y)) : ∃ s,bm l cmp = some s ∧ s.Perm l ∧ s.Pairwise (fun a b => f a ≤ f b):=by
 obtain ⟨s,h1,h2,h3⟩:=insF_all (by omega) c f hc
 refine ⟨s,?_,h2,h3⟩
 unfold bm co
 have e1 : aM (bR ((l.length : Nat) : Int)) (0,20) = some (0,20):=bW (by
  unfold bR; dsimp only
  rw [gPo (decide_eq_false (by omega))])
 rw [e1,oB]
 dsimp only
 rw [h1,oB]
 have e2 : aM (bQ ((l.length : Nat) : Int)) (20,0,20) = some (20,0,20):=bW (by
  unfold bQ; dsimp only
  rw [gPo (decide_eq_false (by omega))])
 rw [e2]
 rfl
def oat (y : TY) (o : Nat) : TO:=y.fR.getD o default
def bat (y : TY) (k : Nat) : TBay:=y.fB.getD k default
theorem fV (y : TY) (o : Nat) : rdL y.fR (o : Int) = oat y o:=by unfold rdL oat; rw [Int.toNat_natCast]
theorem jx (y : TY) (k : Nat) : rdL y.fB (k : Int) = bat y k:=by unfold rdL bat; rw [Int.toNat_natCast]
def gt (o : TO) (b : TBay) : Bool:=decide (o.fH.fLo ≤ b.fHour ∧ b.fHour ≤ o.fH.fHi) && decide (o.fD ≤ b.fD)
theorem pd (o : TO) (b : TBay) : f9 o b = some (gt o b):=by unfold f9; rw [jA]; rfl
def Su (y : TY) (o k : Nat) : Prop:=o < y.fR.length ∧ k < y.fB.length ∧ gt (oat y o) (bat y k) = true
def wo (y : TY) (o : Nat) : Int:=(oat y o).fW
theorem Su.fit (y : TY) : Fit (Su y) y.fB.length y.fR.length:=⟨fun o k h => h.2.1,fun o k h => h.1⟩
def cJ (g : List (Int × Int)) (k : Nat) : Option Nat:=if bb g (k : Int) = true then some (ar 0 g (k : Int)).toNat else none
def tri (t : List (Int × Bool)) (k : Nat) : Prop:=ar false t (k : Int) = true
def OkG (nB nO : Nat) (g : List (Int × Int)) : Prop:=∀ p ∈ g,∃ k o : Nat,p = ((k : Int),(o : Int)) ∧ k < nB ∧ o < nO
theorem OkG.nil {nB nO : Nat} : OkG nB nO []:=fun p hp => by cases hp
theorem OkG.cons {nB nO k o : Nat} {g : List (Int × Int)} (h : OkG nB nO g) (hk : k < nB) (ho : o < nO) : OkG nB nO (((k : Int),(o : Int)) :: g):=fun p hp => by
 rcases List.mem_cons.1 hp with rfl | hp
 ·exact ⟨k,o,rfl,hk,ho⟩
 ·exact h p hp
theorem qG : cJ [] = fun _ => none:=rfl
theorem lh (g : List (Int × Int)) (k o : Nat) : cJ (((k : Int),(o : Int)) :: g) = fun j => if j = k then some o else cJ g j:=by
 funext j
 unfold cJ
 rw [dO,eC]
 by_cases h : j = k
 ·subst h
  rw [if_pos rfl,if_pos rfl,if_pos rfl,if_pos rfl,Int.toNat_natCast]
 ·rw [if_neg (show ¬ ((k : Int) = (j : Int)) by omega),if_neg (show ¬ ((k : Int) = (j : Int)) by omega),if_neg h]
theorem pX : tri [] = fun _ => False:=by funext k; exact propext ⟨fun h => (by cases h),False.elim⟩
theorem kN (t : List (Int × Bool)) (k : Nat) : tri (((k : Int),true) :: t) = fun j => tri t j ∨ j = k:=by
 funext j
 unfold tri
 rw [eC]
 refine propext ?_
 by_cases h : j = k
 ·subst h; rw [if_pos rfl]; exact ⟨fun _ => .inr rfl,fun _ => rfl⟩
 ·rw [if_neg (show ¬ ((k : Int) = (j : Int)) by omega)]; exact ⟨.inl,fun hh => hh.elim id fun e => absurd e h⟩
theorem kX {nB nO : Nat} : ∀ {g : List (Int × Int)},OkG nB nO g → ∀ {k x : Nat},cJ g k = some x → bb g (k : Int) = true ∧ ar 0 g (k : Int) = (x : Int) ∧ k < nB ∧ x < nO
 | [],_,k,x,e => by cases e
 | p :: g,hg,k,x,e => by
  obtain ⟨k',o,rfl,hk',ho⟩:=hg p (List.mem_cons_self ..)
  rw [lh] at e
  rw [dO,eC]
  by_cases h : k = k'
  ·subst h
   rw [if_pos rfl,if_pos rfl]
   simp only [if_true] at e
   cases e
   exact ⟨rfl,rfl,hk',ho⟩
  ·rw [if_neg (show ¬ ((k' : Int) = (k : Int)) by omega),if_neg (show ¬ ((k' : Int) = (k : Int)) by omega)]
   simp only [if_neg h] at e
   exact kX (g:=g) (fun q hq => hg q (List.mem_cons_of_mem _ hq)) e
theorem rf {g : List (Int × Int)} {k : Nat} (e : cJ g k = none) : bb g (k : Int) = false:=by
 unfold cJ at e
 by_cases h : bb g (k : Int) = true
 ·rw [if_pos h] at e; cases e
 ·exact Bool.eq_false_iff.2 h
theorem jQ {k : Nat} (h : k < 1000000) : cO (k : Int) = true:=by
 unfold cO
 rw [Bool.and_eq_true,decide_eq_true_eq,decide_eq_true_eq]; omega
theorem look (y : TY) (hB : y.fB.length ≤ 1000) (hO : y.fR.length ≤ 1000) : ∀ (fuel o : Nat) (t : List (Int × Bool)) (g : List (Int × Int)),o < y.fR.length → OkG y.fB.length y.fR.length g → unt y.fB.length (tri t) < (fuel : Int) → (t.length : Int) + unt y.fB.length (tri t) ≤ 2000 → (g.length : Int) + unt y.fB.length (tri t) ≤ 100000 → MatX (Su y) (tri t) (cJ g) → ¬ rD (tri t) (cJ g) o →
  ∃ r t' g',bp fuel (o : Int) y t g = some (r,t',g') ∧ OkG y.fB.length y.fR.length g' ∧ (t'.length : Int) + unt y.fB.length (tri t') ≤ (t.length : Int) + unt y.fB.length (tri t) ∧ (g'.length : Int) + unt y.fB.length (tri t') ≤ (g.length : Int) + unt y.fB.length (tri t) ∧ (∀ k,tri t k → tri t' k) ∧ ((r = true ∧ AugY (Su y) (tri t) o (cJ g) (cJ g')) ∨ (r = false ∧ g' = g ∧ AugN (Su y) (tri t) (tri t') o (cJ g))):=by
 intro fuel
 induction fuel with
 | zero =>
  intro o t g _ _ hu
  have:=f0 y.fB.length (tri t)
  omega
 | succ fuel ih =>
  intro o t g ho hg hu hlt hlg hM hn
  have hinv:=fF (body:=bV (o : Int) y (bp fuel))
   (fun s => ∃ (i : Nat) (t1 : List (Int × Bool)),s = (false,(i : Int),t1,g) ∧ i ≤ y.fB.length ∧ (∀ k,tri t k → tri t1 k) ∧ (t1.length : Int) + unt y.fB.length (tri t1) ≤ (t.length : Int) + unt y.fB.length (tri t) ∧ (∀ k,tri t1 k → ¬ tri t k → ∃ x,cJ g k = some x ∧ ∀ k',Su y x k' → tri t1 k') ∧ (∀ k,k < i → Su y o k → tri t1 k))
   (fun _ out => match out with
    | .inl u => u.1 = true ∧ OkG y.fB.length y.fR.length u.2.2.2 ∧ (u.2.2.1.length : Int) + unt y.fB.length (tri u.2.2.1) ≤ (t.length : Int) + unt y.fB.length (tri t) ∧ (u.2.2.2.length : Int) + unt y.fB.length (tri u.2.2.1) ≤ (g.length : Int) + unt y.fB.length (tri t) ∧ (∀ k,tri t k → tri u.2.2.1 k) ∧ AugY (Su y) (tri t) o (cJ g) (cJ u.2.2.2)
    | .inr u => u.2.2.2 = g ∧ (u.2.2.1.length : Int) + unt y.fB.length (tri u.2.2.1) ≤ (t.length : Int) + unt y.fB.length (tri t) ∧ AugN (Su y) (tri t) (tri u.2.2.1) o (cJ g))
   (fun s => y.fB.length - s.2.1.toNat) (by
    rintro _ ⟨i,t1,rfl,hi,hsub,hlen,hsh,hown⟩
    have hu1 : unt y.fB.length (tri t1) ≤ unt y.fB.length (tri t):=sr hsub
    have hu0:=f0 y.fB.length (tri t1)
    rcases Nat.lt_or_ge i y.fB.length with hlt' | hge
    ·have c1 : (0 : Int) ≤ (i : Int) ∧ (i : Int) < ((y.fB.length : Nat) : Int):=by omega
     have c2 : (0 : Int) ≤ (o : Int) ∧ (o : Int) < ((y.fR.length : Nat) : Int):=by omega
     have hb : bV (o : Int) y (bp fuel) (false,(i : Int),t1,g) = (if (ar false t1 (i : Int) || !gt (oat y o) (bat y i)) = true then some (.inl (false,((i + 1 : Nat) : Int),t1,g)) else am (cO (i : Int) = true ∧ List.length t1 < 1000000000) ((if (!(bb g (i : Int))) = true then (am (cO (i : Int) = true ∧ List.length g < 1000000000) (some (.inr (.inl (true,(i : Int),(((i : Int),true) :: t1),(((i : Int),(o : Int)) :: g)))))) else ((bp fuel (ar 0 g (i : Int)) y (((i : Int),true) :: t1) g).bind fun y17 => (if y17.1 = true then am (cO (i : Int) = true ∧ List.length y17.2.2 < 1000000000) (some (.inr (.inl (true,(i : Int),y17.2.1,(((i : Int),(o : Int)) :: y17.2.2))))) else some (.inl (false,((i + 1 : Nat) : Int),y17.2.1,y17.2.2))))))):=by
      unfold bV; dsimp only
      rw [gr (show (i : Int) < ((y.fB.length : Nat) : Int) by omega),gPo c1,gPo (jQ (by omega))]
      simp only [fV,jx,ls,j2,mH,pd,oB,gPo c2,bn (show i < 9223372036854775807 by omega),gPo (jQ (show i < 1000000 by omega))]
      cases ar false t1 (i : Int) <;> cases gt (oat y o) (bat y i) <;> rfl
     by_cases hsk : (ar false t1 (i : Int) || !gt (oat y o) (bat y i)) = true
     ·refine .inl ⟨_,by rw [hb,if_pos hsk],⟨i + 1,t1,rfl,hlt',hsub,hlen,hsh,fun k hk hs => ?_⟩,by dsimp only; omega,fun t h => h⟩
      rcases Nat.lt_or_ge k i with h | h
      ·exact hown k h hs
      ·have : k = i:=by omega
       subst this
       rcases Bool.or_eq_true_iff.1 hsk with h | h
       ·exact h
       ·rw [hs.2.2] at h; cases h
     ·rw [if_neg hsk] at hb
      have hsk2:=Bool.eq_false_iff.2 hsk
      rw [Bool.or_eq_false_iff] at hsk2
      have hnt : ¬ tri t1 i:=by unfold tri; rw [hsk2.1]; exact Bool.false_ne_true
      have hS : Su y o i:=⟨ho,hlt',by have:=hsk2.2; simpa using this⟩
      have hua:=pV hlt' hnt
      rw [← kN] at hua
      have hM1 : MatX (Su y) (tri t1) (cJ g):=hM.more hsub
      have hn1 : ¬ rD (tri t1) (cJ g) o:=fun ⟨j,hj,e⟩ => hn ⟨j,fun h => hj (hsub j h),e⟩
      have hsub' : ∀ k,tri t1 k → tri (((i : Int),true) :: t1) k:=fun k hk => by rw [kN]; exact .inl hk
      have hi1 : tri (((i : Int),true) :: t1) i:=by rw [kN]; exact .inr rfl
      rw [gPo ⟨jQ (by omega),by omega⟩] at hb
      cases hh : cJ g i with
      | none =>
       rw [rf hh,if_pos (by rfl),gPo ⟨jQ (by omega),by omega⟩] at hb
       refine .inr ⟨_,hb,rfl,hg.cons hlt' ho,?_,?_,fun k hk => hsub' k (hsub k hk),?_⟩
       ·dsimp only; rw [List.length_cons]; omega
       ·dsimp only; rw [List.length_cons]; omega
       ·dsimp only
        rw [lh]
        exact oT hM hsub hn (qr hM1 hnt hS hh hn1)
      | some x =>
       obtain ⟨hx1,hx2,_,hx3⟩:=kX hg hh
       rw [hx1,if_neg (by simp),hx2] at hb
       have hMi : MatX (Su y) (tri (((i : Int),true) :: t1)) (cJ g):=hM1.more hsub'
       have hni : ¬ rD (tri (((i : Int),true) :: t1)) (cJ g) x:=fun ⟨j,hj,e⟩ => by
        have : j = i:=hM1.inj j i x (fun h => hj (hsub' j h)) hnt e hh
        subst this; exact hj hi1
       obtain ⟨r,t',g',hr,hg',hl1,hl2,hs',hcase⟩:=ih x (((i : Int),true) :: t1) g hx3 hg (by omega) (by rw [List.length_cons]; omega) (by omega) hMi hni
       rw [hr,oB] at hb
       dsimp only at hb
       rw [List.length_cons] at hl1
       have hut:=f0 y.fB.length (tri t')
       rcases hcase with ⟨rfl,hA⟩ | ⟨rfl,rfl,hA⟩
       ·rw [if_pos rfl,gPo ⟨jQ (by omega),by omega⟩] at hb
        refine .inr ⟨_,hb,rfl,hg'.cons hlt' ho,?_,?_,fun k hk => hs' k (hsub' k (hsub k hk)),?_⟩
        ·dsimp only; omega
        ·dsimp only; rw [List.length_cons]; omega
        ·dsimp only
         rw [lh]
         rw [kN] at hA
         exact oT hM hsub hn (pq hM1 hnt hS hh hn1 hA)
       ·rw [if_neg (by simp)] at hb
        refine .inl ⟨_,hb,⟨i + 1,t',rfl,hlt',fun k hk => hs' k (hsub' k (hsub k hk)),by omega,fun k hk hnk => ?_,fun k hk hs => ?_⟩,by dsimp only; omega,fun t h => h⟩
        ·by_cases hk1 : tri (((i : Int),true) :: t1) k
         ·by_cases hki : k = i
          ·subst hki
           exact ⟨x,hh,fun k' hk' => hA.own k' hk'⟩
          ·rw [kN] at hk1
           have hk2 : tri t1 k:=hk1.elim id fun e => absurd e hki
           obtain ⟨z,e,hz⟩:=hsh k hk2 hnk
           exact ⟨z,e,fun k' hk' => hs' k' (hsub' k' (hz k' hk'))⟩
         ·exact hA.shut k hk hk1
        ·rcases Nat.lt_or_ge k i with h | h
         ·exact hs' k (hsub' k (hown k h hs))
         ·have : k = i:=by omega
          subst this; exact hs' k hi1
    ·have : i = y.fB.length:=by omega
     subst this
     refine .inr ⟨.inr (false,((y.fB.length : Nat) : Int),t1,g),?_,rfl,hlen,hsub,hsh,fun k hs => hown k hs.2.1 hs⟩
     unfold bV; dsimp only
     rw [fj (by omega)]) (false,0,t,g) ⟨0,t,rfl,Nat.zero_le _,fun _ h => h,Int.le_refl _,fun k h1 h2 => absurd h1 h2,fun k hk => absurd hk (Nat.not_lt_zero _)⟩
  obtain ⟨out,hr,hpost⟩:=hinv
  unfold bp dL
  rw [hr,oB]
  rcases out with u | u
  ·obtain ⟨h1,h2,h3,h4,h5,h6⟩:=hpost
   refine ⟨u.1,u.2.2.1,u.2.2.2,rfl,h2,h3,h4,h5,.inl ⟨h1,h6⟩⟩
  ·obtain ⟨h1,h2,h3⟩:=hpost
   have:=sr (nB:=y.fB.length) h3.sub
   refine ⟨false,u.2.2.1,u.2.2.2,rfl,by rw [h1]; exact hg,h2,by rw [h1]; omega,h3.sub,.inr ⟨rfl,h1,h3⟩⟩
theorem unt_all {nB : Nat} {T : Nat → Prop} : unt nB T ≤ (nB : Int):=by
 unfold unt
 induction nB with
 | zero => exact Int.le_refl _
 | succ n ih =>
  show sm n (fun k => off (T k)) + off (T n) ≤ _
  rcases kY (T n) with ⟨_,h⟩ | ⟨_,h⟩ <;> omega
theorem sQ {y : TY} (hB : y.fB.length ≤ 1000) (hO : y.fR.length ≤ 1000) {g : List (Int × Int)} {o : Nat} (ho : o < y.fR.length) (hg : OkG y.fB.length y.fR.length g) (hl : g.length + y.fB.length ≤ 100000) (hM : Mat (Su y) (cJ g)) (hn : ¬ Dom (cJ g) o) :
  ∃ r g',bT g y (o : Int) = some (r,g') ∧ OkG y.fB.length y.fR.length g' ∧ g'.length ≤ g.length + y.fB.length ∧ ((r = true ∧ Mat (Su y) (cJ g') ∧ ∀ x,Dom (cJ g') x ↔ x = o ∨ Dom (cJ g) x) ∨ (r = false ∧ g' = g ∧ ∃ C,Shut (Su y) C (cJ g) ∧ ∀ k,Su y o k → C k)):=by
 have hu:=unt_all (nB:=y.fB.length) (T:=tri [])
 have hM' : MatX (Su y) (tri []) (cJ g):=by rw [pX]; exact hM.x
 have hn' : ¬ rD (tri []) (cJ g) o:=by rw [pX]; exact fun h => hn (k7.1 h)
 obtain ⟨r,t',g',hr,h1,h2,h3,h4,h5⟩:=look y hB hO (y.fB.length + 2) o [] g ho hg (by omega) (by simp only [List.length_nil]; omega) (by omega) hM' hn'
 have hu':=f0 y.fB.length (tri t')
 refine ⟨r,g',?_,h1,by omega,?_⟩
 ·unfold bT
  rw [hr]; rfl
 ·rw [pX] at h5
  rcases h5 with ⟨e,hA⟩ | ⟨e,e',hA⟩
  ·exact .inl ⟨e,hA.mat0,hA.dom0⟩
  ·exact .inr ⟨e,e',_,hA.shut0,hA.own⟩
set_option linter.unusedSimpArgs false
theorem wo_out {y : TY} {i : Nat} (h : y.fR.length ≤ i) : wo y i = 0:=by
 unfold wo oat
 rw [List.getD_eq_getElem?_getD,List.getElem?_eq_none h]
 rfl
structure Fine (y : TY) : Prop where
 bays : y.fB.length ≤ 24
 ords : y.fR.length < 20
 low : ∀ i,0 ≤ wo y i
 high : ∀ i,wo y i ≤ 2000
theorem qV {n : Nat} {x : Int} : x ∈ po n ↔ ∃ k : Nat,x = (k : Int) ∧ k < n:=by
 unfold po
 rw [List.mem_map]
 exact ⟨fun ⟨k,hk,e⟩ => ⟨k,e.symm,List.mem_range.1 hk⟩,fun ⟨k,e,hk⟩ => ⟨k,List.mem_range.2 hk,e.symm⟩⟩
theorem rj (n : Nat) : (po n).Nodup:=by
 unfold po
 exact List.Pairwise.map (S:=fun a b : Int => a ≠ b) (fun k : Nat => (k : Int)) (fun a b hab he => hab (by have h2 : (a : Int) = (b : Int):=he; omega)) (List.nodup_range (n:=n))
theorem j4 (n : Nat) : (po n).length = n:=by simp [po]
theorem idxs_succ (n : Nat) : po (n + 1) = po n ++ [(n : Int)]:=by
 unfold po
 rw [List.range_succ,List.map_append]
 rfl
theorem qu {y : TY} (hy : Fine y) : ∃ g,gW y = some g ∧ OkG y.fB.length y.fR.length g ∧ Mat (Su y) (cJ g) ∧ ∃ q u,Prices (Su y) (wo y) y.fB.length y.fR.length (cJ g) q u:=by
 obtain ⟨hB,hO,hlow,hhigh⟩:=hy
 have e0 : aM (em y) (0,[]) = some ((y.fR.length : Int),po y.fR.length):=by
  have:=gK (body:=em y) (fun k => ((k : Int),po k)) y.fR.length (t:=((y.fR.length : Int),po y.fR.length)) (fun k hk => by
   unfold em; dsimp only
   rw [gr (by omega),gPo (by rw [j4]; omega),bn (by omega),idxs_succ]) (by
   unfold em; dsimp only
   rw [fj (by omega)])
  exact this
 have hmem : ∀ x ∈ po y.fR.length,0 ≤ x ∧ x < ((y.fR.length : Nat) : Int):=fun x hx => by
  obtain ⟨k,rfl,hk⟩:=qV.1 hx
  omega
 obtain ⟨s,hs1,hs2,hs3⟩:=sk (l:=po y.fR.length) (by rw [j4]; omega) (cmp:=fun x12 x13 => ff x12 x13 y) (fun a b => if (rdL y.fR b).fW < (rdL y.fR a).fW then -1 else if (rdL y.fR a).fW < (rdL y.fR b).fW then 1 else 0) (fun x => -(rdL y.fR x).fW) (fun a b ha hb => by
  refine ⟨?_,?_⟩
  ·unfold ff
   rw [gPo (hmem b hb),gPo (hmem a ha),rp]
   rfl
  ·by_cases a1 : (rdL y.fR b).fW < (rdL y.fR a).fW
   ·simp only [a1,if_true]; omega
   ·by_cases a2 : (rdL y.fR a).fW < (rdL y.fR b).fW
    ·simp only [a1,a2,if_true,if_false]; omega
    ·simp only [a1,a2,if_false]; omega)
 have hsl : s.length = y.fR.length:=by rw [hs2.length_eq,j4]
 have hsm : ∀ x,x ∈ s ↔ ∃ k : Nat,x = (k : Int) ∧ k < y.fR.length:=fun x => hs2.mem_iff.trans qV
 have hsn : s.Nodup:=hs2.nodup_iff.2 (rj _)
 have hF:=Su.fit y
 have hinv:=fF (body:=dK y ((y.fR.length : Int),po y.fR.length) s)
  (fun st => ∃ (k : Nat) (g : List (Int × Int)),st = ((k : Int),g) ∧ k ≤ y.fR.length ∧ OkG y.fB.length y.fR.length g ∧ g.length ≤ k * y.fB.length ∧ Mat (Su y) (cJ g) ∧ Greedy (Su y) (wo y) (fun x => (x : Int) ∈ s.take k) (Dom (cJ g)))
  (fun _ t => OkG y.fB.length y.fR.length t.2 ∧ Mat (Su y) (cJ t.2) ∧ Greedy (Su y) (wo y) (fun x => x < y.fR.length) (Dom (cJ t.2)))
  (fun st => y.fR.length - st.1.toNat) (by
   rintro _ ⟨k,g,rfl,hk,hg,hgl,hM,hG⟩
   rcases Nat.lt_or_ge k y.fR.length with hlt | hge
   ·left
    obtain ⟨o,eo,ho⟩:=(hsm s[k]).1 (List.getElem_mem _)
    have htake : s.take (k + 1) = s.take k ++ [(o : Int)]:=by rw [List.take_add_one,List.getElem?_eq_getElem (by omega),eo]; rfl
    have hnt : ¬ (o : Int) ∈ s.take k:=fun h => by
     have hn2 : (s.take (k + 1)).Nodup:=hsn.sublist (List.take_sublist _ _)
     rw [htake,List.nodup_append] at hn2
     exact hn2.2.2 _ h _ (by simp) rfl
    have hnd : ¬ Dom (cJ g) o:=fun h => hnt (hG.sub o h)
    have hmul : k * y.fB.length ≤ 20 * 24:=Nat.mul_le_mul (by omega) hB
    obtain ⟨r,g',hr,hg',hl',hcase⟩:=sQ (y:=y) (by omega) (by omega) ho hg (by omega) hM hnd
    have hbody : dK y ((y.fR.length : Int),po y.fR.length) s ((k : Int),g) = some (.inl (((k + 1 : Nat) : Int),g')):=by
     unfold dK; dsimp only
     rw [gr (by rw [j4]; omega),gPo (by rw [j4]; omega),d8 (by omega),eo,hr,bn (by omega)]
     rfl
    have hP : ∀ x : Nat,((x : Int) ∈ s.take k ∨ x = o) ↔ (x : Int) ∈ s.take (k + 1):=fun x => by
     rw [htake,List.mem_append,List.mem_singleton]
     exact or_congr Iff.rfl ⟨fun e => by rw [e],fun e => by omega⟩
    refine ⟨_,hbody,⟨k + 1,g',rfl,by omega,hg',by rw [Nat.succ_mul]; omega,?_⟩,by dsimp only; omega,fun t h => h⟩
    rcases hcase with ⟨_,hM',hd'⟩ | ⟨_,e,C,hC,hs⟩
    ·refine ⟨hM',?_⟩
     have hm : Matchable (Su y) (fun x => Dom (cJ g) x ∨ x = o):=⟨cJ g',hM',fun x => (hd' x).trans or_comm⟩
     exact (hG.yes hm).iff hP fun x => or_comm.trans (hd' x).symm
    ·subst e
     refine ⟨hM,?_⟩
     have hnm : ¬ Matchable (Su y) (fun x => Dom (cJ g') x ∨ x = o):=lg hF hM hC hnd hs (fun x hx => hx.elim .inr fun ⟨k1,_,e1⟩ => .inl ⟨k1,e1⟩)
     refine (hG.no hF (fun x hx => ?_) hnm).iff hP fun x => Iff.rfl
     have hpw:=List.pairwise_iff_getElem.1 hs3
     obtain ⟨j,hj,ej⟩:=List.mem_iff_getElem.1 hx
     rw [List.length_take] at hj
     rw [List.getElem_take] at ej
     have:=hpw j k (by omega) (by omega) (by omega)
     rw [ej,eo,fV,fV] at this
     unfold wo
     omega
   ·have hke : k = y.fR.length:=by omega
    subst hke
    refine .inr ⟨((y.fR.length : Int),g),?_,hg,hM,hG.iff (fun x => ?_) (fun x => Iff.rfl)⟩
    ·unfold dK; dsimp only
     rw [fj (by rw [j4]; omega)]
    ·rw [List.take_of_length_le (by omega),hsm]
     exact ⟨fun ⟨k,e,h⟩ => by omega,fun h => ⟨x,rfl,h⟩⟩) (0,[]) ⟨0,[],rfl,Nat.zero_le _,OkG.nil,by simp,by rw [qG]; exact ⟨fun _ _ e => (by cases e),fun _ _ _ e => (by cases e)⟩,Greedy.nil.iff (fun x => by simp) (fun x => ⟨False.elim,fun ⟨k,e⟩ => by cases e⟩)⟩
 obtain ⟨t,ht,h1,h2,h3⟩:=hinv
 refine ⟨t.2,?_,h1,h2,h3.prices hF hlow (fun i h => h) h2 (fun x => Iff.rfl)⟩
 unfold gW
 rw [e0,oB]
 dsimp only
 rw [hs1,oB]
 have ht' : aM (dK y ((y.fR.length : Int),po y.fR.length) s) (0,[]) = some t:=ht
 rw [ht']
 rfl
def nV (f : Int → Int) : List Int → Int
 | [] => 0
 | k :: ks => f k + nV f ks
theorem foldw {f : Int → Int} : ∀ (ks : List Int) (a : Int),(∀ k ∈ ks,0 ≤ f k ∧ f k ≤ 2000) → 0 ≤ a → a + 2000 * (ks.length : Int) ≤ 1000000000 → ks.foldl (fun a k => w64 (a + f k)) a = a + nV f ks
 | [],a,_,_,_ => by show a = a + 0; omega
 | k :: ks,a,h,h0,h1 => by
  have hk:=h k (List.mem_cons_self ..)
  rw [List.length_cons] at h1
  show ks.foldl (fun a k => w64 (a + f k)) (w64 (a + f k)) = a + (f k + nV f ks)
  rw [fq (by omega) (by omega),foldw ks (a + f k) (fun j hj => h j (List.mem_cons_of_mem _ hj)) (by omega) (by omega)]
  omega
open Classical in
theorem mO {f : Int → Int} {n : Nat} : ∀ (ks : List Int),ks.Nodup → (∀ k ∈ ks,∃ j : Nat,k = (j : Int) ∧ j < n) → nV f ks = sm n fun j => if (j : Int) ∈ ks then f (j : Int) else 0
 | [],_,_ => by rw [o4 fun i _ => by simp]; rfl
 | k :: ks,hn,h => by
  obtain ⟨j,rfl,hj⟩:=h k (List.mem_cons_self ..)
  rw [List.nodup_cons] at hn
  have ih:=mO (f:=f) (n:=n) ks hn.2 fun k hk => h k (List.mem_cons_of_mem _ hk)
  show f (j : Int) + nV f ks = _
  rw [ih]
  have:=jv (f:=fun i : Nat => if (i : Int) ∈ ks then f (i : Int) else 0) (g:=fun i : Nat => if (i : Int) ∈ (j : Int) :: ks then f (i : Int) else 0) hj (fun i _ hi => by
   have e : ((i : Int) ∈ (j : Int) :: ks) ↔ ((i : Int) ∈ ks):=by rw [List.mem_cons]; exact ⟨fun h => h.elim (fun e => absurd (by omega) hi) id,.inr⟩
   by_cases hc : (i : Int) ∈ ks
   ·rw [if_pos hc,if_pos (e.2 hc)]
   ·rw [if_neg hc,if_neg fun hh => hc (e.1 hh)])
  rw [this,if_neg hn.1,if_pos (List.mem_cons_self ..)]
  omega
theorem gO {nB nO : Nat} {g : List (Int × Int)} (hg : OkG nB nO g) : ∀ k ∈ d4 g,∃ j o : Nat,k = (j : Int) ∧ j < nB ∧ cJ g j = some o ∧ o < nO ∧ ar 0 g k = (o : Int):=fun k hk => by
 have h1:=(fk g k).1 hk
 obtain ⟨p,hp,e⟩:=List.mem_map.1 (mhas_mem.1 h1)
 obtain ⟨j,o,rfl,hj,_⟩:=hg p hp
 dsimp only at e
 subst e
 cases hh : cJ g j with
 | none => rw [rf hh] at h1; cases h1
 | some x =>
  obtain ⟨_,h2,_,h3⟩:=kX hg hh
  exact ⟨j,x,rfl,hj,hh,h3,h2⟩
open Classical in
theorem keys_sum {nB nO : Nat} {g : List (Int × Int)} (hg : OkG nB nO g) {y : TY} : nV (fun k => (rdL y.fR (ar 0 g k)).fW) (d4 g) = wor nB (wo y) (cJ g):=by
 rw [mO (n:=nB) (d4 g) (f8 g) (fun k hk => by obtain ⟨j,o,e,hj,_⟩:=gO hg k hk; exact ⟨j,e,hj⟩)]
 unfold wor
 refine cx fun j _ => ?_
 by_cases hk : (j : Int) ∈ d4 g
 ·rw [if_pos hk]
  obtain ⟨j',o,e,_,hh,_,hm⟩:=gO hg _ hk
  have : j = j':=by omega
  subst this
  rw [hh,hm,fV]
  rfl
 ·rw [if_neg hk]
  cases hh : cJ g j with
  | none => rfl
  | some x => exact absurd ((fk g _).2 (kX hg hh).1) hk
theorem keys_len {nB nO : Nat} {g : List (Int × Int)} (hg : OkG nB nO g) : (d4 g).length ≤ nB:=by
 have h1 : ∀ (ks : List Int),nV (fun _ => 1) ks = (ks.length : Int):=fun ks => by
  induction ks with
  | nil => rfl
  | cons k ks ih => show 1 + nV (fun _ => 1) ks = _; rw [ih,List.length_cons]; omega
 have h2:=mO (f:=fun _ => 1) (n:=nB) (d4 g) (f8 g) (fun k hk => by obtain ⟨j,o,e,hj,_⟩:=gO hg k hk; exact ⟨j,e,hj⟩)
 have h3 : ∀ n,sm n (fun _ => 1) = (n : Int):=fun n => by
  induction n with
  | zero => rfl
  | succ n ih => show sm n (fun _ => 1) + 1 = _; rw [ih]; omega
 have h4:=h3 nB
 have h5 : sm nB (fun j => if (j : Int) ∈ d4 g then (1 : Int) else 0) ≤ sm nB (fun _ => 1):=mP fun i _ => by split <;> omega
 rw [h1] at h2
 omega
theorem pB {y : TY} (hy : Fine y) {g : List (Int × Int)} (hg : OkG y.fB.length y.fR.length g) : cV g y = some (wor y.fB.length (wo y) (cJ g)):=by
 unfold cV
 have hB:=hy.bays
 have hl:=keys_len hg
 rw [gPo (List.all_eq_true.2 fun k hk => by
  obtain ⟨j,o,rfl,hj,_,ho,hm⟩:=gO hg k hk
  rw [Bool.and_eq_true]
  exact ⟨jQ (by omega),decide_eq_true (by rw [hm]; omega)⟩)]
 rw [foldw (d4 g) 0 (fun k hk => by
  obtain ⟨j,o,rfl,hj,_,ho,hm⟩:=gO hg k hk
  rw [hm,fV]
  exact ⟨hy.low o,hy.high o⟩) (Int.le_refl _) (by omega),keys_sum hg,Int.zero_add]
theorem worth_ok {y : TY} (hy : Fine y) : ∃ V,cU y = some V ∧ Opt (Su y) (wo y) y.fB.length V:=by
 obtain ⟨g,h1,h2,h3,q,u,h4⟩:=qu hy
 refine ⟨_,?_,h4.opt (Su.fit y) h3⟩
 unfold cU
 rw [h1,oB,pB hy h2]
 rfl
theorem Opt.bound {S : Nat → Nat → Prop} {w : Nat → Int} {nB : Nat} {V : Int} (h : Opt S w nB V) (hl : ∀ i,0 ≤ w i) (hw : ∀ i,w i ≤ 2000) : 0 ≤ V ∧ V ≤ 2000 * (nB : Int):=by
 obtain ⟨m,_,e⟩:=h.some
 have h1 : ∀ n,sm n (fun k => ov w (m k)) ≤ 2000 * (n : Int):=fun n => by
  induction n with
  | zero => exact Int.le_refl _
  | succ n ih =>
   show sm n (fun k => ov w (m k)) + ov w (m n) ≤ _
   have : ov w (m n) ≤ 2000:=by
    cases m n with
    | none => show (0 : Int) ≤ 2000; omega
    | some x => exact hw x
   omega
 have h2 : 0 ≤ wor nB w m:=pC fun k _ => by
  cases m k with
  | none => exact Int.le_refl _
  | some x => exact hl x
 have:=h1 nB
 unfold wor at h2 e
 omega
set_option linter.unusedSimpArgs false
def rz (b : TBay) : Bool:=decide (1 ≤ b.fID ∧ b.fID ≤ 1099511627776) && (decide (0 ≤ b.fHour ∧ b.fHour ≤ 16384) && decide (0 ≤ b.fD ∧ b.fD ≤ 9))
def rt (o : TO) : Bool:=decide (1 ≤ o.fID ∧ o.fID ≤ 1099511627776) && (decide (0 ≤ o.fH.fLo ∧ o.fH.fLo ≤ 16384) && (decide (0 ≤ o.fH.fHi ∧ o.fH.fHi ≤ 16384) && (!decide (o.fH.fHi < o.fH.fLo) && (decide (0 ≤ o.fD ∧ o.fD ≤ 9) && decide (1 ≤ o.fW ∧ o.fW ≤ 1000)))))
def mg {α : Type} [Inhabited α] (l : List α) (ok : α → Bool) (id : α → Int) (k : Nat) : Option Int:=if ok (l.getD k default) = false then some 1 else if kJ l (fun x => id x == id (l.getD k default)) < (k : Int) then some 6 else none
def kv {α : Type} [Inhabited α] (l : List α) (ok : α → Bool) (id : α → Int) : Option Int:=(List.range l.length).findSome? (mg l ok id)
def lF (y : TY) : Int:=if y.fB.length > 24 ∨ y.fR.length > 24 then 2 else match kv y.fB rz (·.fID) with
 | some e => e
 | none => (kv y.fR rt (·.fID)).getD 0
theorem jW {α : Type} [Inhabited α] {l : List α} {ok : α → Bool} {id : α → Int} : kv l ok id = none ↔ (∀ x ∈ l,ok x = true) ∧ (l.map id).Nodup:=by
 unfold kv
 rw [List.findSome?_eq_none_iff]
 constructor
 ·intro h
  have h1 : ∀ k,(hk : k < l.length) → ok l[k] = true ∧ ¬ kJ l (fun x => id x == id l[k]) < (k : Int):=fun k hk => by
   have:=h k (List.mem_range.2 hk)
   unfold mg at this
   rw [dh hk] at this
   split at this
   ·cases this
   ·split at this
    ·cases this
    ·rename_i a b
     exact ⟨by cases hh : ok l[k]; exact absurd hh a; rfl,b⟩
  refine ⟨fun x hx => ?_,jP.1 fun k hk => (h1 k hk).2⟩
  obtain ⟨k,hk,rfl⟩:=List.mem_iff_getElem.1 hx
  exact (h1 k hk).1
 ·rintro ⟨h1,h2⟩ k hk
  have hk':=List.mem_range.1 hk
  unfold mg
  rw [dh hk',if_neg (by rw [h1 _ (List.getElem_mem hk')]; simp),if_neg (jP.2 h2 k hk')]
theorem nM {α : Type} [Inhabited α] {l : List α} {ok : α → Bool} {id : α → Int} {e : Int} (h : kv l ok id = some e) : e = 1 ∨ e = 6:=by
 obtain ⟨k,hk,he⟩:=List.exists_of_findSome?_eq_some h
 unfold mg at he
 split at he
 ·cases he; exact .inl rfl
 ·split at he
  ·cases he; exact .inr rfl
  ·cases he
structure Good (y : TY) : Prop where
 bays : y.fB.length ≤ 24
 ords : y.fR.length ≤ 24
 bay : ∀ b ∈ y.fB,rz b = true
 ord : ∀ o ∈ y.fR,rt o = true
 bayN : (y.fB.map (·.fID)).Nodup
 ordN : (y.fR.map (·.fID)).Nodup
theorem fY {y : TY} : lF y = 0 ↔ Good y:=by
 unfold lF
 constructor
 ·intro h
  split at h
  ·cases h
  ·rename_i hl
   cases hb : kv y.fB rz (·.fID) with
   | some e => rw [hb] at h; dsimp only at h; have:=nM hb; omega
   | none =>
    rw [hb] at h
    dsimp only at h
    cases ho : kv y.fR rt (·.fID) with
    | some e => rw [ho] at h; simp only [Option.getD_some] at h; have:=nM ho; omega
    | none =>
     obtain ⟨b1,b2⟩:=jW.1 hb
     obtain ⟨o1,o2⟩:=jW.1 ho
     exact ⟨by omega,by omega,b1,o1,b2,o2⟩
 ·intro h
  rw [if_neg (by have:=h.bays; have:=h.ords; omega),jW.2 ⟨h.bay,h.bayN⟩,jW.2 ⟨h.ord,h.ordN⟩]
  rfl
theorem sa {n : Nat} (R : Nat → Option Int) : (List.range n).findSome? (fun k => (R k).map fun e => (Sum.inl (e,(k : Int)) : (Int × Int) ⊕ (Int × Int))) = none ∧ (List.range n).findSome? R = none ∨ ∃ e k,(List.range n).findSome? (fun k => (R k).map fun e => (Sum.inl (e,(k : Int)) : (Int × Int) ⊕ (Int × Int))) = some (.inl (e,k)) ∧ (List.range n).findSome? R = some e:=by
 induction n with
 | zero => exact .inl ⟨rfl,rfl⟩
 | succ n ih =>
  rw [List.range_succ,List.findSome?_append,List.findSome?_append]
  rcases ih with ⟨h1,h2⟩ | ⟨e,k,h1,h2⟩
  ·rw [h1,h2]
   cases hR : R n with
   | none => exact .inl (by simp [hR])
   | some e => exact .inr ⟨e,(n : Int),by simp [hR]⟩
  ·rw [h1,h2]
   exact .inr ⟨e,k,rfl,rfl⟩
theorem j3 {body : (Int × Int) → Option ((Int × Int) ⊕ ((Int × Int) ⊕ (Int × Int)))} {n : Nat} (R : Nat → Option Int) {e0 : Int} (h : ∀ k,k < n → body (e0,(k : Int)) = some (match R k with | none => .inl (e0,((k + 1 : Nat) : Int)) | some e => .inr (.inl (e,(k : Int))))) (hs : body (e0,(n : Int)) = some (.inr (.inr (e0,(n : Int))))) :
  ((List.range n).findSome? R = none ∧ aM body (e0,0) = some (.inr (e0,(n : Int)))) ∨ ∃ e k,(List.range n).findSome? R = some e ∧ aM body (e0,0) = some (.inl (e,k)):=by
 have:=fU (body:=body) (fun k => (e0,(k : Int))) n (fun k => (R k).map fun e => (Sum.inl (e,(k : Int)) : (Int × Int) ⊕ (Int × Int))) (t0:=.inr (e0,(n : Int))) (fun k hk => by
  rw [h k hk]
  cases R k <;> rfl) hs
 have h0 : aM body (e0,0) = _:=this
 rw [h0]
 rcases sa (n:=n) R with ⟨h1,h2⟩ | ⟨e,k,h1,h2⟩
 ·exact .inl ⟨h2,by rw [h1]; rfl⟩
 ·exact .inr ⟨e,k,h2,by rw [h1]; rfl⟩
theorem gy (y : TY) : bF y = some (lF y):=by
 unfold bF lF
 by_cases hl : y.fB.length > 24 ∨ y.fR.length > 24
 ·rw [if_pos hl,if_pos (by rw [Bool.or_eq_true,decide_eq_true_eq,decide_eq_true_eq]; omega)]
 ·rw [if_neg hl,if_neg (by rw [Bool.or_eq_true,decide_eq_true_eq,decide_eq_true_eq]; omega)]
  have hb:=j3 (body:=dv y) (n:=y.fB.length) (mg y.fB rz (·.fID)) (e0:=0) (fun k hk => by
   unfold dv; dsimp only
   rw [gr (by omega),gPo (by omega)]
   simp only [d8 hk,jA,hour_eq,oB,sZ (show y.fB.length < 1000000000 by omega),bn (show k < 9223372036854775807 by omega)]
   unfold mg rz im
   rw [dh hk]
   by_cases c1 : 1 ≤ y.fB[k].fID ∧ y.fB[k].fID ≤ 1099511627776 <;> by_cases c2 : 0 ≤ y.fB[k].fHour ∧ y.fB[k].fHour ≤ 16384 <;> by_cases c3 : 0 ≤ y.fB[k].fD ∧ y.fB[k].fD ≤ 9 <;> by_cases c4 : kJ y.fB (fun x => x.fID == y.fB[k].fID) < (k : Int) <;> simp [c1,c2,c3,c4]) (by
   unfold dv; dsimp only
   rw [fj (by omega)])
  have ho:=j3 (body:=dB y) (n:=y.fR.length) (mg y.fR rt (·.fID)) (e0:=0) (fun k hk => by
   unfold dB; dsimp only
   rw [gr (by omega),gPo (by omega)]
   simp only [d8 hk,jA,hour_eq,oB,order_eq (show y.fR.length < 1000000000 by omega),bn (show k < 9223372036854775807 by omega)]
   unfold mg rt orderI
   rw [dh hk]
   by_cases c1 : 1 ≤ y.fR[k].fID ∧ y.fR[k].fID ≤ 1099511627776 <;> by_cases c2 : 0 ≤ y.fR[k].fH.fLo ∧ y.fR[k].fH.fLo ≤ 16384 <;> by_cases c3 : 0 ≤ y.fR[k].fH.fHi ∧ y.fR[k].fH.fHi ≤ 16384 <;> by_cases c5 : y.fR[k].fH.fHi < y.fR[k].fH.fLo <;> by_cases c6 : 0 ≤ y.fR[k].fD ∧ y.fR[k].fD ≤ 9 <;> by_cases c7 : 1 ≤ y.fR[k].fW ∧ y.fR[k].fW ≤ 1000 <;> by_cases c4 : kJ y.fR (fun x => x.fID == y.fR[k].fID) < (k : Int) <;> simp [c1,c2,c3,c4,c5,c6,c7]) (by
   unfold dB; dsimp only
   rw [fj (by omega)])
  rcases hb with ⟨h1,h2⟩ | ⟨e,k,h1,h2⟩
  ·rw [h2,oB]
   dsimp only
   rw [show kv y.fB rz (·.fID) = none from h1]
   rcases ho with ⟨h3,h4⟩ | ⟨e,k,h3,h4⟩
   ·rw [h4]
    rw [show kv y.fR rt (·.fID) = none from h3]
    rfl
   ·rw [h4]
    rw [show kv y.fR rt (·.fID) = some e from h3]
    rfl
  ·rw [h2]
   rw [show kv y.fB rz (·.fID) = some e from h1]
   rfl
theorem nY {α : Type} [Inhabited α] {l : List α} {f : α → Int} {k : Nat} (hk : k < l.length) : kJ l (fun x => f x == f l[k]) < (k : Int) ↔ (List.range k).findSome? (fun j => if (f (l.getD j default) == f l[k]) = true then some (6 : Int) else none) ≠ none:=by
 rw [r5 hk]
 constructor
 ·rintro ⟨j,hj,e⟩ h
  have:=List.findSome?_eq_none_iff.1 h j (List.mem_range.2 hj)
  rw [dh (by omega),e] at this
  simp at this
 ·intro h
  by_cases hc : ∃ j,∃ h : j < k,f (l[j]'(by omega)) = f l[k]
  ·exact hc
  ·exfalso
   apply h
   rw [List.findSome?_eq_none_iff]
   intro j hj
   have hj':=List.mem_range.1 hj
   rw [dh (by omega),if_neg (by simp; exact fun e => hc ⟨j,hj',e⟩)]
theorem six {n : Nat} {q : Nat → Bool} {e : Int} (h : (List.range n).findSome? (fun j => if q j = true then some (6 : Int) else none) = some e) : e = 6:=by
 obtain ⟨k,hk,he⟩:=List.exists_of_findSome?_eq_some h
 split at he
 ·cases he; rfl
 ·cases he
theorem gT (y : TY) : cG y = some (lF y):=by
 unfold cG lF
 by_cases hl : y.fB.length > 24 ∨ y.fR.length > 24
 ·rw [if_pos hl,if_pos (by rw [Bool.or_eq_true,decide_eq_true_eq,decide_eq_true_eq]; omega)]
 ·rw [if_neg hl,if_neg (by rw [Bool.or_eq_true,decide_eq_true_eq,decide_eq_true_eq]; omega)]
  have hb:=j3 (body:=cX y) (n:=y.fB.length) (mg y.fB rz (·.fID)) (e0:=0) (fun k hk => by
   unfold cX; dsimp only
   rw [gr (by omega),gPo (by omega)]
   simp only [d8 hk,gV,re,oB,bn (show k < 9223372036854775807 by omega)]
   have hin:=j3 (body:=da y (0,(k : Int))) (n:=k) (fun j => if ((y.fB.getD j default).fID == y.fB[k].fID) = true then some 6 else none) (e0:=0) (fun j hj => by
    unfold da; dsimp only
    rw [gr (by omega),gPo (by omega)]
    simp only [d8 hk,d8 (show j < y.fB.length by omega),dh (show j < y.fB.length by omega),bn (show j < 9223372036854775807 by omega)]
    cases (y.fB[j].fID == y.fB[k].fID) <;> rfl) (by
    unfold da; dsimp only
    rw [fj (by omega)])
   have hid:=nY (l:=y.fB) (f:=(·.fID)) hk
   unfold mg rz
   rw [dh hk]
   rcases hin with ⟨h1,h2⟩ | ⟨e,i,h1,h2⟩
   ·rw [h2]
    have c4 : ¬ kJ y.fB (fun x => x.fID == y.fB[k].fID) < (k : Int):=fun h => hid.1 h h1
    by_cases c1 : 1 ≤ y.fB[k].fID ∧ y.fB[k].fID ≤ 1099511627776 <;> by_cases c2 : 0 ≤ y.fB[k].fHour ∧ y.fB[k].fHour ≤ 16384 <;> by_cases c3 : 0 ≤ y.fB[k].fD ∧ y.fB[k].fD ≤ 9 <;> simp [c1,c2,c3,c4]
   ·rw [h2]
    have e6:=six h1
    subst e6
    have c4 : kJ y.fB (fun x => x.fID == y.fB[k].fID) < (k : Int):=hid.2 (by rw [h1]; simp)
    by_cases c1 : 1 ≤ y.fB[k].fID ∧ y.fB[k].fID ≤ 1099511627776 <;> by_cases c2 : 0 ≤ y.fB[k].fHour ∧ y.fB[k].fHour ≤ 16384 <;> by_cases c3 : 0 ≤ y.fB[k].fD ∧ y.fB[k].fD ≤ 9 <;> simp [c1,c2,c3,c4]) (by
   unfold cX; dsimp only
   rw [fj (by omega)])
  have ho:=j3 (body:=dc y) (n:=y.fR.length) (mg y.fR rt (·.fID)) (e0:=0) (fun k hk => by
   unfold dc; dsimp only
   rw [gr (by omega),gPo (by omega)]
   simp only [d8 hk,gV,re,oB,bn (show k < 9223372036854775807 by omega)]
   have hin:=j3 (body:=db y (0,(k : Int))) (n:=k) (fun j => if ((y.fR.getD j default).fID == y.fR[k].fID) = true then some 6 else none) (e0:=0) (fun j hj => by
    unfold db; dsimp only
    rw [gr (by omega),gPo (by omega)]
    simp only [d8 hk,d8 (show j < y.fR.length by omega),dh (show j < y.fR.length by omega),bn (show j < 9223372036854775807 by omega)]
    cases (y.fR[j].fID == y.fR[k].fID) <;> rfl) (by
    unfold db; dsimp only
    rw [fj (by omega)])
   have hid:=nY (l:=y.fR) (f:=(·.fID)) hk
   unfold mg rt
   rw [dh hk]
   rcases hin with ⟨h1,h2⟩ | ⟨e,i,h1,h2⟩
   ·rw [h2]
    have c4 : ¬ kJ y.fR (fun x => x.fID == y.fR[k].fID) < (k : Int):=fun h => hid.1 h h1
    by_cases c1 : 1 ≤ y.fR[k].fID ∧ y.fR[k].fID ≤ 1099511627776 <;> by_cases c2 : 0 ≤ y.fR[k].fH.fLo ∧ y.fR[k].fH.fLo ≤ 16384 <;> by_cases c3 : 0 ≤ y.fR[k].fH.fHi ∧ y.fR[k].fH.fHi ≤ 16384 <;> by_cases c5 : y.fR[k].fH.fHi < y.fR[k].fH.fLo <;> by_cases c6 : 0 ≤ y.fR[k].fD ∧ y.fR[k].fD ≤ 9 <;> by_cases c7 : 1 ≤ y.fR[k].fW ∧ y.fR[k].fW ≤ 1000 <;> simp [c1,c2,c3,c4,c5,c6,c7]
   ·rw [h2]
    have e6:=six h1
    subst e6
    have c4 : kJ y.fR (fun x => x.fID == y.fR[k].fID) < (k : Int):=hid.2 (by rw [h1]; simp)
    by_cases c1 : 1 ≤ y.fR[k].fID ∧ y.fR[k].fID ≤ 1099511627776 <;> by_cases c2 : 0 ≤ y.fR[k].fH.fLo ∧ y.fR[k].fH.fLo ≤ 16384 <;> by_cases c3 : 0 ≤ y.fR[k].fH.fHi ∧ y.fR[k].fH.fHi ≤ 16384 <;> by_cases c5 : y.fR[k].fH.fHi < y.fR[k].fH.fLo <;> by_cases c6 : 0 ≤ y.fR[k].fD ∧ y.fR[k].fD ≤ 9 <;> by_cases c7 : 1 ≤ y.fR[k].fW ∧ y.fR[k].fW ≤ 1000 <;> simp [c1,c2,c3,c4,c5,c6,c7]) (by
   unfold dc; dsimp only
   rw [fj (by omega)])
  rcases hb with ⟨h1,h2⟩ | ⟨e,k,h1,h2⟩
  ·rw [h2,oB]
   dsimp only
   rw [show kv y.fB rz (·.fID) = none from h1]
   rcases ho with ⟨h3,h4⟩ | ⟨e,k,h3,h4⟩
   ·rw [h4]
    rw [show kv y.fR rt (·.fID) = none from h3]
    rfl
   ·rw [h4]
    rw [show kv y.fR rt (·.fID) = some e from h3]
    rfl
  ·rw [h2]
   rw [show kv y.fB rz (·.fID) = some e from h1]
   rfl
theorem Good.fine {y : TY} (h : Good y) (h9 : y.fR.length < 20) : Fine y:=by
 have hw : ∀ i,i < y.fR.length → 1 ≤ wo y i ∧ wo y i ≤ 1000:=fun i hi => by
  have:=h.ord y.fR[i] (List.getElem_mem hi)
  unfold rt at this
  simp only [Bool.and_eq_true,decide_eq_true_eq] at this
  unfold wo oat
  rw [dh hi]
  exact this.2.2.2.2.2
 refine ⟨h.bays,h9,fun i => ?_,fun i => ?_⟩
 ·rcases Nat.lt_or_ge i y.fR.length with hi | hi
  ·have:=hw i hi; omega
  ·rw [wo_out hi]; omega
 ·rcases Nat.lt_or_ge i y.fR.length with hi | hi
  ·have:=hw i hi; omega
  ·rw [wo_out hi]; omega
theorem Good.worth {y : TY} (h : Good y) {i : Nat} (hi : i < y.fR.length) : 1 ≤ wo y i ∧ wo y i ≤ 1000:=by
 have:=h.ord y.fR[i] (List.getElem_mem hi)
 unfold rt at this
 simp only [Bool.and_eq_true,decide_eq_true_eq] at this
 unfold wo oat
 rw [dh hi]
 exact this.2.2.2.2.2
set_option linter.unusedSimpArgs false
theorem rV {α : Type} [Inhabited α] (l : List α) {k : Nat} (hk : k < l.length) (j : Nat) : (l.take k ++ l.drop (k + 1)).getD j default = l.getD (shf k j) default:=by
 unfold shf
 rw [List.getD_eq_getElem?_getD,List.getD_eq_getElem?_getD]
 by_cases h : j < k
 ·rw [if_pos h,List.getElem?_append_left (by rw [List.length_take]; omega),List.getElem?_take_of_lt h]
 ·rw [if_neg h,List.getElem?_append_right (by rw [List.length_take]; omega),List.getElem?_drop,List.length_take]
  congr 2
  omega
def wout (y : TY) (k : Nat) : TY:=⟨y.fB.take k ++ y.fB.drop (k + 1),y.fR⟩
theorem oU {y : TY} {k : Nat} (hk : k < y.fB.length) : (wout y k).fB.length = y.fB.length - 1:=by
 unfold wout
 rw [List.length_append,List.length_take,List.length_drop]; omega
theorem Su_wout {y : TY} {k : Nat} (hk : k < y.fB.length) (o j : Nat) : Su (wout y k) o j ↔ Su y o (shf k j):=by
 unfold Su
 rw [oU hk]
 have e : bat (wout y k) j = bat y (shf k j):=rV y.fB hk j
 rw [e]
 have e2 : (j < y.fB.length - 1) ↔ (shf k j < y.fB.length):=by
  unfold shf
  by_cases h : j < k
  ·rw [if_pos h]; omega
  ·rw [if_neg h]; omega
 rw [e2]
 exact Iff.rfl
theorem rJ {y : TY} {k : Nat} (hk : k < y.fB.length) (hB : y.fB.length ≤ 1000) : fg y (k : Int) = some (wout y k):=by
 unfold fg dm cZ
 rw [gPo (by omega),oB,List.nil_append,bn (by omega),gPo (by omega),if_neg (by simp; omega),gPo (by omega),gPo (by omega),gPo (by omega),oB,Int.toNat_natCast,Int.toNat_natCast]
 rfl
theorem opt_skip {S S' : Nat → Nat → Prop} {w : Nat → Int} {n k : Nat} (hk : k ≤ n) (hS : ∀ o j,S' o j ↔ S o (shf k j)) {V : Int} (h : Opt S' w n V) : Opt (fun i j => S i j ∧ j ≠ k) w (n + 1) V:=by
 refine ⟨?_,fun m hm => ?_⟩
 ·obtain ⟨m,hm,e⟩:=h.some
  refine ⟨fun j => if j = k then none else m (uns k j),⟨fun j o ej => ?_,fun j j' o ej ej' => ?_⟩,?_⟩
  ·by_cases hj : j = k
   ·simp only [hj,if_true] at ej; cases ej
   ·simp only [if_neg hj] at ej
    have:=(hS o (uns k j)).1 (hm.suit _ o ej)
    rw [pP hj] at this
    exact ⟨this,hj⟩
  ·by_cases hj : j = k
   ·simp only [hj,if_true] at ej; cases ej
   ·by_cases hj' : j' = k
    ·simp only [hj',if_true] at ej'; cases ej'
    ·simp only [if_neg hj] at ej
     simp only [if_neg hj'] at ej'
     have:=hm.inj _ _ o ej ej'
     rw [← pP hj,this,pP hj']
  ·rw [← e]
   unfold wor
   rw [pQ _ k n hk]
   simp only [if_true]
   rw [cx (g:=fun j => ov w (m j)) fun j _ => by simp only [if_neg (shf_ne k j),qi]]
   show _ + (0 : Int) = _
   omega
 ·have hn : m k = none:=by
   cases e : m k with
   | none => rfl
   | some x => exact absurd rfl (hm.suit k x e).2
  have : sm n (fun j => ov w (m (shf k j))) ≤ V:=h.most (fun j => m (shf k j)) ⟨fun j o e => (hS o j).2 (hm.suit _ o e).1,fun j j' o e e' => by
   have:=hm.inj _ _ o e e'
   rw [← qi k j,this,qi]⟩
  unfold wor
  rw [pQ _ k n hk,hn]
  show _ + (0 : Int) ≤ _
  omega
theorem Opt.wout {y : TY} {k : Nat} (hk : k < y.fB.length) {V : Int} (h : Opt (Su (Go.Proofs.YthndghnkebboaaaGreat.wout y k)) (wo (Go.Proofs.YthndghnkebboaaaGreat.wout y k)) (Go.Proofs.YthndghnkebboaaaGreat.wout y k).fB.length V) : Opt (fun i j => Su y i j ∧ j ≠ k) (wo y) y.fB.length V:=by
 rw [oU hk] at h
 obtain ⟨n,hn⟩ : ∃ n,y.fB.length = n + 1:=⟨y.fB.length - 1,by omega⟩
 have h' : Opt (Su (Go.Proofs.YthndghnkebboaaaGreat.wout y k)) (wo y) n V:=by
  have : y.fB.length - 1 = n:=by omega
  rw [this] at h
  exact h
 have:=opt_skip (by omega) (Su_wout hk) h'
 rw [hn]
 exact this
theorem Fine.wout {y : TY} (h : Fine y) {k : Nat} (hk : k < y.fB.length) : Fine (Go.Proofs.YthndghnkebboaaaGreat.wout y k):=⟨by rw [oU hk]; have:=h.bays; omega,h.ords,h.low,h.high⟩
theorem rG {y : TY} (hy : Fine y) {k : Nat} (hk : k < y.fB.length) {h : Nat → Option Nat} (hM : Mat (Su y) h) {q u : Nat → Int} (hp : Prices (Su y) (wo y) y.fB.length y.fR.length h q u) : cU (Go.Proofs.YthndghnkebboaaaGreat.wout y k) = some (wor y.fB.length (wo y) h - q k):=by
 obtain ⟨V,h1,h2⟩:=worth_ok (hy.wout hk)
 rw [h1,(h2.wout hk).unique (hp.without (Su.fit y) hM hk)]
theorem qR {α : Type} (i : α → Nat) (v : α → Int) : ∀ (ks : List α) (a : List Int),(ks.foldl (fun a k => a.set (i k) (v k)) a).length = a.length
 | [],a => rfl
 | k :: ks,a => by
  show (ks.foldl (fun a k => a.set (i k) (v k)) (a.set (i k) (v k))).length = _
  rw [qR i v ks,List.length_set]
theorem m6 {α : Type} (i : α → Nat) (v : α → Int) (p : Nat) : ∀ (ks : List α) (a : List Int),(∀ k ∈ ks,i k ≠ p) → (ks.foldl (fun a k => a.set (i k) (v k)) a).getD p 0 = a.getD p 0
 | [],a,_ => rfl
 | k :: ks,a,h => by
  show (ks.foldl (fun a k => a.set (i k) (v k)) (a.set (i k) (v k))).getD p 0 = _
  rw [m6 i v p ks _ fun j hj => h j (List.mem_cons_of_mem _ hj),List.getD_eq_getElem?_getD,List.getD_eq_getElem?_getD,List.getElem?_set_ne (h k (List.mem_cons_self ..))]
theorem qq {α : Type} (i : α → Nat) (v : α → Int) {k : α} : ∀ (ks : List α) (a : List Int),(ks.map i).Nodup → k ∈ ks → i k < a.length → (ks.foldl (fun a k => a.set (i k) (v k)) a).getD (i k) 0 = v k
 | [],a,_,h,_ => by cases h
 | x :: ks,a,hn,h,hl => by
  rw [List.map_cons,List.nodup_cons] at hn
  show (ks.foldl (fun a k => a.set (i k) (v k)) (a.set (i x) (v x))).getD (i k) 0 = _
  rcases List.mem_cons.1 h with rfl | h
  ·rw [m6 i v (i k) ks _ fun j hj e => hn.1 (List.mem_map.2 ⟨j,hj,e⟩),List.getD_eq_getElem?_getD,List.getElem?_set_self hl]
   rfl
  ·exact qq i v ks _ hn.2 h (by rw [List.length_set]; exact hl)
structure PlanOf (y : TY) (h : Nat → Option Nat) (q : Nat → Int) (p : TPlan) : Prop where
 worth : p.fW = wor y.fB.length (wo y) h
 len : p.fG.length = y.fR.length
 got : ∀ o k,h k = some o → p.fG.getD o 0 = (bat y k).fID
 not : ∀ o,¬ Dom h o → p.fG.getD o 0 = 0
 plen : p.fPrices.length = y.fB.length
 price : ∀ k,k < y.fB.length → p.fPrices.getD k 0 = q k
theorem sC {y : TY} (hy : Fine y) {g : List (Int × Int)} (hg : OkG y.fB.length y.fR.length g) (hM : Mat (Su y) (cJ g)) {q u : Nat → Int} (hp : Prices (Su y) (wo y) y.fB.length y.fR.length (cJ g) q u) : ∃ p,fv y g = some p ∧ PlanOf y (cJ g) q p:=by
 have hB:=hy.bays
 have hO:=hy.ords
 have hopt:=hp.opt (Su.fit y) hM
 have hbd:=hopt.bound hy.low hy.high
 have hq : ∀ k,0 ≤ q k ∧ q k ≤ 2000:=fun k => ⟨hp.q0 k,by
  cases e : cJ g k with
  | none => rw [hp.free k e]; omega
  | some x => have:=hp.held k x e; have:=hy.high x; omega⟩
 have hnd : ((d4 g).map (fun y12 => Int.toNat (ar 0 g y12))).Nodup:=by
  rw [List.Nodup,List.pairwise_map]
  refine List.Pairwise.imp_of_mem (R:=fun a b => a ≠ b) (fun {a b} ha hb hab e => hab ?_) (f8 g)
  obtain ⟨j,o,rfl,_,e1,_,m1⟩:=gO hg a ha
  obtain ⟨j',o',rfl,_,e2,_,m2⟩:=gO hg b hb
  have : o = o':=by rw [m1,m2] at e; simpa using e
  subst this
  rw [hM.inj j j' o e1 e2]
 have hlen0 : (List.replicate (Int.toNat ((y.fR.length : Nat) : Int)) (0 : Int)).length = y.fR.length:=by rw [List.length_replicate,Int.toNat_natCast]
 have hrun : aM (fb y (wor y.fB.length (wo y) (cJ g))) (0,[]) = some ((y.fB.length : Int),(List.range y.fB.length).map q):=by
  have:=gK (body:=fb y (wor y.fB.length (wo y) (cJ g))) (fun k => ((k : Int),(List.range k).map q)) y.fB.length (t:=((y.fB.length : Int),(List.range y.fB.length).map q)) (fun k hk => by
   have hqk:=hq k
   unfold fb; dsimp only
   rw [gr (by omega),rJ hk (by omega),oB]
   rw [show cU (TY.mk (wout y k).fB y.fR) = some (wor y.fB.length (wo y) (cJ g) - q k) from rG hy hk hM hp]
   rw [oB,gPo (by rw [List.length_map,List.length_range]; omega),bn (by omega),fq (by omega) (by omega),List.range_succ,List.map_append]
   refine congrArg some (congrArg Sum.inl (Prod.ext rfl ?_))
   show _ ++ [_] = _ ++ [_]
   congr 2
   omega) (by
   unfold fb; dsimp only
   rw [fj (by omega)])
  exact this
 refine ⟨_,by
  unfold fv
  rw [gPo (by omega),pB hy hg,oB,gPo (List.all_eq_true.2 fun k hk => by
   obtain ⟨j,o,rfl,hj,_,ho,hm⟩:=gO hg k hk
   rw [Bool.and_eq_true]
   exact ⟨jQ (by omega),decide_eq_true (by rw [hm,Int.toNat_natCast]; omega)⟩),gPo hnd,hrun,oB],rfl,?_,fun o k e => ?_,fun o hn => ?_,?_,fun k hk => ?_⟩
 ·dsimp only
  rw [qR,hlen0]
 ·obtain ⟨h1,h2,h3,h4⟩:=kX hg e
  dsimp only
  have:=qq (fun y12 => Int.toNat (ar 0 g y12)) (fun y12 => (rdL y.fB y12).fID) (k:=(k : Int)) (d4 g) (List.replicate (Int.toNat ((y.fR.length : Nat) : Int)) 0) hnd ((fk g _).2 h1) (by rw [hlen0,h2,Int.toNat_natCast]; exact h4)
  rw [h2,Int.toNat_natCast,jx] at this
  exact this
 ·dsimp only
  rw [m6 (fun y12 => Int.toNat (ar 0 g y12)) (fun y12 => (rdL y.fB y12).fID) o (d4 g) _ fun k hk e => by
   obtain ⟨j,o',rfl,_,e1,_,m1⟩:=gO hg k hk
   rw [m1,Int.toNat_natCast] at e
   subst e
   exact hn ⟨j,e1⟩]
  rw [List.getD_eq_getElem?_getD,List.getElem?_replicate]
  split <;> rfl
 ·dsimp only
  rw [List.length_map,List.length_range]
 ·dsimp only
  rw [List.getD_eq_getElem?_getD,List.getElem?_map,List.getElem?_range hk]
  rfl
theorem Serve_ok {y : TY} (h : Good y) (h9 : y.fR.length < 20) : ∃ p m q u,fc y = some (p,0) ∧ Mat (Su y) m ∧ Prices (Su y) (wo y) y.fB.length y.fR.length m q u ∧ PlanOf y m q p:=by
 obtain ⟨g,h1,h2,h3,q,u,h4⟩:=qu (h.fine h9)
 obtain ⟨p,h5,h6⟩:=sC (h.fine h9) h2 h3 h4
 refine ⟨p,_,q,u,?_,h3,h4,h6⟩
 unfold fc
 rw [gy,fY.2 h,oB,if_neg (by simp),h1,oB,h5]
 rfl
set_option linter.unusedSimpArgs false
theorem nk {y : TY} {o k : Nat} (ho : o < y.fR.length) (hk : k < y.fB.length) : eQ y (o : Int) (k : Int) = some (gt (oat y o) (bat y k)):=by
 unfold eQ
 rw [gPo (by omega),gPo (by omega),gPo (by omega)]
 simp only [fV,jx,gV,oB,gPo (show (0 : Int) ≤ (k : Int) ∧ (k : Int) < ((y.fB.length : Nat) : Int) by omega),gPo (show (0 : Int) ≤ (o : Int) ∧ (o : Int) < ((y.fR.length : Nat) : Int) by omega)]
 unfold gt
 cases decide ((oat y o).fH.fLo ≤ (bat y k).fHour ∧ (bat y k).fHour ≤ (oat y o).fH.fHi) <;> rfl
def OkH (nB nO : Nat) (held : List Int) : Prop:=held.length = nB ∧ ∀ k,k < nB → rdL held (k : Int) < 0 ∨ ∃ o : Nat,rdL held (k : Int) = (o : Int) ∧ o < nO
theorem rdL_set {α : Type} [Inhabited α] (l : List α) {k : Nat} (hk : k < l.length) (v : α) (j : Nat) : rdL (l.set k v) (j : Int) = if j = k then v else rdL l (j : Int):=by
 unfold rdL
 rw [Int.toNat_natCast,List.getD_eq_getElem?_getD,List.getD_eq_getElem?_getD]
 by_cases h : j = k
 ·subst h; rw [if_pos rfl,List.getElem?_set_self hk]; rfl
 ·rw [if_neg h,List.getElem?_set_ne (fun e => h e.symm)]
theorem OkH.set {nB nO : Nat} {held : List Int} (h : OkH nB nO held) {k o : Nat} (hk : k < nB) (ho : o < nO) : OkH nB nO (held.set k (o : Int)):=by
 refine ⟨by rw [List.length_set]; exact h.1,fun j hj => ?_⟩
 rw [rdL_set held (by rw [h.1]; exact hk)]
 by_cases e : j = k
 ·rw [if_pos e]; exact .inr ⟨o,rfl,ho⟩
 ·rw [if_neg e]; exact h.2 j hj
structure Nums (n : Nat) (l : List Int) : Prop where
 nat : ∀ x ∈ l,∃ k : Nat,x = (k : Int) ∧ k < n
 once : l.Nodup
set_option linter.unusedSimpArgs false
open Classical
theorem Matchable.mono {S S' : Nat → Nat → Prop} {A : Nat → Prop} (h : Matchable S A) (hs : ∀ x k,A x → S x k → S' x k) : Matchable S' A:=by
 obtain ⟨m,hM,hd⟩:=h
 exact ⟨m,⟨fun k o e => hs o k ((hd o).1 ⟨k,e⟩) (hM.suit k o e),hM.inj⟩,hd⟩
theorem Matchable.congr {S : Nat → Nat → Prop} {A B : Nat → Prop} (h : Matchable S A) (hab : ∀ x,A x ↔ B x) : Matchable S B:=by
 obtain ⟨m,hM,hd⟩:=h
 exact ⟨m,hM,fun x => (hd x).trans (hab x)⟩
def w1 (y : TY) (first wi : Int) (x : Nat) : Int:=if (x : Int) = first ∨ (x : Int) = wi then 1001 else wo y x
def S1 (y : TY) (wi : Int) (x k : Nat) : Prop:=Su y x k ∧ (x : Int) ≠ wi
theorem S1.fit (y : TY) (wi : Int) : Fit (S1 y wi) y.fB.length y.fR.length:=⟨fun o k h => h.1.2.1,fun o k h => h.1.1⟩
def Seen (y : TY) (first wi w : Int) (i : Nat) (x : Nat) : Prop:=(x < y.fR.length ∧ (w < wo y x ∨ (wo y x = w ∧ x < i))) ∨ (x : Int) = first ∨ (x : Int) = wi
structure BestI (y : TY) (first wi w : Int) (i : Nat) (l : List Int) : Prop where
 nums : Nums y.fR.length l
 greedy : Greedy (S1 y wi) (w1 y first wi) (Seen y first wi w i) (fun x => (x : Int) ∈ l)
 no : ¬ wi ∈ l
theorem Nums.len {n : Nat} {l : List Int} (h : Nums n l) : l.length ≤ n:=by
 have h1 : ∀ (ks : List Int),nV (fun _ => 1) ks = (ks.length : Int):=fun ks => by
  induction ks with
  | nil => rfl
  | cons k ks ih => show 1 + nV (fun _ => 1) ks = _; rw [ih,List.length_cons]; omega
 have h2:=mO (f:=fun _ => 1) (n:=n) l h.once h.nat
 have h3 : ∀ n,sm n (fun _ => 1) = (n : Int):=fun n => by
  induction n with
  | zero => rfl
  | succ n ih => show sm n (fun _ => 1) + 1 = _; rw [ih]; omega
 have h4:=h3 n
 have h5 : sm n (fun j => if (j : Int) ∈ l then (1 : Int) else 0) ≤ sm n (fun _ => 1):=mP fun i _ => by split <;> omega
 rw [h1] at h2
 omega
theorem rS {y : TY} (hy : Fine y) {l : List Int} (hl : Nums y.fR.length l) : kD y l = some (sm y.fR.length fun x => if (x : Int) ∈ l then wo y x else 0):=by
 have hll:=hl.len
 have hO:=hy.ords
 have hpre : ∀ (ks : List Int),(∀ k ∈ ks,0 ≤ (rdL y.fR k).fW ∧ (rdL y.fR k).fW ≤ 2000) → 0 ≤ nV (fun k => (rdL y.fR k).fW) ks ∧ nV (fun k => (rdL y.fR k).fW) ks ≤ 2000 * (ks.length : Int):=fun ks => by
  induction ks with
  | nil => intro _; exact ⟨Int.le_refl _,Int.le_refl _⟩
  | cons k ks ih =>
   intro h
   have h1:=ih fun j hj => h j (List.mem_cons_of_mem _ hj)
   have h2:=h k (List.mem_cons_self ..)
   rw [List.length_cons]
   show 0 ≤ (rdL y.fR k).fW + nV (fun k => (rdL y.fR k).fW) ks ∧ (rdL y.fR k).fW + nV (fun k => (rdL y.fR k).fW) ks ≤ _
   omega
 have happ : ∀ (f : Int → Int) (ks : List Int) (x : Int),nV f (ks ++ [x]) = nV f ks + f x:=fun f ks x => by
  induction ks with
  | nil => show f x + 0 = 0 + f x; omega
  | cons k ks ih => show f k + nV f (ks ++ [x]) = f k + nV f ks + f x; rw [ih]; omega
 have hbd : ∀ k ∈ l,0 ≤ (rdL y.fR k).fW ∧ (rdL y.fR k).fW ≤ 2000:=fun k hk => by
  obtain ⟨j,rfl,_⟩:=hl.nat k hk
  rw [fV]
  exact ⟨hy.low j,hy.high j⟩
 have hrun:=gK (body:=ex y l) (fun k => (nV (fun k => (rdL y.fR k).fW) (l.take k),(k : Int))) l.length (t:=(nV (fun k => (rdL y.fR k).fW) l,(l.length : Int))) (fun k hk => by
  obtain ⟨o,eo,ho⟩:=hl.nat l[k] (List.getElem_mem _)
  have h1:=hpre (l.take k) fun x hx => hbd x (List.mem_of_mem_take hx)
  have h2 : (l.take k).length ≤ 20:=by rw [List.length_take]; omega
  have h3:=hbd l[k] (List.getElem_mem _)
  unfold ex; dsimp only
  rw [gr (by omega),gPo (by omega),d8 hk,gPo (by rw [eo]; omega),fq (by omega) (by omega),bn (by omega),List.take_add_one,List.getElem?_eq_getElem hk]
  rw [show (some l[k]).toList = [l[k]] from rfl,happ]) (by
  unfold ex; dsimp only
  rw [fj (by omega),List.take_length])
 unfold kD
 have e0 : aM (ex y l) (0,0) = _:=hrun
 rw [e0,oB,mO l hl.once hl.nat]
 refine congrArg some (cx fun x _ => ?_)
 rw [fV]
 rfl
theorem BestI.opt {y : TY} (hG : Good y) (h9 : y.fR.length < 20) {first wi : Int} {l : List Int} (h : BestI y first wi 0 0 l) : ∃ m,Mat (S1 y wi) m ∧ (∀ x,Dom m x ↔ (x : Int) ∈ l) ∧ Opt (S1 y wi) (w1 y first wi) y.fB.length (wor y.fB.length (w1 y first wi) m) ∧ kD y l = some (wor y.fB.length (wo y) m):=by
 obtain ⟨m,hM,hd⟩:=h.greedy.can
 have hF:=S1.fit y wi
 have hw : ∀ i,0 ≤ w1 y first wi i:=fun i => by
  unfold w1
  split
  ·omega
  ·exact (hG.fine h9).low i
 refine ⟨m,hM,hd,h.greedy.opt hF hw (fun i hi => .inl ⟨hi,.inl (by have:=hG.worth hi; omega)⟩) hM hd,?_⟩
 rw [rS (hG.fine h9) h.nums]
 unfold wor
 rw [bij hF hM (wo y)]
 refine congrArg some (cx fun x _ => ?_)
 by_cases hx : (x : Int) ∈ l
 ·rw [if_pos hx,if_pos ((hd x).2 hx)]
 ·rw [if_neg hx,if_neg fun h => hx ((hd x).1 h)]
theorem Opt.congr {S S' : Nat → Nat → Prop} {w w' : Nat → Int} {nB : Nat} {V : Int} (h : Opt S w nB V) (hS : ∀ o k,S o k ↔ S' o k) (hw : ∀ o k,S o k → w o = w' o) : Opt S' w' nB V:=by
 have e : S = S':=funext fun o => funext fun k => propext (hS o k)
 subst e
 have hv : ∀ m,Mat S m → wor nB w m = wor nB w' m:=fun m hM => cx fun k _ => by
  cases e : m k with
  | none => rfl
  | some x => exact hw x k (hM.suit k x e)
 obtain ⟨m,hM,e⟩:=h.some
 exact ⟨⟨m,hM,by rw [← hv m hM]; exact e⟩,fun m hM => by rw [← hv m hM]; exact h.most m hM⟩
set_option linter.unusedSimpArgs false
open Classical
def ga (p : TPlan) (i : Nat) : Int:=p.fG.getD i 0
def pa (p : TPlan) (k : Nat) : Int:=p.fPrices.getD k 0
theorem nh (p : TPlan) (i : Nat) : rdL p.fG (i : Int) = ga p i:=by unfold rdL ga; rw [Int.toNat_natCast]; rfl
theorem pF (p : TPlan) (i : Nat) : rdL p.fPrices (i : Int) = pa p i:=by unfold rdL pa; rw [Int.toNat_natCast]; rfl
def jR (y : TY) (f : Nat → Int) (i : Nat) (a : Int) : Nat → Int
 | 0 => a
 | n + 1 => if gt (oat y i) (bat y n) = true then min (jR y f i a n) (f n) else jR y f i a n
theorem lS (y : TY) (f : Nat → Int) (i : Nat) {a b : Int} (h : a ≤ b) : ∀ n,jR y f i a n = min a (jR y f i b n)
 | 0 => by show a = min a b; omega
 | n + 1 => by
  have ih:=lS y f i h n
  unfold jR
  split
  ·rw [ih]; omega
  ·exact ih
theorem pb (y : TY) (f : Nat → Int) (i : Nat) (a : Int) : ∀ n,jR y f i a n ≤ a ∧ ∀ k,k < n → gt (oat y i) (bat y k) = true → jR y f i a n ≤ f k
 | 0 => ⟨Int.le_refl _,fun k hk => by omega⟩
 | n + 1 => by
  obtain ⟨h1,h2⟩:=pb y f i a n
  unfold jR
  split
  ·rename_i hs
   refine ⟨by omega,fun k hk hk2 => ?_⟩
   rcases Nat.lt_or_ge k n with h | h
   ·have:=h2 k h hk2; omega
   ·have : k = n:=by omega
    subst this; omega
  ·rename_i hs
   refine ⟨h1,fun k hk hk2 => ?_⟩
   rcases Nat.lt_or_ge k n with h | h
   ·exact h2 k h hk2
   ·have : k = n:=by omega
    subst this; exact absurd hk2 hs
theorem mM (y : TY) (f : Nat → Int) (i : Nat) (a : Int) : ∀ n,jR y f i a n = a ∨ ∃ k,k < n ∧ gt (oat y i) (bat y k) = true ∧ jR y f i a n = f k
 | 0 => .inl rfl
 | n + 1 => by
  unfold jR
  split
  ·rename_i hs
   rcases mM y f i a n with h | ⟨k,h1,h2,h3⟩
   ·rcases Int.le_total (jR y f i a n) (f n) with h4 | h4
    ·left; rw [Int.min_eq_left h4]; exact h
    ·right; exact ⟨n,by omega,hs,Int.min_eq_right h4⟩
   ·rcases Int.le_total (jR y f i a n) (f n) with h4 | h4
    ·right; exact ⟨k,by omega,h2,by rw [Int.min_eq_left h4]; exact h3⟩
    ·right; exact ⟨n,by omega,hs,Int.min_eq_right h4⟩
  ·rcases mM y f i a n with h | ⟨k,h1,h2,h3⟩
   ·exact .inl h
   ·exact .inr ⟨k,by omega,h2,h3⟩
def iF (y : TY) (f : Nat → Int) (i : Nat) : Int:=max 0 (wo y i - jR y f i 1001 y.fB.length)
def rn (y : TY) (p : TPlan) (i : Nat) : Prop:=ga p i = 0 ∨ (0 ≤ im y (ga p i) ∧ gt (oat y i) (rdL y.fB (im y (ga p i))) = true ∧ ∀ j,j < i → ga p j ≠ ga p i)
def iS (y : TY) (p : TPlan) (n : Nat) : Int:=sm n fun i => if ga p i = 0 then 0 else wo y i
structure Proved (y : TY) (p : TPlan) : Prop where
 len : p.fG.length = y.fR.length
 plen : p.fPrices.length = y.fB.length
 price : ∀ k,k < y.fB.length → 0 ≤ pa p k ∧ pa p k ≤ 1000
 ok : ∀ i,i < y.fR.length → rn y p i
 sum : iS y p y.fR.length = p.fW
 bound : sm y.fR.length (iF y (pa p)) + sm y.fB.length (pa p) = p.fW
theorem pm (y : TY) (id : Int) : im y id < (y.fB.length : Int):=p7 _ _
theorem kn {f : Nat → Int} {m : Nat} : ∀ {n : Nat},(∀ i,i < n → 0 ≤ f i ∧ f i ≤ 1000) → n ≤ m → 0 ≤ sm n f ∧ sm n f ≤ 1000 * (m : Int)
 | 0,_,_ => by show 0 ≤ (0 : Int) ∧ (0 : Int) ≤ _; omega
 | n + 1,h,hm => by
  have h1:=kn (m:=n) (n:=n) (f:=f) (fun i hi => h i (by omega)) (Nat.le_refl _)
  have h2:=h n (by omega)
  show 0 ≤ sm n f + f n ∧ sm n f + f n ≤ _
  omega
theorem le {y : TY} (hG : Good y) {f : Nat → Int} (hf : ∀ k,k < y.fB.length → 0 ≤ f k ∧ f k ≤ 1000) {i : Nat} (hi : i < y.fR.length) : 0 ≤ iF y f i ∧ iF y f i ≤ 1000 ∧ 0 ≤ jR y f i 1001 y.fB.length ∧ jR y f i 1001 y.fB.length ≤ 1001:=by
 have h1:=(pb y f i 1001 y.fB.length).1
 have h2:=hG.worth hi
 have h3 : 0 ≤ jR y f i 1001 y.fB.length:=by
  rcases mM y f i 1001 y.fB.length with h | ⟨k,hk,_,h⟩
  ·omega
  ·have:=hf k hk; omega
 unfold iF
 omega
theorem least_eq {y : TY} (hB : y.fB.length ≤ 24) {p : TPlan} (hp : p.fPrices.length = y.fB.length) (s11 : Bool × Int × Int × Int × List (Int × Bool)) {i : Nat} (hi : s11.2.2.2.1 = (i : Int)) : aM (dR y p s11) (1001,0) = some (jR y (pa p) i 1001 y.fB.length,(y.fB.length : Int)):=by
 have:=gK (body:=dR y p s11) (fun k => (jR y (pa p) i 1001 k,(k : Int))) y.fB.length (t:=(jR y (pa p) i 1001 y.fB.length,(y.fB.length : Int))) (fun k hk => by
  unfold dR; dsimp only
  rw [gr (by omega),gPo (by omega)]
  simp only [hi,fV,jx,pF,ls,j2,mH,pd,oB,bn (show k < 9223372036854775807 by omega),gPo (show (0 : Int) ≤ (k : Int) ∧ (k : Int) < ((p.fPrices.length : Nat) : Int) by omega)]
  rw [show jR y (pa p) i 1001 (k + 1) = (if gt (oat y i) (bat y k) = true then min (jR y (pa p) i 1001 k) (pa p k) else jR y (pa p) i 1001 k) from rfl]
  cases gt (oat y i) (bat y k) <;> rfl) (by
  unfold dR; dsimp only
  rw [fj (by omega)])
 exact this
theorem sA {y : TY} (hG : Good y) {p : TPlan} (hr : ∀ x ∈ p.fG,Rg_i64 x) : hZ y p = some (decide (Proved y p)):=by
 have hB:=hG.bays
 have hO:=hG.ords
 unfold hZ
 by_cases hl : p.fG.length = y.fR.length ∧ p.fPrices.length = y.fB.length
 ·obtain ⟨hlg,hlp⟩:=hl
  rw [if_neg (by simp [hlg,hlp])]
  have hix : eH p.fPrices (fun x53 => eh x53) = some (kJ p.fPrices fun n => !decide (0 ≤ n ∧ n ≤ 1000)):=by
   unfold eH
   rw [pS (q:=fun n => !decide (0 ≤ n ∧ n ≤ 1000)) (by omega) (fun x _ => by unfold eh; rw [jA]; rfl)]
   rfl
  rw [hix]
  simp only [oB]
  by_cases hpr : 0 ≤ kJ p.fPrices fun n => !decide (0 ≤ n ∧ n ≤ 1000)
  ·rw [if_pos (decide_eq_true hpr)]
   refine congrArg some (decide_eq_false fun h => ?_).symm
   obtain ⟨x,hx,hb⟩:=m5.1 hpr
   obtain ⟨k,hk,rfl⟩:=List.mem_iff_getElem.1 hx
   have:=h.price k (by omega)
   unfold pa at this
   rw [List.getD_eq_getElem?_getD,List.getElem?_eq_getElem hk,Option.getD_some] at this
   rw [decide_eq_true this] at hb
   cases hb
  ·rw [if_neg (by rw [decide_eq_true_eq]; exact hpr)]
   have hprice : ∀ k,k < y.fB.length → 0 ≤ pa p k ∧ pa p k ≤ 1000:=fun k hk => Classical.byContradiction fun hn => hpr (m5.2 ⟨p.fPrices[k]'(by omega),List.getElem_mem _,by
    unfold pa at hn
    rw [List.getD_eq_getElem?_getD,List.getElem?_eq_getElem (by omega),Option.getD_some] at hn
    rw [decide_eq_false hn]; rfl⟩)
   have hinv:=fF (body:=dQ y p)
    (fun s => ∃ (i : Nat) (had : List (Int × Bool)),s = (false,iS y p i,sm i (iF y (pa p)),(i : Int),had) ∧ i ≤ y.fR.length ∧ had.length ≤ i ∧ (∀ id,ar false had id = true ↔ ∃ j,j < i ∧ ga p j ≠ 0 ∧ ga p j = id) ∧ ∀ j,j < i → rn y p j)
    (fun _ out => match out with
     | .inl u => u.1 = false ∧ ∃ i,i < y.fR.length ∧ ¬ rn y p i
     | .inr u => u.2.1 = iS y p y.fR.length ∧ u.2.2.1 = sm y.fR.length (iF y (pa p)) ∧ ∀ j,j < y.fR.length → rn y p j)
    (fun s => y.fR.length - s.2.2.2.1.toNat) (by
     rintro _ ⟨i,had,rfl,hi,hhl,hhad,hok⟩
     rcases Nat.lt_or_ge i y.fR.length with hlt | hge
     ·have hgm : cO (ga p i) = true:=by
       have hx : ga p i ∈ p.fG:=by
        unfold ga
        rw [List.getD_eq_getElem?_getD,List.getElem?_eq_getElem (by omega)]
        exact List.getElem_mem _
       have:=hr _ hx
       unfold cO
       rw [decide_eq_true this.1,decide_eq_true this.2]; rfl
      have hsb:=kn (m:=24) (n:=i) (f:=fun i => if ga p i = 0 then 0 else wo y i) (fun j hj => by
       have:=hG.worth (show j < y.fR.length by omega)
       split <;> omega) (by omega)
      have hgb:=kn (m:=24) (n:=i) (f:=iF y (pa p)) (fun j hj => by have:=le hG hprice (show j < y.fR.length by omega); omega) (by omega)
      have hgi:=le hG hprice hlt
      have hwi:=hG.worth hlt
      have hbl:=pm y (ga p i)
      have hsw : w64 (wo y i - jR y (pa p) i 1001 y.fB.length) = wo y i - jR y (pa p) i 1001 y.fB.length:=fq (by omega) (by omega)
      have hsg : w64 (sm i (iF y (pa p)) + iF y (pa p) i) = sm i (iF y (pa p)) + iF y (pa p) i:=fq (by omega) (by omega)
      have hss : w64 (iS y p i + wo y i) = iS y p i + wo y i:=fq (by unfold iS; omega) (by unfold iS; omega)
      have hbody : dQ y p (false,iS y p i,sm i (iF y (pa p)),(i : Int),had) = (if ga p i = 0 then some (.inl (false,iS y p i,sm (i + 1) (iF y (pa p)),((i + 1 : Nat) : Int),had)) else if (im y (ga p i) < 0 ∨ ar false had (ga p i) = true ∨ gt (oat y i) (rdL y.fB (im y (ga p i))) = false) then some (.inr (.inl (false,iS y p i,sm (i + 1) (iF y (pa p)),(i : Int),had))) else some (.inl (false,iS y p i + wo y i,sm (i + 1) (iF y (pa p)),((i + 1 : Nat) : Int),((ga p i,true) :: had)))):=by
       unfold dQ; dsimp only
       rw [gr (by omega),gPo (by omega),least_eq hB hlp _ rfl]
       simp only [oB,nh,fV,gPo (show (0 : Int) ≤ (i : Int) ∧ (i : Int) < ((p.fG.length : Nat) : Int) by omega),sZ (show y.fB.length < 1000000000 by omega),ls,j2,mH,pd,gPo hgm,bn (show i < 9223372036854775807 by omega)]
       rw [show (oat y i).fW = wo y i from rfl,hsw]
       rw [show max 0 (wo y i - jR y (pa p) i 1001 y.fB.length) = iF y (pa p) i from rfl,hsg,hss]
       rw [show sm i (iF y (pa p)) + iF y (pa p) i = sm (i + 1) (iF y (pa p)) from rfl]
       by_cases c0 : ga p i = 0
       ·rw [if_pos (beq_iff_eq.2 c0),if_pos c0]
       ·rw [if_neg (fun h => c0 (beq_iff_eq.1 h)),if_neg c0]
        by_cases c1 : im y (ga p i) < 0
        ·have hcc : (im y (ga p i) < 0 ∨ ar false had (ga p i) = true ∨ gt (oat y i) (rdL y.fB (im y (ga p i))) = false):=.inl c1
         rw [if_pos hcc]
         simp [c1]
        ·rw [gPo (show (0 : Int) ≤ im y (ga p i) ∧ im y (ga p i) < ((y.fB.length : Nat) : Int) by omega),gPo (show cO (ga p i) = true ∧ had.length < 1000000000 from ⟨hgm,by omega⟩)]
         cases c2 : ar false had (ga p i) <;> cases c3 : gt (oat y i) (rdL y.fB (im y (ga p i))) <;> simp [c1,c2,c3]
      by_cases c0 : ga p i = 0
      ·rw [if_pos c0] at hbody
       refine .inl ⟨_,hbody,⟨i + 1,had,?_,hlt,by omega,fun id => ?_,fun j hj => ?_⟩,by dsimp only; omega,fun t h => h⟩
       ·have : iS y p (i + 1) = iS y p i:=by
         show sm i _ + (if ga p i = 0 then 0 else wo y i) = _
         rw [if_pos c0]
         exact Int.add_zero _
        rw [this]
       ·rw [hhad id]
        refine ⟨fun ⟨j,hj,h⟩ => ⟨j,by omega,h⟩,fun ⟨j,hj,h1,h2⟩ => ⟨j,?_,h1,h2⟩⟩
        rcases Nat.lt_or_ge j i with h | h
        ·exact h
        ·have : j = i:=by omega
         subst this; exact absurd c0 h1
       ·rcases Nat.lt_or_ge j i with h | h
        ·exact hok j h
        ·have : j = i:=by omega
         subst this; exact .inl c0
      ·rw [if_neg c0] at hbody
       by_cases c : (im y (ga p i) < 0 ∨ ar false had (ga p i) = true ∨ gt (oat y i) (rdL y.fB (im y (ga p i))) = false)
       ·rw [if_pos c] at hbody
        refine .inr ⟨_,hbody,rfl,i,hlt,fun h => ?_⟩
        rcases h with h | ⟨h1,h2,h3⟩
        ·exact c0 h
        ·rcases c with c | c | c
         ·omega
         ·obtain ⟨j,hj,_,e⟩:=(hhad _).1 c
          exact h3 j hj e
         ·rw [h2] at c; cases c
       ·rw [if_neg c] at hbody
        have hoki : rn y p i:=.inr ⟨by omega,by
         cases h : gt (oat y i) (rdL y.fB (im y (ga p i)))
         ·exact absurd (.inr (.inr h)) c
         ·rfl,fun j hj e => c (.inr (.inl ((hhad _).2 ⟨j,hj,by rw [e]; exact c0,e⟩)))⟩
        refine .inl ⟨_,hbody,⟨i + 1,(ga p i,true) :: had,?_,hlt,by rw [List.length_cons]; omega,fun id => ?_,fun j hj => ?_⟩,by dsimp only; omega,fun t h => h⟩
        ·have : iS y p (i + 1) = iS y p i + wo y i:=by
          show sm i _ + (if ga p i = 0 then 0 else wo y i) = _
          rw [if_neg c0]
          rfl
         rw [this]
        ·rw [eC]
         by_cases e : ga p i = id
         ·rw [if_pos e]
          exact ⟨fun _ => ⟨i,by omega,c0,e⟩,fun _ => rfl⟩
         ·rw [if_neg e,hhad id]
          refine ⟨fun ⟨j,hj,h⟩ => ⟨j,by omega,h⟩,fun ⟨j,hj,h1,h2⟩ => ⟨j,?_,h1,h2⟩⟩
          rcases Nat.lt_or_ge j i with h | h
          ·exact h
          ·have : j = i:=by omega
           subst this; exact absurd h2 e
        ·rcases Nat.lt_or_ge j i with h | h
         ·exact hok j h
         ·have : j = i:=by omega
          subst this; exact hoki
     ·have hke : i = y.fR.length:=by omega
      subst hke
      refine .inr ⟨.inr (false,iS y p y.fR.length,sm y.fR.length (iF y (pa p)),((y.fR.length : Nat) : Int),had),?_,rfl,rfl,hok⟩
      unfold dQ; dsimp only
      rw [fj (by omega)]) (false,0,0,0,[]) ⟨0,[],rfl,Nat.zero_le _,Nat.le_refl _,fun id => ⟨fun h => (by cases h),fun ⟨j,hj,_⟩ => by omega⟩,fun j hj => by omega⟩
   obtain ⟨out,hout,hpost⟩:=hinv
   rw [hout]
   rcases out with u | u
   ·obtain ⟨h1,i,h2,h3⟩:=hpost
    show some u.1 = _
    rw [h1]
    exact congrArg some (decide_eq_false fun h => h3 (h.ok i h2)).symm
   ·obtain ⟨h1,h2,h3⟩:=hpost
    have hgb:=kn (m:=24) (n:=y.fR.length) (f:=iF y (pa p)) (fun j hj => by have:=le hG hprice hj; omega) (by omega)
    have hrun:=gK (body:=dS p) (fun k => (sm y.fR.length (iF y (pa p)) + sm k (pa p),(k : Int))) y.fB.length (t:=(sm y.fR.length (iF y (pa p)) + sm y.fB.length (pa p),(y.fB.length : Int))) (fun k hk => by
     have hpb:=kn (m:=24) (n:=k) (f:=pa p) (fun j hj => hprice j (by omega)) (by omega)
     have hpk:=hprice k hk
     unfold dS; dsimp only
     rw [gr (by omega),gPo (by omega),pF,fq (by omega) (by omega),bn (by omega),Int.add_assoc]
     rfl) (by
     unfold dS; dsimp only
     rw [fj (by omega)])
    have e0 : aM (dS p) (u.2.2.1,0) = some (sm y.fR.length (iF y (pa p)) + sm y.fB.length (pa p),(y.fB.length : Int)):=by
     rw [h2]
     simpa [sm] using hrun
    simp only [oB]
    rw [e0,oB,h1]
    refine congrArg some ?_
    rw [Bool.eq_iff_iff,Bool.and_eq_true,beq_iff_eq,beq_iff_eq,decide_eq_true_eq]
    exact ⟨fun ⟨a,b⟩ => ⟨hlg,hlp,hprice,h3,a,by have b' : iS y p y.fR.length = sm y.fR.length (iF y (pa p)) + sm y.fB.length (pa p):=b; omega⟩,fun h => ⟨h.sum,by rw [h.sum]; exact h.bound.symm⟩⟩
 ·have hc : (((p.fG.length : Nat) : Int) != ((y.fR.length : Nat) : Int) || ((p.fPrices.length : Nat) : Int) != ((y.fB.length : Nat) : Int)) = true:=by
   rw [Bool.or_eq_true,bne_iff_ne,bne_iff_ne]
   omega
  rw [if_pos hc]
  simp only [oB,if_true]
  exact congrArg some (decide_eq_false fun h => hl ⟨h.len,h.plen⟩).symm
set_option linter.unusedSimpArgs false
open Classical
theorem rleast_eq {y : TY} (hB : y.fB.length ≤ 24) {p : TPlan} (hp : p.fPrices.length = y.fB.length) (n0 : Int) {i : Nat} (hi : i < y.fR.length) : aM (dq y p.fPrices (n0,(i : Int))) (wo y i,0) = some (jR y (pa p) i (wo y i) y.fB.length,(y.fB.length : Int)):=by
 have:=gK (body:=dq y p.fPrices (n0,(i : Int))) (fun k => (jR y (pa p) i (wo y i) k,(k : Int))) y.fB.length (t:=(jR y (pa p) i (wo y i) y.fB.length,(y.fB.length : Int))) (fun k hk => by
  unfold dq; dsimp only
  rw [gr (by omega),nk hi hk]
  simp only [oB,pF,bn (show k < 9223372036854775807 by omega),gPo (show (0 : Int) ≤ (k : Int) ∧ (k : Int) < ((p.fPrices.length : Nat) : Int) by omega)]
  rw [show jR y (pa p) i (wo y i) (k + 1) = (if gt (oat y i) (bat y k) = true then min (jR y (pa p) i (wo y i) k) (pa p k) else jR y (pa p) i (wo y i) k) from rfl]
  cases gt (oat y i) (bat y k) <;> rfl) (by
  unfold dq; dsimp only
  rw [fj (by omega)])
 exact this
def anyS (y : TY) (i : Nat) : Nat → Bool
 | 0 => false
 | n + 1 => anyS y i n || gt (oat y i) (bat y n)
theorem rsome_eq {y : TY} (hB : y.fB.length ≤ 24) {p : TPlan} (hp : p.fPrices.length = y.fB.length) (n0 : Int) {i : Nat} (hi : i < y.fR.length) : aM (dr y p.fPrices (n0,(i : Int))) (false,0) = some (anyS y i y.fB.length,(y.fB.length : Int)):=by
 have:=gK (body:=dr y p.fPrices (n0,(i : Int))) (fun k => (anyS y i k,(k : Int))) y.fB.length (t:=(anyS y i y.fB.length,(y.fB.length : Int))) (fun k hk => by
  unfold dr; dsimp only
  rw [gr (by omega),nk hi hk]
  simp only [oB,bn (show k < 9223372036854775807 by omega)]
  rfl) (by
  unfold dr; dsimp only
  rw [fj (by omega)])
 exact this
theorem nX {y : TY} {i : Nat} : ∀ {n : Nat},anyS y i n = false → ∀ k,k < n → gt (oat y i) (bat y k) = false
 | 0,_,k,hk => by omega
 | n + 1,h,k,hk => by
  unfold anyS at h
  rw [Bool.or_eq_false_iff] at h
  rcases Nat.lt_or_ge k n with h' | h'
  ·exact nX h.1 k h'
  ·have : k = n:=by omega
   subst this; exact h.2
theorem gain_ref {y : TY} (hG : Good y) {f : Nat → Int} {i : Nat} (hi : i < y.fR.length) : (if anyS y i y.fB.length = true then wo y i - jR y f i (wo y i) y.fB.length else 0) = iF y f i:=by
 have hw:=hG.worth hi
 have h1:=lS y f i (a:=wo y i) (b:=1001) (by omega) y.fB.length
 unfold iF
 cases ha : anyS y i y.fB.length with
 | true => rw [if_pos rfl,h1]; omega
 | false =>
  rw [if_neg (by simp)]
  rcases mM y f i 1001 y.fB.length with h | ⟨k,hk,hs,_⟩
  ·omega
  ·rw [nX ha k hk] at hs; cases hs
theorem rplan_eq {y : TY} (hG : Good y) {p : TPlan} (n : Int) : iG y p.fG n = some (decide (p.fG.length = y.fR.length ∧ (∀ i,i < y.fR.length → rn y p i) ∧ iS y p y.fR.length = n)):=by
 have hB:=hG.bays
 have hO:=hG.ords
 unfold iG
 by_cases hlg : p.fG.length = y.fR.length
 ·rw [if_neg (by simp [hlg])]
  have hinv:=fF (body:=er y p.fG)
   (fun s => ∃ i : Nat,s = (false,iS y p i,(i : Int)) ∧ i ≤ y.fR.length ∧ ∀ j,j < i → rn y p j)
   (fun _ out => match out with
    | .inl u => u.1 = false ∧ ∃ i,i < y.fR.length ∧ ¬ rn y p i
    | .inr u => u.2.1 = iS y p y.fR.length ∧ ∀ j,j < y.fR.length → rn y p j)
   (fun s => y.fR.length - s.2.2.toNat) (by
    rintro _ ⟨i,rfl,hi,hok⟩
    rcases Nat.lt_or_ge i y.fR.length with hlt | hge
    ·have hsb:=kn (m:=24) (n:=i) (f:=fun i => if ga p i = 0 then 0 else wo y i) (fun j hj => by
      have:=hG.worth (show j < y.fR.length by omega)
      split <;> omega) (by omega)
     have hwi:=hG.worth hlt
     have hbl:=pm y (ga p i)
     have hss : w64 (iS y p i + wo y i) = iS y p i + wo y i:=fq (by unfold iS; omega) (by unfold iS; omega)
     have hin:=fU (body:=ep p.fG (false,iS y p i,(i : Int))) (fun j => (false,(j : Int))) i (fun j => if ga p j = ga p i then some (Sum.inl (false,(j : Int))) else none) (t0:=.inr (false,(i : Int))) (fun j hj => by
      unfold ep; dsimp only
      rw [gr (by omega),gPo (by omega),gPo (by omega),nh,nh,bn (by omega)]
      by_cases c : ga p j = ga p i
      ·rw [if_pos (beq_iff_eq.2 c),if_pos c]
      ·rw [if_neg (fun h => c (beq_iff_eq.1 h)),if_neg c]) (by
      unfold ep; dsimp only
      rw [fj (by omega)])
     have hin0 : aM (ep p.fG (false,iS y p i,(i : Int))) (false,0) = some (((List.range i).findSome? fun j => if ga p j = ga p i then some (Sum.inl (false,(j : Int))) else none).getD (.inr (false,(i : Int)))):=hin
     have hbody : ∃ z : Int × Int,er y p.fG (false,iS y p i,(i : Int)) = (if ga p i = 0 then some (.inl (false,iS y p i,((i + 1 : Nat) : Int))) else if (im y (ga p i) < 0 ∨ gt (oat y i) (rdL y.fB (im y (ga p i))) = false ∨ ∃ j,j < i ∧ ga p j = ga p i) then some (.inr (.inl (false,z))) else some (.inl (false,iS y p i + wo y i,((i + 1 : Nat) : Int)))):=by
      unfold er; dsimp only
      rw [gr (by omega),gPo (by omega)]
      simp only [oB,nh,fV,gPo (show (0 : Int) ≤ (i : Int) ∧ (i : Int) < ((p.fG.length : Nat) : Int) by omega),gPo (show (0 : Int) ≤ (i : Int) ∧ (i : Int) < ((y.fR.length : Nat) : Int) by omega),rbay_eq (show y.fB.length < 1000000000 by omega),bn (show i < 9223372036854775807 by omega)]
      rw [show (oat y i).fW = wo y i from rfl,hss]
      by_cases c0 : ga p i = 0
      ·exact ⟨(0,0),by rw [if_pos (beq_iff_eq.2 c0),if_pos c0]⟩
      ·rw [if_neg (fun h => c0 (beq_iff_eq.1 h))]
       simp only [if_neg c0]
       by_cases c1 : im y (ga p i) < 0
       ·refine ⟨(iS y p i,(i : Int)),?_⟩
        rw [if_pos (decide_eq_true c1)]
        exact (if_pos (Or.inl c1)).symm
       ·rw [if_neg (by rw [decide_eq_true_eq]; exact c1)]
        obtain ⟨k,hk⟩ : ∃ k : Nat,im y (ga p i) = (k : Int):=⟨(im y (ga p i)).toNat,by omega⟩
        rw [hk,nk hlt (by omega),oB,jx]
        by_cases c2 : gt (oat y i) (bat y k) = false
        ·refine ⟨(iS y p i,(i : Int)),?_⟩
         simp only [c2,Bool.not_false,if_true]
         exact (if_pos (Or.inr (Or.inl trivial))).symm
        ·rw [if_neg (by simpa using c2)]
         rw [hin0,oB]
         by_cases c3 : ∃ j,j < i ∧ ga p j = ga p i
         ·refine ⟨(iS y p i,(i : Int)),?_⟩
          rw [if_pos (Or.inr (Or.inr c3))]
          rcases gi (R:=fun j => if ga p j = ga p i then some (Sum.inl (false,(j : Int)) : (Bool × Int) ⊕ (Bool × Int)) else none) (n:=i) (.inr (false,(i : Int))) with ⟨h1,_⟩ | ⟨j,t,hj,hR,_,h2⟩
          ·obtain ⟨j,hj,e⟩:=c3
           have:=h1 j hj
           rw [if_pos e] at this
           cases this
          ·rw [h2]
           split at hR
           ·cases hR; rfl
           ·cases hR
         ·refine ⟨(0,0),?_⟩
          rw [if_neg (by
           rintro (h | h | h)
           ·omega
           ·exact c2 h
           ·exact c3 h),nw fun j hj => if_neg fun e => c3 ⟨j,hj,e⟩]
     obtain ⟨z,hbody⟩:=hbody
     by_cases c0 : ga p i = 0
     ·rw [if_pos c0] at hbody
      refine .inl ⟨_,hbody,⟨i + 1,?_,hlt,fun j hj => ?_⟩,by dsimp only; omega,fun t h => h⟩
      ·have : iS y p (i + 1) = iS y p i:=by
        show sm i _ + (if ga p i = 0 then 0 else wo y i) = _
        rw [if_pos c0]
        exact Int.add_zero _
       rw [this]
      ·rcases Nat.lt_or_ge j i with h | h
       ·exact hok j h
       ·have : j = i:=by omega
        subst this; exact .inl c0
     ·rw [if_neg c0] at hbody
      by_cases c : (im y (ga p i) < 0 ∨ gt (oat y i) (rdL y.fB (im y (ga p i))) = false ∨ ∃ j,j < i ∧ ga p j = ga p i)
      ·rw [if_pos c] at hbody
       refine .inr ⟨_,hbody,rfl,i,hlt,fun h => ?_⟩
       rcases h with h | ⟨h1,h2,h3⟩
       ·exact c0 h
       ·rcases c with c | c | ⟨j,hj,e⟩
        ·omega
        ·rw [h2] at c; cases c
        ·exact h3 j hj e
      ·rw [if_neg c] at hbody
       have hoki : rn y p i:=.inr ⟨by omega,by
        cases h : gt (oat y i) (rdL y.fB (im y (ga p i)))
        ·exact absurd (.inr (.inl h)) c
        ·rfl,fun j hj e => c (.inr (.inr ⟨j,hj,e⟩))⟩
       refine .inl ⟨_,hbody,⟨i + 1,?_,hlt,fun j hj => ?_⟩,by dsimp only; omega,fun t h => h⟩
       ·have : iS y p (i + 1) = iS y p i + wo y i:=by
         show sm i _ + (if ga p i = 0 then 0 else wo y i) = _
         rw [if_neg c0]
         rfl
        rw [this]
       ·rcases Nat.lt_or_ge j i with h | h
        ·exact hok j h
        ·have : j = i:=by omega
         subst this; exact hoki
    ·have hke : i = y.fR.length:=by omega
     subst hke
     refine .inr ⟨.inr (false,iS y p y.fR.length,((y.fR.length : Nat) : Int)),?_,rfl,hok⟩
     unfold er; dsimp only
     rw [fj (by omega)]) (false,0,0) ⟨0,rfl,Nat.zero_le _,fun j hj => by omega⟩
  obtain ⟨out,hout,hpost⟩:=hinv
  rw [hout]
  rcases out with u | u
  ·obtain ⟨h1,i,h2,h3⟩:=hpost
   show some u.1 = _
   rw [h1]
   exact congrArg some (decide_eq_false fun h => h3 (h.2.1 i h2)).symm
  ·obtain ⟨h1,h3⟩:=hpost
   show some (u.2.1 == n) = _
   rw [h1]
   refine congrArg some ?_
   rw [Bool.eq_iff_iff,beq_iff_eq,decide_eq_true_eq]
   exact ⟨fun h => ⟨hlg,h3,h⟩,fun h => h.2.2⟩
 ·rw [if_pos (by rw [bne_iff_ne]; omega)]
  exact congrArg some (decide_eq_false fun h => hlg h.1).symm
theorem ru {y : TY} (hG : Good y) {p : TPlan} : go y p.fPrices = some (if p.fPrices.length = y.fB.length ∧ ∀ k,k < y.fB.length → 0 ≤ pa p k ∧ pa p k ≤ 1000 then sm y.fR.length (iF y (pa p)) + sm y.fB.length (pa p) else -1):=by
 have hB:=hG.bays
 have hO:=hG.ords
 unfold go
 by_cases hlp : p.fPrices.length = y.fB.length
 ·rw [if_neg (by simp [hlp])]
  have hinv:=fF (body:=dt p.fPrices)
   (fun s => ∃ k : Nat,s = (0,sm k (pa p),(k : Int)) ∧ k ≤ y.fB.length ∧ ∀ j,j < k → 0 ≤ pa p j ∧ pa p j ≤ 1000)
   (fun _ out => match out with
    | .inl u => u.1 = -1 ∧ ∃ k,k < y.fB.length ∧ ¬ (0 ≤ pa p k ∧ pa p k ≤ 1000)
    | .inr u => u.2.1 = sm y.fB.length (pa p) ∧ ∀ j,j < y.fB.length → 0 ≤ pa p j ∧ pa p j ≤ 1000)
   (fun s => y.fB.length - s.2.2.toNat) (by
    rintro _ ⟨k,rfl,hk,hok⟩
    rcases Nat.lt_or_ge k y.fB.length with hlt | hge
    ·have hpb:=kn (m:=24) (n:=k) (f:=pa p) hok (by omega)
     by_cases c : 0 ≤ pa p k ∧ pa p k ≤ 1000
     ·refine .inl ⟨(0,sm (k + 1) (pa p),((k + 1 : Nat) : Int)),?_,⟨k + 1,rfl,hlt,fun j hj => ?_⟩,by dsimp only; omega,fun t h => h⟩
      ·unfold dt; dsimp only
       rw [gr (by omega),gPo (by omega),pF,gV,oB,decide_eq_true c,if_neg (by simp),gPo (by omega),fq (by omega) (by omega),bn (by omega)]
       rfl
      ·rcases Nat.lt_or_ge j k with h | h
       ·exact hok j h
       ·have : j = k:=by omega
        subst this; exact c
     ·refine .inr ⟨.inl (-1,sm k (pa p),(k : Int)),?_,rfl,k,hlt,c⟩
      unfold dt; dsimp only
      rw [gr (by omega),gPo (by omega),pF,gV,oB,decide_eq_false c,if_pos (by rfl)]
    ·have hke : k = y.fB.length:=by omega
     subst hke
     refine .inr ⟨.inr (0,sm y.fB.length (pa p),((y.fB.length : Nat) : Int)),?_,rfl,hok⟩
     unfold dt; dsimp only
     rw [fj (by omega)]) (0,0,0) ⟨0,rfl,Nat.zero_le _,fun j hj => by omega⟩
  obtain ⟨out,hout,hpost⟩:=hinv
  rw [hout]
  rcases out with u | u
  ·obtain ⟨h1,k,h2,h3⟩:=hpost
   show some u.1 = _
   rw [h1,if_neg fun h => h3 (h.2 k h2)]
  ·obtain ⟨h1,h3⟩:=hpost
   rw [if_pos ⟨hlp,h3⟩]
   have hpb:=kn (m:=24) (n:=y.fB.length) (f:=pa p) h3 (by omega)
   have hrun:=gK (body:=dw y p.fPrices) (fun i => (sm y.fB.length (pa p) + sm i (iF y (pa p)),(i : Int))) y.fR.length (t:=(sm y.fB.length (pa p) + sm y.fR.length (iF y (pa p)),(y.fR.length : Int))) (fun i hi => by
    have hgb:=kn (m:=24) (n:=i) (f:=iF y (pa p)) (fun j hj => by have:=le hG h3 (show j < y.fR.length by omega); omega) (by omega)
    have hgi:=le hG h3 hi
    have hw:=hG.worth hi
    have hms:=lS y (pa p) i (a:=wo y i) (b:=1001) (by omega) y.fB.length
    have hgr:=gain_ref hG (f:=pa p) hi
    unfold dw; dsimp only
    rw [gr (by omega),gPo (by omega),fV,show (oat y i).fW = wo y i from rfl,rleast_eq hB hlp _ hi,oB,rsome_eq hB hlp _ hi,oB]
    dsimp only
    rw [gPo (by omega),bn (by omega),fq (show -9223372036854775808 ≤ sm y.fB.length (pa p) + sm i (iF y (pa p)) + wo y i by omega) (by omega),fq (by omega) (by omega)]
    rw [show sm (i + 1) (iF y (pa p)) = sm i (iF y (pa p)) + iF y (pa p) i from rfl,← hgr]
    cases anyS y i y.fB.length with
    | true =>
     rw [if_pos rfl,if_pos rfl]
     refine congrArg some (congrArg Sum.inl (Prod.ext ?_ rfl))
     dsimp only; omega
    | false =>
     rw [if_neg (by simp),if_neg (by simp)]
     refine congrArg some (congrArg Sum.inl (Prod.ext ?_ rfl))
     dsimp only; omega) (by
    unfold dw; dsimp only
    rw [fj (by omega)])
   have e0 : aM (dw y p.fPrices) (u.2.1,0) = some (sm y.fB.length (pa p) + sm y.fR.length (iF y (pa p)),(y.fR.length : Int)):=by
    rw [h1]
    simpa [sm] using hrun
   simp only [oB]
   rw [e0,oB]
   exact congrArg some (Int.add_comm _ _)
 ·rw [if_pos (by rw [bne_iff_ne]; omega),if_neg fun h => hlp h.1]
theorem lc {y : TY} (hG : Good y) (p : TPlan) : cL y p = some (if Proved y p then 0 else 8):=by
 unfold cL
 rw [gT,fY.2 hG,oB,if_neg (by simp),rplan_eq hG,oB,ru hG]
 have hO:=hG.ords
 by_cases c1 : p.fG.length = y.fR.length ∧ (∀ i,i < y.fR.length → rn y p i) ∧ iS y p y.fR.length = p.fW
 ·rw [decide_eq_true c1,if_neg (by simp),oB,oB]
  have hs0:=kn (m:=24) (n:=y.fR.length) (f:=fun i => if ga p i = 0 then 0 else wo y i) (fun j hj => by
   have:=hG.worth hj
   split <;> omega) (by omega)
  have hs1 : iS y p y.fR.length = sm y.fR.length fun i => if ga p i = 0 then 0 else wo y i:=rfl
  by_cases c2 : p.fPrices.length = y.fB.length ∧ ∀ k,k < y.fB.length → 0 ≤ pa p k ∧ pa p k ≤ 1000
  ·rw [if_pos c2]
   by_cases c3 : sm y.fR.length (iF y (pa p)) + sm y.fB.length (pa p) = p.fW
   ·rw [if_neg (by simp [c3]),if_pos ⟨c1.1,c2.1,c2.2,c1.2.1,c1.2.2,c3⟩]
   ·rw [if_pos (by simp [c3]),if_neg fun h => c3 h.bound]
  ·rw [if_neg c2,if_pos (by rw [bne_iff_ne]; omega),if_neg fun h => c2 ⟨h.plen,h.price⟩]
 ·rw [decide_eq_false c1,if_pos (by rfl),oB,if_pos rfl,if_neg fun h => c1 ⟨h.len,h.ok,h.sum⟩]
theorem oP {y : TY} (hG : Good y) {k : Nat} (hk : k < y.fB.length) : im y (bat y k).fID = (k : Int):=by
 unfold im bat
 rw [dh hk]
 exact su hG.bayN hk
theorem pR {y : TY} (hG : Good y) {k : Nat} (hk : k < y.fB.length) : 1 ≤ (bat y k).fID:=by
 have:=hG.bay y.fB[k] (List.getElem_mem hk)
 unfold rz at this
 simp only [Bool.and_eq_true,decide_eq_true_eq] at this
 unfold bat
 rw [dh hk]
 exact this.1.1
theorem PlanOf.proved {y : TY} (hG : Good y) {m : Nat → Option Nat} (hM : Mat (Su y) m) {q u : Nat → Int} (hp : Prices (Su y) (wo y) y.fB.length y.fR.length m q u) {p : TPlan} (h : PlanOf y m q p) : Proved y p:=by
 have hF:=Su.fit y
 have hgot : ∀ o k,m k = some o → ga p o = (bat y k).fID ∧ k < y.fB.length ∧ o < y.fR.length:=fun o k e => ⟨h.got o k e,hF.bay o k (hM.suit k o e),hF.ord o k (hM.suit k o e)⟩
 have hnz : ∀ o,ga p o = 0 ↔ ¬ Dom m o:=fun o => ⟨fun e ⟨k,ek⟩ => by
  obtain ⟨h1,h2,_⟩:=hgot o k ek
  have:=pR hG h2
  omega,h.not o⟩
 have hpr : ∀ k,k < y.fB.length → pa p k = q k:=h.price
 have hq : ∀ k,k < y.fB.length → 0 ≤ q k ∧ q k ≤ 1000:=fun k hk => ⟨hp.q0 k,by
  cases e : m k with
  | none => rw [hp.free k e]; omega
  | some x => have h1:=hp.held k x e; have h2:=hG.worth (hgot x k e).2.2; omega⟩
 have hgain : ∀ i,i < y.fR.length → iF y (pa p) i = u i:=fun i hi => by
  have hw:=hG.worth hi
  obtain ⟨hm1,hm2⟩:=pb y (pa p) i 1001 y.fB.length
  have hm3:=mM y (pa p) i 1001 y.fB.length
  unfold iF
  by_cases hd : Dom m i
  ·obtain ⟨k,e⟩:=hd
   have hs:=hM.suit k i e
   have h1:=hp.uset k i e
   have h2:=hp.held k i e
   have h3:=hm2 k hs.2.1 hs.2.2
   rw [hpr k hs.2.1] at h3
   have h4 : q k ≤ jR y (pa p) i 1001 y.fB.length:=by
    rcases hm3 with h4 | ⟨k',hk',hs',h4⟩
    ·have:=(hq k hs.2.1).2; omega
    ·rw [h4,hpr k' hk']; exact hp.least k i k' e ⟨hi,hk',hs'⟩
   omega
  ·rw [hp.unot i hd]
   have h4 : wo y i ≤ jR y (pa p) i 1001 y.fB.length:=by
    rcases hm3 with h4 | ⟨k',hk',hs',h4⟩
    ·omega
    ·rw [h4,hpr k' hk']; exact hp.out i k' hi hd ⟨hi,hk',hs'⟩
   omega
 refine ⟨h.len,h.plen,fun k hk => by rw [hpr k hk]; exact hq k hk,fun i hi => ?_,?_,?_⟩
 ·by_cases hd : Dom m i
  ·obtain ⟨k,e⟩:=hd
   obtain ⟨h1,h2,_⟩:=hgot i k e
   refine .inr ⟨by rw [h1,oP hG h2]; omega,by rw [h1,oP hG h2,jx]; exact (hM.suit k i e).2.2,fun j hj ej => ?_⟩
   have hdj : Dom m j:=Classical.byContradiction fun hn => by
    have:=(hnz j).2 hn
    have:=pR hG h2
    omega
   obtain ⟨k',e'⟩:=hdj
   obtain ⟨h1',h2',_⟩:=hgot j k' e'
   have h5:=oP hG h2
   rw [← h1,← ej,h1',oP hG h2'] at h5
   have : k' = k:=by omega
   subst this
   rw [e] at e'
   cases e'
   omega
  ·exact .inl ((hnz i).2 hd)
 ·rw [h.worth]
  unfold wor
  rw [bij hF hM (wo y)]
  refine cx fun i _ => ?_
  by_cases hd : Dom m i
  ·rw [if_pos hd,if_neg fun e => (hnz i).1 e hd]
  ·rw [if_neg hd,if_pos ((hnz i).2 hd)]
 ·rw [h.worth,hp.total,cx hgain,cx hpr]
  exact Int.add_comm _ _
theorem qQ {y : TY} {p : TPlan} (hok : ∀ i,i < y.fR.length → rn y p i) : ∃ m,Mat (Su y) m ∧ (∀ i,Dom m i ↔ i < y.fR.length ∧ ga p i ≠ 0) ∧ wor y.fB.length (wo y) m = iS y p y.fR.length:=by
 let Q : Nat → Nat → Prop:=fun k i => i < y.fR.length ∧ ga p i ≠ 0 ∧ im y (ga p i) = (k : Int)
 let m : Nat → Option Nat:=fun k => if h : ∃ i,Q k i then some (Classical.choose h) else none
 have huniq : ∀ k i j,Q k i → Q k j → i = j:=fun k i j hi hj => by
  have h1 : 0 ≤ im y (ga p i):=by rw [hi.2.2]; omega
  have h2 : 0 ≤ im y (ga p j):=by rw [hj.2.2]; omega
  have e1:=lz (q:=fun n : TBay => n.fID == ga p i) h1
  have e2:=lz (q:=fun n : TBay => n.fID == ga p j) h2
  have e3 : ga p i = ga p j:=by
   have a1 : (rdL y.fB (k : Int)).fID = ga p i:=by have:=hi.2.2; unfold im at this; rw [this] at e1; exact beq_iff_eq.1 e1
   have a2 : (rdL y.fB (k : Int)).fID = ga p j:=by have:=hj.2.2; unfold im at this; rw [this] at e2; exact beq_iff_eq.1 e2
   rw [← a1,a2]
  rcases Nat.lt_trichotomy i j with h | h | h
  ·rcases hok j hj.1 with h0 | ⟨_,_,h0⟩
   ·exact absurd h0 hj.2.1
   ·exact absurd e3 (h0 i h)
  ·exact h
  ·rcases hok i hi.1 with h0 | ⟨_,_,h0⟩
   ·exact absurd h0 hi.2.1
   ·exact absurd e3.symm (h0 j h)
 have hm : ∀ k o,m k = some o ↔ Q k o:=fun k o => by
  show (if h : ∃ i,Q k i then some (Classical.choose h) else none) = some o ↔ _
  by_cases h : ∃ i,Q k i
  ·rw [dif_pos h]
   have hc:=Classical.choose_spec h
   exact ⟨fun e => by cases e; exact hc,fun ho => by rw [huniq k _ _ hc ho]⟩
  ·rw [dif_neg h]
   exact ⟨fun e => (by cases e),fun ho => absurd ⟨o,ho⟩ h⟩
 have hM : Mat (Su y) m:=⟨fun k o e => by
  obtain ⟨h1,h2,h3⟩:=(hm k o).1 e
  rcases hok o h1 with h0 | ⟨h0,h4,_⟩
  ·exact absurd h0 h2
  ·have h5:=pm y (ga p o)
   rw [h3,jx] at h4
   exact ⟨h1,by omega,h4⟩,fun k k' o e e' => by
  have h1:=((hm k o).1 e).2.2
  have h2:=((hm k' o).1 e').2.2
  omega⟩
 have hd : ∀ i,Dom m i ↔ i < y.fR.length ∧ ga p i ≠ 0:=fun i => ⟨fun ⟨k,e⟩ => ⟨((hm k i).1 e).1,((hm k i).1 e).2.1⟩,fun ⟨h1,h2⟩ => by
  rcases hok i h1 with h0 | ⟨h0,_,_⟩
  ·exact absurd h0 h2
  ·exact ⟨(im y (ga p i)).toNat,(hm _ i).2 ⟨h1,h2,by omega⟩⟩⟩
 refine ⟨m,hM,hd,?_⟩
 unfold wor
 rw [bij (Su.fit y) hM (wo y)]
 refine cx fun i hi => ?_
 by_cases h0 : ga p i = 0
 ·rw [if_pos h0,if_neg fun h => ((hd i).1 h).2 h0]
 ·rw [if_neg h0,if_pos ((hd i).2 ⟨hi,h0⟩)]
theorem Proved.opt {y : TY} {p : TPlan} (h : Proved y p) : Opt (Su y) (wo y) y.fB.length p.fW:=by
 have hF:=Su.fit y
 obtain ⟨m,hM,_,e⟩:=qQ h.ok
 refine ⟨⟨m,hM,by rw [e]; exact h.sum⟩,fun m2 hM2 => ?_⟩
 have:=weak' (w:=wo y) (q:=pa p) (u:=iF y (pa p)) hF (fun k hk => (h.price k hk).1) (fun i _ => by unfold iF; omega) (fun i k hs => by
  have:=(pb y (pa p) i 1001 y.fB.length).2 k hs.2.1 hs.2.2
  unfold iF; omega) hM2
 have h2:=h.bound
 omega
set_option linter.unusedSimpArgs false
def ew (y : TY) (x : TO) : TY:=⟨y.fB,y.fR ++ [x]⟩
theorem getD_app {α : Type} [Inhabited α] (l : List α) (x : α) {i : Nat} (hi : i < l.length) : (l ++ [x]).getD i default = l.getD i default:=by
 rw [List.getD_eq_getElem?_getD,List.getD_eq_getElem?_getD,List.getElem?_append_left hi]
theorem oE {y : TY} {x : TO} {i : Nat} (hi : i < y.fR.length) : oat (ew y x) i = oat y i:=getD_app _ _ hi
theorem r9 {y : TY} {x : TO} {i k : Nat} (h : Su y i k) : Su (ew y x) i k:=by
 refine ⟨?_,h.2.1,?_⟩
 ·show i < (y.fR ++ [x]).length
  rw [List.length_append]; have:=h.1; omega
 ·rw [oE h.1]; exact h.2.2
set_option linter.unusedSimpArgs false
open Classical
def p6 (h : Nat → Option Nat) (k o : Nat) : Nat → Option Nat:=fun j => if j = k then some o else h j
theorem jy (h : Nat → Option Nat) (k o : Nat) : p6 h k o k = some o:=if_pos rfl
theorem iD {h : Nat → Option Nat} {k o j : Nat} (hj : j ≠ k) : p6 h k o j = h j:=if_neg hj
theorem kU {S : Nat → Nat → Prop} {h : Nat → Option Nat} (hM : Mat S h) {k o : Nat} (hs : S o k) (hn : ¬ Dom h o) : Mat S (p6 h k o):=by
 refine ⟨fun j x e => ?_,fun j j' x e e' => ?_⟩
 ·by_cases hj : j = k
  ·rw [hj,jy] at e; cases e; rw [hj]; exact hs
  ·rw [iD hj] at e; exact hM.suit j x e
 ·by_cases hj : j = k
  ·rw [hj,jy] at e; cases e
   by_cases hj' : j' = k
   ·rw [hj,hj']
   ·rw [iD hj'] at e'; exact absurd ⟨j',e'⟩ hn
  ·rw [iD hj] at e
   by_cases hj' : j' = k
   ·rw [hj',jy] at e'; cases e'; exact absurd ⟨j,e⟩ hn
   ·rw [iD hj'] at e'; exact hM.inj j j' x e e'
theorem mz {S : Nat → Nat → Prop} {h : Nat → Option Nat} (hM : Mat S h) (k o x : Nat) : Dom (p6 h k o) x ↔ x = o ∨ (Dom h x ∧ h k ≠ some x):=by
 constructor
 ·rintro ⟨j,e⟩
  by_cases hj : j = k
  ·rw [hj,jy] at e; cases e; exact .inl rfl
  ·rw [iD hj] at e
   exact .inr ⟨⟨j,e⟩,fun e2 => hj (hM.inj j k x e e2)⟩
 ·rintro (rfl | ⟨⟨j,e⟩,h2⟩)
  ·exact ⟨k,jy h k x⟩
  ·refine ⟨j,?_⟩
   rw [iD fun hj => h2 (by rw [← hj]; exact e)]
   exact e
theorem exchange {S : Nat → Nat → Prop} {nB : Nat} (hB : ∀ o k,S o k → k < nB) : ∀ (u : Nat) (M Ms : Nat → Option Nat) (N : Nat),unt nB (fun k => M k = Ms k) ≤ (u : Int) → Mat S M → Mat S Ms → ¬ Dom M N → Dom Ms N → (∃ M',Mat S M' ∧ ∀ x,Dom M' x ↔ x = N ∨ Dom M x) ∨ ∃ i M' Ms',Dom M i ∧ ¬ Dom Ms i ∧ Mat S M' ∧ (∀ x,Dom M' x ↔ x = N ∨ (Dom M x ∧ x ≠ i)) ∧ Mat S Ms' ∧ (∀ x,Dom Ms' x ↔ x = i ∨ (Dom Ms x ∧ x ≠ N)) ∧ ∀ k,M k = Ms k → Ms' k = Ms k:=by
 intro u
 induction u with
 | zero =>
  intro M Ms N hu hM hMs hn ⟨k,ek⟩
  have hk:=hB N k (hMs.suit k N ek)
  have hne : M k ≠ Ms k:=fun e => hn ⟨k,by rw [e]; exact ek⟩
  have h1:=unt_lt (T:=fun j => M j = Ms j) (T':=fun j => M j = Ms j ∨ j = k) hk (fun j hj => .inl hj) hne (.inr rfl)
  have h2:=f0 nB fun j => M j = Ms j ∨ j = k
  omega
 | succ u ih =>
  intro M Ms N hu hM hMs hn ⟨k,ek⟩
  have hs:=hMs.suit k N ek
  have hk:=hB N k hs
  cases eM : M k with
  | none =>
   refine .inl ⟨p6 M k N,kU hM hs hn,fun x => ?_⟩
   rw [mz hM,eM]
   exact ⟨fun h => by rcases h with h | h; exact .inl h; exact .inr h.1,fun h => by rcases h with h | h; exact .inl h; exact .inr ⟨h,by simp⟩⟩
  | some o =>
   have hoN : o ≠ N:=fun e => hn ⟨k,by rw [eM,e]⟩
   have hM1:=kU hM hs hn
   have hd1 : ∀ x,Dom (p6 M k N) x ↔ x = N ∨ (Dom M x ∧ x ≠ o):=fun x => by
    rw [mz hM,eM]
    exact ⟨fun h => by rcases h with h | h; exact .inl h; exact .inr ⟨h.1,fun e => h.2 (by rw [e])⟩,fun h => by rcases h with h | h; exact .inl h; exact .inr ⟨h.1,fun e => h.2 (Option.some.inj e).symm⟩⟩
   have hoM : Dom M o:=⟨k,eM⟩
   by_cases hd : Dom Ms o
   ·have hn1 : ¬ Dom (p6 M k N) o:=fun h => by
     rcases (hd1 o).1 h with h | h
     ·exact hoN h
     ·exact h.2 rfl
    have hne : ¬ (M k = Ms k):=fun e => by rw [eM,ek] at e; exact hoN (Option.some.inj e)
    have hagree : ∀ j,M j = Ms j → p6 M k N j = Ms j:=fun j e => by
     have hj : j ≠ k:=fun h => hne (by rw [← h]; exact e)
     rw [iD hj]; exact e
    have hlt:=unt_lt (nB:=nB) (T:=fun j => M j = Ms j) (T':=fun j => p6 M k N j = Ms j) hk hagree hne (by rw [jy,ek])
    rcases ih (p6 M k N) Ms o (by omega) hM1 hMs hn1 hd with ⟨M',h1,h2⟩ | ⟨i,M',Ms',h1,h2,h3,h4,h5,h6,h7⟩
    ·refine .inl ⟨M',h1,fun x => ?_⟩
     rw [h2,hd1]
     constructor
     ·rintro (rfl | h | h)
      ·exact .inr hoM
      ·exact .inl h
      ·exact .inr h.1
     ·rintro (h | h)
      ·exact .inr (.inl h)
      ·by_cases e : x = o
       ·exact .inl e
       ·exact .inr (.inr ⟨h,e⟩)
    ·have hiN : i ≠ N:=fun e => h2 (by rw [e]; exact ⟨k,ek⟩)
     have hi : Dom M i ∧ i ≠ o:=by
      rcases (hd1 i).1 h1 with h | h
      ·exact absurd h hiN
      ·exact h
     have ek' : Ms' k = some N:=by rw [h7 k (by rw [jy,ek]),ek]
     have hno : ¬ Dom Ms' o:=fun h => by
      rcases (h6 o).1 h with h | h
      ·exact hi.2 h.symm
      ·exact h.2 rfl
     refine .inr ⟨i,M',p6 Ms' k o,hi.1,h2,h3,fun x => ?_,kU h5 (hM.suit k o eM) hno,fun x => ?_,fun j e => ?_⟩
     ·rw [h4,hd1]
      constructor
      ·rintro (rfl | ⟨h | h,h'⟩)
       ·exact .inr ⟨hoM,fun e => hi.2 e.symm⟩
       ·exact .inl h
       ·exact .inr ⟨h.1,h'⟩
      ·rintro (h | ⟨h,h'⟩)
       ·exact .inr ⟨.inl h,fun e => hiN (by rw [← e,h])⟩
       ·by_cases e : x = o
        ·exact .inl e
        ·exact .inr ⟨.inr ⟨h,e⟩,h'⟩
     ·rw [mz h5,ek',h6]
      constructor
      ·rintro (rfl | ⟨h | h,h'⟩)
       ·exact .inr ⟨hd,hoN⟩
       ·exact .inl h
       ·exact .inr ⟨h.1,fun e => h' (by rw [e])⟩
      ·rintro (h | ⟨h,h'⟩)
       ·exact .inr ⟨.inl h,fun e => hiN (by rw [← h]; exact (Option.some.inj e).symm)⟩
       ·by_cases e : x = o
        ·exact .inl e
        ·exact .inr ⟨.inr ⟨h,e⟩,fun e2 => h' (Option.some.inj e2).symm⟩
     ·have hj : j ≠ k:=fun h => hne (by rw [← h]; exact e)
      rw [iD hj]
      exact h7 j (hagree j e)
   ·refine .inr ⟨o,p6 M k N,p6 Ms k o,hoM,hd,hM1,hd1,kU hMs (hM.suit k o eM) hd,fun x => ?_,fun j e => ?_⟩
    ·rw [mz hMs,ek]
     exact ⟨fun h => by rcases h with h | h; exact .inl h; exact .inr ⟨h.1,fun e => h.2 (by rw [e])⟩,fun h => by rcases h with h | h; exact .inl h; exact .inr ⟨h.1,fun e => h.2 (Option.some.inj e).symm⟩⟩
    ·have hj : j ≠ k:=fun h => by
      rw [h,eM,ek] at e
      exact hoN (Option.some.inj e)
     rw [iD hj]
theorem wor_mset {nB k : Nat} (hk : k < nB) (w : Nat → Int) {h : Nat → Option Nat} (e : h k = none) (o : Nat) : wor nB w (p6 h k o) = wor nB w h + w o:=by
 have:=jv (f:=fun j => ov w (h j)) (g:=fun j => ov w (p6 h k o j)) hk fun j _ hj => by rw [iD hj]
 unfold wor
 rw [this,jy]
 simp only [e]
 have e1 : ov w none = 0:=rfl
 have e2 : ov w (some o) = w o:=rfl
 rw [e1,e2]
 omega
theorem opt_cert {S : Nat → Nat → Prop} {w : Nat → Int} {nB nO : Nat} (hF : Fit S nB nO) (hw : ∀ i,i < nO → 0 < w i) {h : Nat → Option Nat} (hM : Mat S h) (hO : Opt S w nB (wor nB w h)) {i : Nat} (hi : i < nO) (hn : ¬ Dom h i) : Cert S w (Dom h) i:=by
 let S2 : Nat → Nat → Prop:=fun o k => S o k ∧ Dom h o
 have hF2 : Fit S2 nB nO:=⟨fun o k hs => hF.bay o k hs.1,fun o k hs => hF.ord o k hs.1⟩
 have hM2 : Mat S2 h:=⟨fun k o e => ⟨hM.suit k o e,k,e⟩,hM.inj⟩
 have hway : ∀ k0 k,Way S h k0 k → Way S2 h k0 k:=fun k0 k hw' => by
  induction hw' with
  | refl => exact .refl
  | step _ e s ih => exact .step ih e ⟨s,_,e⟩
 have hlt : ∀ k0 k,S i k0 → Way S h k0 k → k < nB:=fun k0 k hs hw' => by
  cases hw' with
  | refl => exact hF.bay i k0 hs
  | step _ _ s => exact hF.bay _ _ s
 have key : ∀ k0 k,S i k0 → Way S h k0 k → ∃ x,h k = some x ∧ w i ≤ w x:=fun k0 k hs hw' => by
  obtain ⟨h',m1,m2,m3⟩:=rc hF2 w hM2 (hlt k0 k hs hw') (hway k0 k hw')
  have hM' : Mat S h':=⟨fun k o e => (m1.suit k o e).1,m1.inj⟩
  have hn' : ¬ Dom h' i:=fun ⟨j,e⟩ => hn (m1.suit j i e).2
  have h1:=hO.most _ (kU hM' hs hn')
  rw [wor_mset (hF.bay i k0 hs) w m2,m3] at h1
  have hwi:=hw i hi
  cases e : h k with
  | none =>
   rw [e] at h1
   have e1 : ov w none = 0:=rfl
   omega
  | some x =>
   rw [e] at h1
   have e1 : ov w (some x) = w x:=rfl
   exact ⟨x,rfl,by omega⟩
 refine ⟨h,fun k => ∃ k0,S i k0 ∧ Way S h k0 k,hM,fun x hx => hx,⟨fun k hk => ?_⟩,fun k hs => ⟨k,hs,.refl⟩,fun k x hk e => ?_⟩
 ·obtain ⟨k0,hs,hw'⟩:=hk
  obtain ⟨x,e,_⟩:=key k0 k hs hw'
  exact ⟨x,e,fun k' hs' => ⟨k0,hs,.step hw' e hs'⟩⟩
 ·obtain ⟨k0,hs,hw'⟩:=hk
  obtain ⟨x',e',hx⟩:=key k0 k hs hw'
  rw [e] at e'
  cases e'
  exact hx
theorem rs {S : Nat → Nat → Prop} {w : Nat → Int} {nB nO : Nat} (hF : Fit S nB nO) (hw : ∀ i,i < nO → 0 < w i) (hw0 : ∀ i,0 ≤ w i) {h : Nat → Option Nat} (hM : Mat S h) (hO : Opt S w nB (wor nB w h)) : ∃ q u,Prices S w nB nO h q u:=prices hF hw0 hM (L:=Dom h) (fun x => Iff.rfl) fun i hi hn => opt_cert hF hw hM hO hi hn
set_option linter.unusedSimpArgs false
theorem orB {b c : Bool} : (if b = true then (some true) else (some c)) = some (b || c):=by cases b <;> rfl
theorem andB {b c : Bool} : (if b = true then (some c) else (some false)) = some (b && c):=by cases b <;> rfl
def spansB (last : Int) : List TSpan → Bool
 | [] => true
 | s :: l => !((decide (s.fLo < last + 2) || decide (s.fHi < s.fLo)) || decide (16384 < s.fHi)) && spansB s.fHi l
structure GoodT (n : Int) (t : TT) : Prop where
 id : 1 ≤ t.fID ∧ t.fID ≤ 1099511627776
 fr : 0 ≤ t.fFrom ∧ t.fFrom ≤ n - 1
 to : 0 ≤ t.fTo ∧ t.fTo ≤ n - 1
 ne : t.fFrom ≠ t.fTo
 long : 1 ≤ t.fLong ∧ t.fLong ≤ 72
 toll : 0 ≤ t.fToll ∧ t.fToll ≤ 40
 spans : spansB (-2) t.fK = true
 few : t.fK.length ≤ 4
structure GoodR (r : TR) : Prop where
 places : 1 ≤ r.fPlaces ∧ r.fPlaces ≤ 16
 len : r.fTracks.length ≤ 48
 trk : ∀ t ∈ r.fTracks,GoodT r.fPlaces t
 once : (r.fTracks.map (·.fID)).Nodup
structure AskedOk (r : TR) (f t h p : Int) : Prop where
 good : GoodR r
 fr : 0 ≤ f ∧ f < r.fPlaces
 to : 0 ≤ t ∧ t < r.fPlaces
 hour : 0 ≤ h ∧ h ≤ 16384
 purse : 0 ≤ p ∧ p ≤ 60
set_option linter.unusedSimpArgs false
theorem rr {L : List Int} (hs : dW L) (n : Int) (k : Nat) (hk : k ≤ L.length) (h1 : ∀ j,(hj : j < L.length) → j < k → L[j] < n) (h2 : ∀ h : k < L.length,n ≤ L[k]) : L.take k ++ [n] ++ L.drop k = mG (L ++ [n]):=by
 refine pO ?_ ?_
 ·have e : (L.take k ++ L.drop k ++ [n]).Perm (L ++ [n]):=by rw [List.take_append_drop]
  refine List.Perm.trans ?_ e
  rw [List.append_assoc,List.append_assoc]
  exact List.perm_append_comm.append_left _
 ·have hpw:=List.pairwise_iff_getElem.1 hs
  unfold dW at hs ⊢
  rw [List.append_assoc,List.pairwise_append]
  refine ⟨hs.sublist (List.take_sublist _ _),?_,fun a ha b hb => ?_⟩
  ·rw [List.singleton_append,List.pairwise_cons]
   refine ⟨fun b hb => ?_,hs.sublist (List.drop_sublist _ _)⟩
   obtain ⟨j,hj,rfl⟩:=List.mem_iff_getElem.1 hb
   rw [List.getElem_drop]
   rw [List.length_drop] at hj
   have h3:=h2 (by omega)
   by_cases e : j = 0
   ·subst e; simpa using h3
   ·have:=hpw k (k + j) (by omega) (by omega) (by omega)
    omega
  ·obtain ⟨j,hj,rfl⟩:=List.mem_take_iff_getElem.1 ha
   have hlt : L[j]'(by omega) < n:=h1 j (by omega) (by omega)
   rw [List.singleton_append] at hb
   rcases List.mem_cons.1 hb with rfl | hb
   ·omega
   ·obtain ⟨i,hi,rfl⟩:=List.mem_iff_getElem.1 hb
    rw [List.getElem_drop]
    rw [List.length_drop] at hi
    have:=hpw j (k + i) (by omega) (by omega) (by omega)
    omega
theorem put_eq {L : List Int} (hl : L.length ≤ 1000000) (hs : dW L) (n : Int) : mU L n = some (mG (L ++ [n])):=by
 have key : ∃ t,aM (iv L n) 0 = some t ∧ ∃ k : Nat,t = (k : Int) ∧ k ≤ L.length ∧ (∀ j,(hj : j < L.length) → j < k → L[j] < n) ∧ ∀ h : k < L.length,n ≤ L[k]:=by
  refine fF (body:=iv L n) (fun s => ∃ k : Nat,s = (k : Int) ∧ k ≤ L.length ∧ ∀ j,(hj : j < L.length) → j < k → L[j] < n) (fun s t => ∃ k : Nat,t = (k : Int) ∧ k ≤ L.length ∧ (∀ j,(hj : j < L.length) → j < k → L[j] < n) ∧ ∀ h : k < L.length,n ≤ L[k]) (fun s => L.length - s.toNat) (fun s hs => ?_) _ ⟨0,rfl,Nat.zero_le _,fun j hj h => by omega⟩
  obtain ⟨k,rfl,i2,i3⟩:=hs
  unfold iv
  by_cases hk : k < L.length
  ·rw [gr (by omega),gPo (by omega),d8 hk,oB,bn (by omega)]
   by_cases hc : L[k] < n
   ·rw [if_pos (decide_eq_true hc)]
    refine .inl ⟨_,rfl,⟨k + 1,rfl,hk,fun j hj h => ?_⟩,by omega,fun t ht => ht⟩
    by_cases e : j = k
    ·subst e; exact hc
    ·exact i3 j hj (by omega)
   ·rw [if_neg (by simp [hc])]
    exact .inr ⟨_,rfl,k,rfl,i2,i3,fun _ => by omega⟩
  ·rw [fj (by omega),oB,if_neg (by simp)]
   exact .inr ⟨_,rfl,k,rfl,i2,i3,fun h => absurd h hk⟩
 obtain ⟨t,t1,k,rfl,k2,k3,k4⟩:=key
 unfold mU
 rw [t1,oB,gPo (by omega),Int.toNat_natCast,gPo (by omega),gPo (by omega),gPo (by omega),gPo (by omega)]
 rw [List.nil_append,rr hs n k k2 k3 k4]
def mj (n : Nat) (id : Nat → Int) (P : Nat → Bool) : List Int:=(List.range n).filterMap fun k => if P k = true then some (id k) else none
theorem nN (n : Nat) (id : Nat → Int) (P : Nat → Bool) : mj (n + 1) id P = if P n = true then mj n id P ++ [id n] else mj n id P:=by
 unfold mj
 rw [List.range_succ,List.filterMap_append]
 by_cases h : P n = true <;> simp [h]
theorem sh (n : Nat) (id : Nat → Int) (P : Nat → Bool) : (mj n id P).length ≤ n:=by
 induction n with
 | zero => simp [mj]
 | succ n ih =>
  rw [nN]
  split
  ·rw [List.length_append]; simp; exact ih
  ·omega
theorem srtI_app (l : List Int) (x : Int) : mG (mG l ++ [x]) = mG (l ++ [x]):=pO ((jL _).trans ((jL l).append_right [x])) (i9 _)
theorem putLoop {n : Nat} (hn : n ≤ 1000000) (id : Nat → Int) (P : Nat → Bool) {body : (Int × List Int) → Option ((Int × List Int) ⊕ (Int × List Int))} (hb : ∀ k,k < n → ∀ L : List Int,body ((k : Int),L) = if P k = true then (mU L (id k)).bind fun y => some (.inl (((k + 1 : Nat) : Int),y)) else some (.inl (((k + 1 : Nat) : Int),L))) (hs : ∀ L : List Int,body ((n : Int),L) = some (.inr ((n : Int),L))) : aM body (0,[]) = some ((n : Int),mG (mj n id P)):=by
 have h:=gK (body:=body) (fun k => ((k : Int),mG (mj k id P))) n (t:=((n : Int),mG (mj n id P))) (fun k hk => by
  show body ((k : Int),mG (mj k id P)) = some (Sum.inl (((k + 1 : Nat) : Int),mG (mj (k + 1) id P)))
  rw [hb k hk,nN]
  by_cases h : P k = true
  ·rw [if_pos h,if_pos h,put_eq (by rw [qH]; have:=sh k id P; omega) (i9 _),oB,srtI_app]
  ·rw [if_neg h,if_neg h]) (hs _)
 exact h
def oid (y : TY) (k : Nat) : Int:=(oat y k).fID
set_option linter.unusedSimpArgs false
open Classical
def NeverP (y : TY) (V0 : Int) (i : Nat) : Prop:=∀ m,Mat (Su y) m → wor y.fB.length (wo y) m = V0 → ¬ Dom m i
theorem Mat.s1 {y : TY} {m : Nat → Option Nat} (hM : Mat (Su y) m) {i : Nat} (h : ¬ Dom m i) : Mat (S1 y (i : Int)) m:=⟨fun k o e => ⟨hM.suit k o e,fun h2 => h ⟨k,by rw [e]; congr 1; omega⟩⟩,hM.inj⟩
def but (m : Nat → Option Nat) (i : Nat) : Nat → Option Nat:=fun k => if m k = some i then none else m k
theorem jT {m : Nat → Option Nat} {i k o : Nat} : but m i k = some o ↔ m k = some o ∧ o ≠ i:=by
 unfold but
 by_cases h : m k = some i
 ·rw [if_pos h]
  exact ⟨fun e => (by cases e),fun ⟨e,ne⟩ => absurd (by rw [h] at e; exact (Option.some.inj e).symm) ne⟩
 ·rw [if_neg h]
  exact ⟨fun e => ⟨e,fun e2 => h (by rw [e,e2])⟩,fun h => h.1⟩
noncomputable def never (y : TY) (V0 : Int) : List Int:=mG (mj y.fR.length (oid y) fun k => decide (NeverP y V0 k))
set_option linter.unusedSimpArgs false
theorem mX : dM = some true:=by kernel_rfl
set_option linter.unusedSimpArgs false
theorem yard_eq (y : TY) : eD y = some (decide ((y.fB.length ≤ 9 ∨ 24 < y.fB.length ∧ y.fB.length ≤ 40) ∧ (y.fR.length ≤ 9 ∨ 24 < y.fR.length ∧ y.fR.length ≤ 40))):=by
 unfold eD
 refine congrArg some ?_
 rw [Bool.eq_iff_iff]
 simp only [Bool.and_eq_true,Bool.or_eq_true,decide_eq_true_eq]
 omega
end Go.Proofs.YthndghnkebboaaaGreat
