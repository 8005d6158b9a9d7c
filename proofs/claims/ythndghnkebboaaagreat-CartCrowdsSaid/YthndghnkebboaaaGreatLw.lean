import Derived.Test.YthndghnkebboaaaGreatP
import Derived.Test.YthndghnkebboaaaGreatGz
import Derived.Test.YthndghnkebboaaaGreatGy
import Derived.KernelRfl
set_option linter.unusedSimpArgs false
set_option linter.unusedVariables false
namespace Go.Proofs.YthndghnkebboaaaGreat
theorem loop_for {S T : Type} {body : S → Option (S ⊕ T)} (st : Nat → S) : ∀ (n : Nat),(∀ k,k < n → body (st k) = some (.inl (st (k + 1)))) → loopO body (st 0) = loopO body (st n)
 | 0,_ => rfl
 | n + 1,h => by rw [loop_for st n (fun k hk => h k (by omega)),loopO_next (h n (by omega))]
theorem loop_run {S T : Type} {body : S → Option (S ⊕ T)} (st : Nat → S) (n : Nat) {t : T} (h : ∀ k,k < n → body (st k) = some (.inl (st (k + 1)))) (hs : body (st n) = some (.inr t)) : loopO body (st 0) = some t:=by
 rw [loop_for st n h,loopO_stop hs]
theorem loop_search {S T : Type} {body : S → Option (S ⊕ T)} (st : Nat → S) (n : Nat) (R : Nat → Option T) {t0 : T} (h : ∀ k,k < n → body (st k) = some (match R k with | none => .inl (st (k + 1)) | some t => .inr t)) (hs : body (st n) = some (.inr t0)) :
  loopO body (st 0) = some (((List.range n).findSome? R).getD t0):=by
 have key : ∀ c k,k + c = n → loopO body (st k) = some (((List.range' k c).findSome? R).getD t0):=by
  intro c
  induction c with
  | zero =>
   intro k hk
   have : k = n:=by omega
   subst this
   rw [loopO_stop hs]
   rfl
  | succ c ih =>
   intro k hk
   have hb:=h k (by omega)
   rw [List.range'_succ]
   cases hR : R k with
   | none =>
    rw [hR] at hb
    rw [loopO_next hb,ih (k + 1) (by omega)]
    simp [hR]
   | some t =>
    rw [hR] at hb
    rw [loopO_stop hb]
    simp [hR]
 have:=key n 0 (by omega)
 rw [this,List.range_eq_range']
theorem ite_t {α : Type} {p : Prop} [Decidable p] {x y : α} (h : p) : (if decide p = true then x else y) = x:=by rw [if_pos (decide_eq_true h)]
theorem ite_f {α : Type} {p : Prop} [Decidable p] {x y : α} (h : ¬p) : (if decide p = true then x else y) = y:=by rw [if_neg (by rw [decide_eq_false h]; exact Bool.false_ne_true)]
theorem rdL_nat {α : Type} [Inhabited α] {xs : List α} {k : Nat} (h : k < xs.length) : rdL xs (k : Int) = xs[k]:=by
 unfold rdL
 rw [Int.toNat_natCast,List.getD_eq_getElem?_getD,List.getElem?_eq_getElem h]
 rfl
theorem w64_succ {k : Nat} (h : k < 9223372036854775807) : w64 ((k : Int) + 1) = ((k + 1 : Nat) : Int):=by
 rw [w64_id (by omega) (by omega)]; rfl
theorem findSome_cases {T : Type} {R : Nat → Option T} {n : Nat} (t0 : T) : ((∀ k,k < n → R k = none) ∧ ((List.range n).findSome? R).getD t0 = t0) ∨ ∃ k t,k < n ∧ R k = some t ∧ (∀ j,j < k → R j = none) ∧ ((List.range n).findSome? R).getD t0 = t:=by
 induction n with
 | zero => exact .inl ⟨fun k hk => by omega,rfl⟩
 | succ n ih =>
  rw [List.range_succ,List.findSome?_append]
  rcases ih with ⟨h1,h2⟩ | ⟨k,t,hk,hR,hj,h2⟩
  ·have h3 : (List.range n).findSome? R = none:=List.findSome?_eq_none_iff.2 (fun x hx => h1 x (List.mem_range.1 hx))
   rw [h3]
   cases hR : R n with
   | none => exact .inl ⟨fun k hk => by
    rcases Nat.lt_or_ge k n with h | h
    ·exact h1 k h
    ·rw [show k = n by omega]; exact hR,by simp [hR]⟩
   | some t => exact .inr ⟨n,t,by omega,hR,h1,by simp [hR]⟩
  ·refine .inr ⟨k,t,by omega,hR,hj,?_⟩
   have h3 : ((List.range n).findSome? R) = some t:=by
    cases hf : (List.range n).findSome? R with
    | none => have:=List.findSome?_eq_none_iff.1 hf k (List.mem_range.2 hk); rw [hR] at this; cases this
    | some u => rw [hf] at h2; exact congrArg some h2
   rw [h3]
   rfl
theorem search_none {T : Type} {R : Nat → Option T} {n : Nat} {t0 : T} (h : ∀ k,k < n → R k = none) : ((List.range n).findSome? R).getD t0 = t0:=by
 rw [List.findSome?_eq_none_iff.2 (fun x hx => h x (List.mem_range.1 hx))]; rfl
theorem search_some {T : Type} {R : Nat → Option T} {n : Nat} {t0 t : T} (k : Nat) (hk : k < n) (hR : R k = some t) (hj : ∀ j,j < k → R j = none) : ((List.range n).findSome? R).getD t0 = t:=by
 rcases findSome_cases (R:=R) (n:=n) t0 with ⟨h,_⟩ | ⟨k',t',hk',hR',hj',h⟩
 ·rw [h k hk] at hR; cases hR
 ·rcases Nat.lt_trichotomy k k' with h' | h' | h'
  ·rw [hj' k h'] at hR; cases hR
  ·subst h'; rw [hR] at hR'; cases hR'; exact h
  ·rw [hj k' h'] at hR'; cases hR'
def idxI {α : Type} [Inhabited α] (l : List α) (q : α → Bool) : Int:=((List.range l.length).findSome? fun k => if q (l.getD k default) = true then some (k : Int) else none).getD (-1)
theorem getD_lt {α : Type} [Inhabited α] {l : List α} {k : Nat} (h : k < l.length) : l.getD k default = l[k]:=by
 rw [List.getD_eq_getElem?_getD,List.getElem?_eq_getElem h]; rfl
theorem idxI_cases {α : Type} [Inhabited α] (l : List α) (q : α → Bool) : ((∀ x ∈ l,q x = false) ∧ idxI l q = -1) ∨ ∃ k,∃ h : k < l.length,q l[k] = true ∧ (∀ j,(hj : j < k) → q (l[j]'(by omega)) = false) ∧ idxI l q = (k : Int):=by
 unfold idxI
 rcases findSome_cases (R:=fun k => if q (l.getD k default) = true then some (k : Int) else none) (n:=l.length) (-1) with ⟨h,h2⟩ | ⟨k,t,hk,hR,hj,h2⟩
 ·refine .inl ⟨fun x hx => ?_,h2⟩
  obtain ⟨k,hk,rfl⟩:=List.mem_iff_getElem.1 hx
  have:=h k hk
  rw [getD_lt hk] at this
  cases hq : q l[k]
  ·rfl
  ·rw [hq] at this; simp at this
 ·rw [getD_lt hk] at hR
  cases hq : q l[k] with
  | false => rw [hq] at hR; simp at hR
  | true =>
   rw [hq] at hR
   simp only [if_true] at hR
   refine .inr ⟨k,hk,hq,fun j hj' => ?_,h2.trans (Option.some.inj hR).symm⟩
   have:=hj j hj'
   rw [getD_lt (by omega)] at this
   cases hq' : q (l[j]'(by omega))
   ·rfl
   ·rw [hq'] at this; simp at this
theorem idxI_ret {α : Type} [Inhabited α] (l : List α) (q : α → Bool) : (match ((List.range l.length).findSome? (fun k => if q (l.getD k default) = true then some (Sum.inl ((k : Int),(k : Int)) : (Int × Int) ⊕ (Int × Int)) else none)).getD (.inr (0,(l.length : Int))) with | .inl u => some u.1 | .inr _ => some (-1)) = some (idxI l q):=by
 unfold idxI
 rcases findSome_cases (R:=fun k => if q (l.getD k default) = true then some (Sum.inl ((k : Int),(k : Int)) : (Int × Int) ⊕ (Int × Int)) else none) (n:=l.length) (.inr (0,(l.length : Int))) with ⟨hn,h2⟩ | ⟨k,t,hk,hR,hj,h2⟩
 ·rw [h2,search_none (fun k hk => by have:=hn k hk; split at this <;> simp_all)]
 ·rw [h2]
  have hq : q (l.getD k default) = true:=by
   by_cases hq : q (l.getD k default) = true
   ·exact hq
   ·rw [if_neg hq] at hR; cases hR
  rw [if_pos hq] at hR
  cases hR
  rw [search_some k hk (by rw [if_pos hq]) (fun j hj' => by have:=hj j hj'; split at this <;> simp_all)]
theorem idxI_lt_len {α : Type} [Inhabited α] (l : List α) (q : α → Bool) : idxI l q < (l.length : Int):=by
 rcases idxI_cases l q with ⟨h,h2⟩ | ⟨k,hk,hq,_,h2⟩ <;> omega
theorem idxI_get {α : Type} [Inhabited α] {l : List α} {q : α → Bool} (h : 0 ≤ idxI l q) : q (rdL l (idxI l q)) = true:=by
 rcases idxI_cases l q with ⟨_,h2⟩ | ⟨k,hk,hq,_,h2⟩
 ·omega
 ·rw [h2,rdL_nat hk]; exact hq
theorem idxI_at {α : Type} [Inhabited α] {l : List α} {f : α → Int} (hd : (l.map f).Nodup) {k : Nat} (hk : k < l.length) : idxI l (fun x => f x == f l[k]) = (k : Int):=by
 rcases idxI_cases l (fun x => f x == f l[k]) with ⟨h,_⟩ | ⟨j,hj,hq,_,h2⟩
 ·have:=h l[k] (List.getElem_mem hk); simp at this
 ·rw [h2]
  have he : f l[j] = f l[k]:=by simpa using hq
  have hpw:=List.pairwise_iff_getElem.1 hd
  rcases Nat.lt_trichotomy j k with h3 | h3 | h3
  ·have:=hpw j k (by simpa using hj) (by simpa using hk) h3
   simp only [List.getElem_map] at this
   exact absurd he this
  ·rw [h3]
  ·have:=hpw k j (by simpa using hk) (by simpa using hj) h3
   simp only [List.getElem_map] at this
   exact absurd he.symm this
theorem idxI_lt {α : Type} [Inhabited α] {l : List α} {f : α → Int} {k : Nat} (hk : k < l.length) : idxI l (fun x => f x == f l[k]) < (k : Int) ↔ ∃ j,∃ h : j < k,f (l[j]'(by omega)) = f l[k]:=by
 rcases idxI_cases l (fun x => f x == f l[k]) with ⟨h,_⟩ | ⟨j,hj,hq,hm,h2⟩
 ·have:=h l[k] (List.getElem_mem hk); simp at this
 ·rw [h2]
  have he : f l[j] = f l[k]:=by simpa using hq
  refine ⟨fun h => ⟨j,by omega,he⟩,fun ⟨i,hi,hie⟩ => ?_⟩
  rcases Nat.lt_or_ge j k with h3 | h3
  ·omega
  ·exfalso
   have:=hm i (by omega)
   rw [hie] at this
   simp at this
theorem nodup_iff_first {α : Type} [Inhabited α] {l : List α} {f : α → Int} : (∀ k,(hk : k < l.length) → ¬ idxI l (fun x => f x == f l[k]) < (k : Int)) ↔ (l.map f).Nodup:=by
 refine ⟨fun h => ?_,fun h k hk => by rw [idxI_at h hk]; omega⟩
 rw [List.Nodup,List.pairwise_iff_getElem]
 intro i j hi hj hij
 simp only [List.length_map] at hi hj
 simp only [List.getElem_map]
 intro e
 exact h j hj ((idxI_lt hj).2 ⟨i,hij,e⟩)
theorem TSpan_eta (x : TSpan) : TSpan.mk x.fLo x.fHi = x:=rfl
theorem TOrder_eta (x : TO) : TO.mk x.fID x.fH x.fD x.fW = x:=rfl
theorem TBay_eta (x : TBay) : TBay.mk x.fID x.fHour x.fD = x:=rfl
theorem IndexOrder_eq {l : List TO} {f : TO → Option Bool} {q : TO → Bool} (hl : l.length < 1000000000) (h : ∀ x ∈ l,f x = some (q x)) : slices_IndexFunc_Order_Order l f = some (idxI l q):=by
 unfold slices_IndexFunc_Order_Order
 have:=loop_search (body:=slices_IndexFunc_Order_Order_l1 l f) (fun k => ((0 : Int),(k : Int))) l.length (fun k => if q (l.getD k default) = true then some (Sum.inl ((k : Int),(k : Int))) else none) (t0:=.inr (0,(l.length : Int))) (fun k hk => by
  have c1 : decide ((k : Int) < ((l.length : Nat) : Int)) = true:=decide_eq_true (by omega)
  have c2 : (0 : Int) ≤ (k : Int) ∧ (k : Int) < ((l.length : Nat) : Int):=by omega
  unfold slices_IndexFunc_Order_Order_l1; dsimp only
  simp only [c1,if_true,gPo c2,rdL_nat hk,TSpan_eta,TOrder_eta,h _ (List.getElem_mem hk),oB,getD_lt hk,w64_succ (show k < 9223372036854775807 by omega)]
  cases q l[k] <;> rfl) (by
  unfold slices_IndexFunc_Order_Order_l1; dsimp only
  rw [ite_f (by omega)])
 have h0 : loopO (slices_IndexFunc_Order_Order_l1 l f) (0,0) = _:=this
 rw [h0,oB]
 exact idxI_ret l q
theorem IndexBay_eq {l : List TBay} {f : TBay → Option Bool} {q : TBay → Bool} (hl : l.length < 1000000000) (h : ∀ x ∈ l,f x = some (q x)) : slices_IndexFunc_Bay_Bay l f = some (idxI l q):=by
 unfold slices_IndexFunc_Bay_Bay
 have:=loop_search (body:=slices_IndexFunc_Bay_Bay_l1 l f) (fun k => ((0 : Int),(k : Int))) l.length (fun k => if q (l.getD k default) = true then some (Sum.inl ((k : Int),(k : Int))) else none) (t0:=.inr (0,(l.length : Int))) (fun k hk => by
  have c1 : decide ((k : Int) < ((l.length : Nat) : Int)) = true:=decide_eq_true (by omega)
  have c2 : (0 : Int) ≤ (k : Int) ∧ (k : Int) < ((l.length : Nat) : Int):=by omega
  unfold slices_IndexFunc_Bay_Bay_l1; dsimp only
  simp only [c1,if_true,gPo c2,rdL_nat hk,TBay_eta,h _ (List.getElem_mem hk),oB,getD_lt hk,w64_succ (show k < 9223372036854775807 by omega)]
  cases q l[k] <;> rfl) (by
  unfold slices_IndexFunc_Bay_Bay_l1; dsimp only
  rw [ite_f (by omega)])
 have h0 : loopO (slices_IndexFunc_Bay_Bay_l1 l f) (0,0) = _:=this
 rw [h0,oB]
 exact idxI_ret l q
theorem IndexInt_eq {l : List Int} {f : Int → Option Bool} {q : Int → Bool} (hl : l.length < 1000000000) (h : ∀ x ∈ l,f x = some (q x)) : slices_IndexFunc_int_int l f = some (idxI l q):=by
 unfold slices_IndexFunc_int_int
 have:=loop_search (body:=slices_IndexFunc_int_int_l1 l f) (fun k => ((0 : Int),(k : Int))) l.length (fun k => if q (l.getD k default) = true then some (Sum.inl ((k : Int),(k : Int))) else none) (t0:=.inr (0,(l.length : Int))) (fun k hk => by
  have c1 : decide ((k : Int) < ((l.length : Nat) : Int)) = true:=decide_eq_true (by omega)
  have c2 : (0 : Int) ≤ (k : Int) ∧ (k : Int) < ((l.length : Nat) : Int):=by omega
  unfold slices_IndexFunc_int_int_l1; dsimp only
  simp only [c1,if_true,gPo c2,rdL_nat hk,h _ (List.getElem_mem hk),oB,getD_lt hk,w64_succ (show k < 9223372036854775807 by omega)]
  cases q l[k] <;> rfl) (by
  unfold slices_IndexFunc_int_int_l1; dsimp only
  rw [ite_f (by omega)])
 have h0 : loopO (slices_IndexFunc_int_int_l1 l f) (0,0) = _:=this
 rw [h0,oB]
 exact idxI_ret l q
theorem within_eq (n lo hi : Int) : cart_within n lo hi = some (decide (lo ≤ n ∧ n ≤ hi)):=by unfold cart_within; rw [Bool.decide_and]
theorem hour_eq (n : Int) : cart_hour n = some (decide (0 ≤ n ∧ n ≤ 16384)):=by unfold cart_hour; rw [within_eq]; rfl
def orderI (y : TY) (id : Int) : Int:=idxI y.fR fun n => n.fID == id
def bayI (y : TY) (id : Int) : Int:=idxI y.fB fun n => n.fID == id
theorem order_eq {y : TY} (hl : y.fR.length < 1000000000) (id : Int) : cart_order y id = some (orderI y id):=by
 unfold cart_order cart_index_calx_api_Order
 rw [IndexOrder_eq (f:=fun x3 => cart_order_1 x3 id) (q:=fun x => x.fID == id) hl (fun x _ => rfl)]
 rfl
theorem bay_eq {y : TY} (hl : y.fB.length < 1000000000) (id : Int) : cart_bay y id = some (bayI y id):=by
 unfold cart_bay cart_index_calx_api_Bay
 rw [IndexBay_eq (f:=fun x3 => cart_bay_1 x3 id) (q:=fun x => x.fID == id) hl (fun x _ => rfl)]
 rfl
set_option linter.unusedSimpArgs false
open Classical
def sm : Nat → (Nat → Int) → Int
 | 0,_ => 0
 | n + 1,f => sm n f + f n
theorem sm_congr {f g : Nat → Int} : ∀ {n : Nat},(∀ i,i < n → f i = g i) → sm n f = sm n g
 | 0,_ => rfl
 | n + 1,h => by unfold sm; rw [sm_congr fun i hi => h i (by omega),h n (by omega)]
theorem sm_le {f g : Nat → Int} : ∀ {n : Nat},(∀ i,i < n → f i ≤ g i) → sm n f ≤ sm n g
 | 0,_ => Int.le_refl _
 | n + 1,h => by
  have h1:=sm_le (f:=f) (g:=g) (n:=n) fun i hi => h i (by omega)
  have h2:=h n (by omega)
  unfold sm; omega
theorem sm_add (f g : Nat → Int) : ∀ n,sm n (fun i => f i + g i) = sm n f + sm n g
 | 0 => rfl
 | n + 1 => by have:=sm_add f g n; unfold sm; dsimp only; omega
theorem sm_sub (f g : Nat → Int) : ∀ n,sm n (fun i => f i - g i) = sm n f - sm n g
 | 0 => rfl
 | n + 1 => by have:=sm_sub f g n; unfold sm; dsimp only; omega
theorem sm_zero : ∀ {n : Nat} {f : Nat → Int},(∀ i,i < n → f i = 0) → sm n f = 0
 | 0,_,_ => rfl
 | n + 1,f,h => by have h1:=sm_zero (n:=n) (f:=f) fun i hi => h i (by omega); have h2:=h n (by omega); unfold sm; omega
theorem sm_nonneg {n : Nat} {f : Nat → Int} (h : ∀ i,i < n → 0 ≤ f i) : 0 ≤ sm n f:=by
 have:=sm_le (f:=fun _ => 0) h
 rwa [sm_zero (f:=fun _ => 0) fun _ _ => rfl] at this
theorem sm_upd {f g : Nat → Int} {k : Nat} : ∀ {n : Nat},k < n → (∀ i,i < n → i ≠ k → g i = f i) → sm n g = sm n f - f k + g k
 | 0,h,_ => by omega
 | n + 1,h,he => by
  unfold sm
  rcases Nat.lt_or_ge k n with hk | hk
  ·have:=sm_upd hk (fun i hi => he i (by omega))
   have h2:=he n (by omega) (by omega)
   omega
  ·have hkn : k = n:=by omega
   subst hkn
   rw [sm_congr (f:=g) (g:=f) fun i hi => he i (by omega) (by omega)]
   omega
theorem sm_lt {f g : Nat → Int} {n k : Nat} (hk : k < n) (h : ∀ i,i < n → f i ≤ g i) (hlt : f k < g k) : sm n f < sm n g:=by
 have h1 : sm n (fun i => if i = k then f k else g i) ≤ sm n g:=sm_le fun i hi => by
  split
  ·rename_i e; subst e; omega
  ·exact Int.le_refl _
 have h2 : sm n f ≤ sm n (fun i => if i = k then f k else g i):=sm_le fun i hi => by
  split
  ·rename_i e; subst e; exact Int.le_refl _
  ·exact h i hi
 have h3:=sm_upd (f:=g) (g:=fun i => if i = k then f k else g i) hk (fun i _ hi => by simp only [if_neg hi])
 simp only [if_pos] at h3
 omega
theorem min_ex {P : Nat → Prop} {f : Nat → Int} (hf : ∀ k,0 ≤ f k) : ∀ (m k : Nat),P k → f k ≤ (m : Int) → ∃ k,P k ∧ ∀ k',P k' → f k ≤ f k'
 | 0,k,hk,hm => ⟨k,hk,fun k' _ => by have:=hf k'; omega⟩
 | m + 1,k,hk,hm => by
  by_cases h : ∃ k',P k' ∧ f k' ≤ (m : Int)
  ·obtain ⟨k',h1,h2⟩:=h
   exact min_ex hf m k' h1 h2
  ·refine ⟨k,hk,fun k' hk' => ?_⟩
   have : ¬ f k' ≤ (m : Int):=fun hc => h ⟨k',hk',hc⟩
   omega
structure Mat (S : Nat → Nat → Prop) (h : Nat → Option Nat) : Prop where
 suit : ∀ k o,h k = some o → S o k
 inj : ∀ k k' o,h k = some o → h k' = some o → k = k'
def Dom (h : Nat → Option Nat) (o : Nat) : Prop:=∃ k,h k = some o
def ov (g : Nat → Int) : Option Nat → Int
 | none => 0
 | some o => g o
structure Fit (S : Nat → Nat → Prop) (nB nO : Nat) : Prop where
 bay : ∀ o k,S o k → k < nB
 ord : ∀ o k,S o k → o < nO
theorem bij_aux {nO : Nat} {h : Nat → Option Nat} {g : Nat → Int} (hi : ∀ k k' o,h k = some o → h k' = some o → k = k') (ho : ∀ k o,h k = some o → o < nO) : ∀ n,sm n (fun k => ov g (h k)) = sm nO (fun o => if ∃ k,k < n ∧ h k = some o then g o else 0)
 | 0 => by
  rw [sm_zero (n:=nO) fun o _ => if_neg (fun ⟨k,hk,_⟩ => by omega)]
  rfl
 | n + 1 => by
  have ih:=bij_aux (nO:=nO) (g:=g) hi ho n
  show sm n (fun k => ov g (h k)) + ov g (h n) = _
  rw [ih]
  cases hn : h n with
  | none =>
   show _ + (0 : Int) = _
   rw [Int.add_zero]
   refine sm_congr fun o _ => ?_
   have : (∃ k,k < n ∧ h k = some o) ↔ (∃ k,k < n + 1 ∧ h k = some o):=⟨fun ⟨k,hk,e⟩ => ⟨k,by omega,e⟩,fun ⟨k,hk,e⟩ => ⟨k,by
    rcases Nat.lt_or_ge k n with h' | h'
    ·exact ⟨h',e⟩
    ·have : k = n:=by omega
     subst this; rw [hn] at e; cases e⟩⟩
   by_cases hc : ∃ k,k < n ∧ h k = some o
   ·rw [if_pos hc,if_pos (this.1 hc)]
   ·rw [if_neg hc,if_neg (fun hh => hc (this.2 hh))]
  | some x =>
   have hx:=ho n x hn
   have hnx : ¬ ∃ k,k < n ∧ h k = some x:=fun ⟨k,hk,e⟩ => by have:=hi k n x e hn; omega
   have e:=sm_upd (f:=fun o => if ∃ k,k < n ∧ h k = some o then g o else 0) (g:=fun o => if ∃ k,k < n + 1 ∧ h k = some o then g o else 0) hx (fun o _ hne => by
    have : (∃ k,k < n ∧ h k = some o) ↔ (∃ k,k < n + 1 ∧ h k = some o):=⟨fun ⟨k,hk,e⟩ => ⟨k,by omega,e⟩,fun ⟨k,hk,e⟩ => ⟨k,by
     rcases Nat.lt_or_ge k n with h' | h'
     ·exact ⟨h',e⟩
     ·have : k = n:=by omega
      subst this; rw [hn] at e; cases e; exact absurd rfl hne⟩⟩
    by_cases hc : ∃ k,k < n ∧ h k = some o
    ·simp only [if_pos hc,if_pos (this.1 hc)]
    ·simp only [if_neg hc,if_neg (fun hh => hc (this.2 hh))])
   rw [e]
   simp only [if_neg hnx,if_pos (show ∃ k,k < n + 1 ∧ h k = some x from ⟨n,by omega,hn⟩)]
   show _ + g x = _
   omega
theorem bij {S : Nat → Nat → Prop} {nB nO : Nat} (hF : Fit S nB nO) {h : Nat → Option Nat} (hM : Mat S h) (g : Nat → Int) : sm nB (fun k => ov g (h k)) = sm nO (fun o => if Dom h o then g o else 0):=by
 rw [bij_aux (nO:=nO) (g:=g) hM.inj (fun k o e => hF.ord o k (hM.suit k o e)) nB]
 refine sm_congr fun o _ => ?_
 have : (∃ k,k < nB ∧ h k = some o) ↔ Dom h o:=⟨fun ⟨k,_,e⟩ => ⟨k,e⟩,fun ⟨k,e⟩ => ⟨k,hF.bay o k (hM.suit k o e),e⟩⟩
 by_cases hc : Dom h o
 ·rw [if_pos hc,if_pos (this.2 hc)]
 ·rw [if_neg hc,if_neg (fun hh => hc (this.1 hh))]
noncomputable def off (p : Prop) : Int:=if p then 0 else 1
theorem off_t {p : Prop} (h : p) : off p = 0:=if_pos h
theorem off_f {p : Prop} (h : ¬ p) : off p = 1:=if_neg h
theorem off_cases (p : Prop) : (p ∧ off p = 0) ∨ (¬ p ∧ off p = 1):=by
 by_cases h : p
 ·exact .inl ⟨h,off_t h⟩
 ·exact .inr ⟨h,off_f h⟩
noncomputable def unt (nB : Nat) (T : Nat → Prop) : Int:=sm nB fun k => off (T k)
theorem unt_nonneg (nB : Nat) (T : Nat → Prop) : 0 ≤ unt nB T:=sm_nonneg fun i _ => by rcases off_cases (T i) with ⟨_,h⟩ | ⟨_,h⟩ <;> omega
theorem off_mono {p q : Prop} (h : p → q) : off q ≤ off p:=by
 rcases off_cases p with ⟨h1,e1⟩ | ⟨h1,e1⟩ <;> rcases off_cases q with ⟨h2,e2⟩ | ⟨h2,e2⟩ <;> first | omega | exact absurd (h h1) h2
theorem unt_le {nB : Nat} {T T' : Nat → Prop} (h : ∀ k,T k → T' k) : unt nB T' ≤ unt nB T:=sm_le fun k _ => off_mono (h k)
theorem unt_add {nB : Nat} {T : Nat → Prop} {k : Nat} (hk : k < nB) (h1 : ¬ T k) : unt nB (fun j => T j ∨ j = k) = unt nB T - 1:=by
 have h0 : sm nB (fun j => off (T j ∨ j = k)) = sm nB (fun j => off (T j)) - off (T k) + off (T k ∨ k = k):=sm_upd (f:=fun j => off (T j)) (g:=fun j => off (T j ∨ j = k)) hk (fun i _ hi => by
  by_cases h : T i
  ·rw [off_t h,off_t (.inl h)]
  ·rw [off_f h,off_f fun hh => hh.elim h hi])
 rw [off_f h1,off_t (Or.inr rfl)] at h0
 show sm nB (fun j => off (T j ∨ j = k)) = sm nB (fun j => off (T j)) - 1
 omega
structure MatX (S : Nat → Nat → Prop) (T : Nat → Prop) (h : Nat → Option Nat) : Prop where
 suit : ∀ k o,¬ T k → h k = some o → S o k
 inj : ∀ k k' o,¬ T k → ¬ T k' → h k = some o → h k' = some o → k = k'
def DomX (T : Nat → Prop) (h : Nat → Option Nat) (o : Nat) : Prop:=∃ k,¬ T k ∧ h k = some o
structure AugY (S : Nat → Nat → Prop) (T : Nat → Prop) (o : Nat) (h h' : Nat → Option Nat) : Prop where
 keep : ∀ k,T k → h' k = h k
 mat : MatX S T h'
 dom : ∀ x,DomX T h' x ↔ x = o ∨ DomX T h x
structure AugN (S : Nat → Nat → Prop) (T T' : Nat → Prop) (o : Nat) (h : Nat → Option Nat) : Prop where
 sub : ∀ k,T k → T' k
 shut : ∀ k,T' k → ¬ T k → ∃ x,h k = some x ∧ ∀ k',S x k' → T' k'
 own : ∀ k',S o k' → T' k'
theorem MatX.more {S : Nat → Nat → Prop} {T T' : Nat → Prop} {h : Nat → Option Nat} (hM : MatX S T h) (hs : ∀ k,T k → T' k) : MatX S T' h :=
 ⟨fun k o hk e => hM.suit k o (fun ht => hk (hs k ht)) e,fun k k' o hk hk' e e' => hM.inj k k' o (fun ht => hk (hs k ht)) (fun ht => hk' (hs k' ht)) e e'⟩
theorem aug_free {S : Nat → Nat → Prop} {T : Nat → Prop} {o k : Nat} {h : Nat → Option Nat} (hM : MatX S T h) (hk : ¬ T k) (hS : S o k) (hn : h k = none) (ho : ¬ DomX T h o) : AugY S T o h (fun j => if j = k then some o else h j) where
 keep:=fun j hj => if_neg (fun (e : j = k) => hk (e ▸ hj))
 mat:=by
  refine ⟨fun j x hj e => ?_,fun j j' x hj hj' e e' => ?_⟩
  ·by_cases hjk : j = k
   ·subst hjk; simp only [if_pos rfl] at e; cases e; exact hS
   ·simp only [if_neg hjk] at e; exact hM.suit j x hj e
  ·by_cases hjk : j = k <;> by_cases hjk' : j' = k
   ·rw [hjk,hjk']
   ·subst hjk
    simp only [if_pos rfl] at e
    simp only [if_neg hjk'] at e'
    cases e
    exact absurd ⟨j',hj',e'⟩ ho
   ·subst hjk'
    simp only [if_pos rfl] at e'
    simp only [if_neg hjk] at e
    cases e'
    exact absurd ⟨j,hj,e⟩ ho
   ·simp only [if_neg hjk] at e
    simp only [if_neg hjk'] at e'
    exact hM.inj j j' x hj hj' e e'
 dom:=fun x => by
  refine ⟨fun ⟨j,hj,e⟩ => ?_,fun hx => ?_⟩
  ·by_cases hjk : j = k
   ·simp only [if_pos hjk] at e; cases e; exact .inl rfl
   ·simp only [if_neg hjk] at e; exact .inr ⟨j,hj,e⟩
  ·rcases hx with rfl | ⟨j,hj,e⟩
   ·exact ⟨k,hk,if_pos rfl⟩
   ·refine ⟨j,hj,?_⟩
    have : j ≠ k:=fun e' => by subst e'; rw [hn] at e; cases e
    simp only [if_neg this]; exact e
theorem aug_moved {S : Nat → Nat → Prop} {T : Nat → Prop} {o k x : Nat} {h h' : Nat → Option Nat} (hM : MatX S T h) (hk : ¬ T k) (hS : S o k) (hx : h k = some x) (ho : ¬ DomX T h o) (hA : AugY S (fun j => T j ∨ j = k) x h h') : AugY S T o h (fun j => if j = k then some o else h' j):=by
 have hd : ∀ z,(∃ j,¬ (T j ∨ j = k) ∧ h' j = some z) ↔ DomX T h z:=fun z => by
  refine (hA.dom z).trans ⟨fun hz => ?_,fun ⟨j,hj,e⟩ => ?_⟩
  ·rcases hz with rfl | ⟨j,hj,e⟩
   ·exact ⟨k,hk,hx⟩
   ·exact ⟨j,fun ht => hj (.inl ht),e⟩
  ·by_cases hjk : j = k
   ·subst hjk; rw [hx] at e; cases e; exact .inl rfl
   ·exact .inr ⟨j,fun ht => ht.elim hj hjk,e⟩
 have hno : ∀ j,¬ T j → j ≠ k → h' j ≠ some o:=fun j hj hjk e => ho ((hd o).1 ⟨j,fun ht => ht.elim hj hjk,e⟩)
 refine ⟨fun j hj => ?_,⟨fun j z hj e => ?_,fun j j' z hj hj' e e' => ?_⟩,fun z => ⟨fun ⟨j,hj,e⟩ => ?_,fun hz => ?_⟩⟩
 ·have : j ≠ k:=fun e => hk (e ▸ hj)
  simp only [if_neg this]
  exact hA.keep j (.inl hj)
 ·by_cases hjk : j = k
  ·subst hjk; simp only [if_pos rfl] at e; cases e; exact hS
  ·simp only [if_neg hjk] at e; exact hA.mat.suit j z (fun ht => ht.elim hj hjk) e
 ·by_cases hjk : j = k <;> by_cases hjk' : j' = k
  ·rw [hjk,hjk']
  ·simp only [if_pos hjk] at e
   simp only [if_neg hjk'] at e'
   cases e
   exact absurd e' (hno j' hj' hjk')
  ·simp only [if_pos hjk'] at e'
   simp only [if_neg hjk] at e
   cases e'
   exact absurd e (hno j hj hjk)
  ·simp only [if_neg hjk] at e
   simp only [if_neg hjk'] at e'
   exact hA.mat.inj j j' z (fun ht => ht.elim hj hjk) (fun ht => ht.elim hj' hjk') e e'
 ·by_cases hjk : j = k
  ·simp only [if_pos hjk] at e; cases e; exact .inl rfl
  ·simp only [if_neg hjk] at e; exact .inr ((hd z).1 ⟨j,fun ht => ht.elim hj hjk,e⟩)
 ·rcases hz with rfl | hz
  ·exact ⟨k,hk,if_pos rfl⟩
  ·obtain ⟨j,hj,e⟩:=(hd z).2 hz
   have hjk : j ≠ k:=fun e' => hj (.inr e')
   exact ⟨j,fun ht => hj (.inl ht),by simp only [if_neg hjk]; exact e⟩
theorem aug_past {S : Nat → Nat → Prop} {T T1 : Nat → Prop} {o : Nat} {h h' : Nat → Option Nat} (hM : MatX S T h) (hs : ∀ k,T k → T1 k) (ho : ¬ DomX T h o) (hA : AugY S T1 o h h') : AugY S T o h h':=by
 have hk1 : ∀ k z,T1 k → ¬ T k → h' k = some z → ∀ k',¬ T1 k' → h' k' = some z → False:=fun k z ht hn e k' ht' e' => by
  rw [hA.keep k ht] at e
  rcases (hA.dom z).1 ⟨k',ht',e'⟩ with rfl | ⟨j,hj,ej⟩
  ·exact ho ⟨k,hn,e⟩
  ·have:=hM.inj k j z hn (fun t => hj (hs j t)) e ej
   subst this
   exact hj ht
 refine ⟨fun k hk => hA.keep k (hs k hk),⟨fun k z hk e => ?_,fun k k' z hk hk' e e' => ?_⟩,fun z => ⟨fun ⟨k,hk,e⟩ => ?_,fun hz => ?_⟩⟩
 ·by_cases ht : T1 k
  ·rw [hA.keep k ht] at e; exact hM.suit k z hk e
  ·exact hA.mat.suit k z ht e
 ·by_cases ht : T1 k <;> by_cases ht' : T1 k'
  ·rw [hA.keep k ht] at e; rw [hA.keep k' ht'] at e'; exact hM.inj k k' z hk hk' e e'
  ·exact (hk1 k z ht hk e k' ht' e').elim
  ·exact (hk1 k' z ht' hk' e' k ht e).elim
  ·exact hA.mat.inj k k' z ht ht' e e'
 ·by_cases ht : T1 k
  ·rw [hA.keep k ht] at e; exact .inr ⟨k,hk,e⟩
  ·rcases (hA.dom z).1 ⟨k,ht,e⟩ with rfl | ⟨j,hj,ej⟩
   ·exact .inl rfl
   ·exact .inr ⟨j,fun t => hj (hs j t),ej⟩
 ·rcases hz with rfl | ⟨k,hk,e⟩
  ·obtain ⟨k,hk,e⟩:=(hA.dom z).2 (.inl rfl)
   exact ⟨k,fun t => hk (hs k t),e⟩
  ·by_cases ht : T1 k
   ·exact ⟨k,hk,by rw [hA.keep k ht]; exact e⟩
   ·obtain ⟨j,hj,ej⟩:=(hA.dom z).2 (.inr ⟨k,ht,e⟩)
    exact ⟨j,fun t => hj (hs j t),ej⟩
theorem aug {S : Nat → Nat → Prop} {nB : Nat} (hB : ∀ o k,S o k → k < nB) : ∀ (u : Nat) (T : Nat → Prop) (o : Nat) (h : Nat → Option Nat),unt nB T ≤ (u : Int) → MatX S T h → ¬ DomX T h o → (∃ h',AugY S T o h h') ∨ ∃ T',AugN S T T' o h:=by
 intro u
 induction u with
 | zero =>
  intro T o h hu hM ho
  refine .inr ⟨T,fun _ h => h,fun k h1 h2 => absurd h1 h2,fun k hS => ?_⟩
  by_cases hk : T k
  ·exact hk
  ·have h1:=unt_add (hB o k hS) hk
   have h2:=unt_nonneg nB (fun j => T j ∨ j = k)
   omega
 | succ u ih =>
  intro T o h hu hM ho
  by_cases hex : ∃ k,¬ T k ∧ S o k
  ·obtain ⟨k,hk,hS⟩:=hex
   cases hn : h k with
   | none => exact .inl ⟨_,aug_free hM hk hS hn ho⟩
   | some x =>
    have h1:=unt_add (hB o k hS) hk
    have hM1 : MatX S (fun j => T j ∨ j = k) h:=hM.more fun j hj => .inl hj
    have hx1 : ¬ DomX (fun j => T j ∨ j = k) h x:=fun ⟨j,hj,e⟩ => hj (.inr (hM.inj j k x (fun t => hj (.inl t)) hk e hn))
    rcases ih (fun j => T j ∨ j = k) x h (by omega) hM1 hx1 with ⟨h',hA⟩ | ⟨T',hA⟩
    ·exact .inl ⟨_,aug_moved hM hk hS hn ho hA⟩
    ·have hu' : unt nB T' ≤ (u : Int):=by have:=unt_le (nB:=nB) hA.sub; omega
     have hsub : ∀ j,T j → T' j:=fun j hj => hA.sub j (.inl hj)
     rcases ih T' o h hu' (hM.more hsub) (fun ⟨j,hj,e⟩ => ho ⟨j,fun t => hj (hsub j t),e⟩) with ⟨h',hA'⟩ | ⟨T'',hA'⟩
     ·exact .inl ⟨h',aug_past hM hsub ho hA'⟩
     ·refine .inr ⟨T'',fun j hj => hA'.sub j (hsub j hj),fun j hj hnj => ?_,hA'.own⟩
      by_cases hj' : T' j
      ·by_cases hjk : j = k
       ·subst hjk
        exact ⟨x,hn,fun k' hk' => hA'.sub k' (hA.own k' hk')⟩
       ·obtain ⟨z,e,hz⟩:=hA.shut j hj' (fun t => t.elim hnj hjk)
        exact ⟨z,e,fun k' hk' => hA'.sub k' (hz k' hk')⟩
      ·exact hA'.shut j hj hj'
  ·exact .inr ⟨T,fun _ h => h,fun k h1 h2 => absurd h1 h2,fun k hS => by
    by_cases hk : T k
    ·exact hk
    ·exact absurd ⟨k,hk,hS⟩ hex⟩
structure Shut (S : Nat → Nat → Prop) (C : Nat → Prop) (h : Nat → Option Nat) : Prop where
 shut : ∀ k,C k → ∃ x,h k = some x ∧ ∀ k',S x k' → C k'
theorem Mat.x {S : Nat → Nat → Prop} {h : Nat → Option Nat} (hM : Mat S h) : MatX S (fun _ => False) h:=⟨fun k o _ e => hM.suit k o e,fun k k' o _ _ e e' => hM.inj k k' o e e'⟩
theorem domX_none {h : Nat → Option Nat} {o : Nat} : DomX (fun _ => False) h o ↔ Dom h o:=⟨fun ⟨k,_,e⟩ => ⟨k,e⟩,fun ⟨k,e⟩ => ⟨k,id,e⟩⟩
theorem AugY.mat0 {S : Nat → Nat → Prop} {o : Nat} {h h' : Nat → Option Nat} (hA : AugY S (fun _ => False) o h h') : Mat S h':=⟨fun k o e => hA.mat.suit k o id e,fun k k' o e e' => hA.mat.inj k k' o id id e e'⟩
theorem AugY.dom0 {S : Nat → Nat → Prop} {o : Nat} {h h' : Nat → Option Nat} (hA : AugY S (fun _ => False) o h h') (x : Nat) : Dom h' x ↔ x = o ∨ Dom h x:=by rw [← domX_none,← domX_none]; exact hA.dom x
theorem AugN.shut0 {S : Nat → Nat → Prop} {T' : Nat → Prop} {o : Nat} {h : Nat → Option Nat} (hA : AugN S (fun _ => False) T' o h) : Shut S T' h:=⟨fun k hk => hA.shut k hk id⟩
theorem aug0 {S : Nat → Nat → Prop} {nB nO : Nat} (hF : Fit S nB nO) {h : Nat → Option Nat} (hM : Mat S h) {o : Nat} (ho : ¬ Dom h o) : (∃ h',Mat S h' ∧ ∀ x,Dom h' x ↔ x = o ∨ Dom h x) ∨ ∃ C,Shut S C h ∧ ∀ k,S o k → C k:=by
 rcases aug hF.bay (unt nB fun _ => False).toNat (fun _ => False) o h (by have:=unt_nonneg nB fun _ => False; omega) hM.x (fun hd => ho (domX_none.1 hd)) with ⟨h',hA⟩ | ⟨T',hA⟩
 ·exact .inl ⟨h',hA.mat0,hA.dom0⟩
 ·exact .inr ⟨T',hA.shut0,hA.own⟩
theorem filled {S : Nat → Nat → Prop} {nB nO : Nat} (hF : Fit S nB nO) {h h2 : Nat → Option Nat} (hM : Mat S h) {C : Nat → Prop} (hC : Shut S C h) (hM2 : Mat S h2) (hX : ∀ k x,C k → h k = some x → Dom h2 x) : ∀ k,C k → ∃ x,h2 k = some x ∧ ∃ k1,C k1 ∧ h k1 = some x:=by
 let X : Nat → Prop:=fun x => ∃ k1,C k1 ∧ h k1 = some x
 have e1:=bij hF hM (fun o => if X o then 1 else 0)
 have e2:=bij hF hM2 (fun o => if X o then 1 else 0)
 have e3 : sm nO (fun o => if Dom h o then (if X o then (1 : Int) else 0) else 0) = sm nO (fun o => if Dom h2 o then (if X o then (1 : Int) else 0) else 0):=sm_congr fun o _ => by
  by_cases hx : X o
  ·obtain ⟨k1,hk1,e⟩:=hx
   rw [if_pos ⟨k1,e⟩,if_pos (hX k1 o hk1 e)]
  ·simp only [if_neg hx]
   split <;> split <;> rfl
 have e4 : ∀ k,ov (fun o => if X o then (1 : Int) else 0) (h k) = if C k then 1 else 0:=fun k => by
  by_cases hk : C k
  ·obtain ⟨x,e,_⟩:=hC.shut k hk
   rw [e,if_pos hk]
   exact if_pos ⟨k,hk,e⟩
  ·rw [if_neg hk]
   cases e : h k with
   | none => rfl
   | some x => exact if_neg fun ⟨k1,hk1,e1⟩ => hk (hM.inj k1 k x e1 e ▸ hk1)
 have e5 : ∀ k,ov (fun o => if X o then (1 : Int) else 0) (h2 k) ≤ ov (fun o => if X o then (1 : Int) else 0) (h k):=fun k => by
  rw [e4]
  cases e : h2 k with
  | none => show (0 : Int) ≤ _; split <;> omega
  | some x =>
   show (if X x then (1 : Int) else 0) ≤ _
   by_cases hx : X x
   ·obtain ⟨k1,hk1,e1⟩:=hx
    obtain ⟨x',e',hs⟩:=hC.shut k1 hk1
    rw [e1] at e'; cases e'
    rw [if_pos (hs k (hM2.suit k x e)),if_pos (show X x from ⟨k1,hk1,e1⟩)]
    omega
   ·rw [if_neg hx]; split <;> omega
 intro k hk
 obtain ⟨x0,e0,_⟩:=hC.shut k hk
 have hkB : k < nB:=hF.bay x0 k (hM.suit k x0 e0)
 by_cases hlt : ov (fun o => if X o then (1 : Int) else 0) (h2 k) < ov (fun o => if X o then (1 : Int) else 0) (h k)
 ·have:=sm_lt hkB (fun i _ => e5 i) hlt
  omega
 ·rw [e4,if_pos hk] at hlt
  cases e : h2 k with
  | none => rw [e] at hlt; exact absurd (show (0 : Int) < 1 by omega) hlt
  | some x =>
   rw [e] at hlt
   by_cases hx : X x
   ·exact ⟨x,rfl,hx⟩
   ·exfalso
    apply hlt
    show (if X x then (1 : Int) else 0) < 1
    rw [if_neg hx]; omega
def Matchable (S : Nat → Nat → Prop) (A : Nat → Prop) : Prop:=∃ h,Mat S h ∧ ∀ x,Dom h x ↔ A x
theorem not_matchable {S : Nat → Nat → Prop} {nB nO : Nat} (hF : Fit S nB nO) {h : Nat → Option Nat} (hM : Mat S h) {C : Nat → Prop} (hC : Shut S C h) {o : Nat} (ho : ¬ Dom h o) (hs : ∀ k,S o k → C k) {A : Nat → Prop} (hA : ∀ x,(x = o ∨ ∃ k,C k ∧ h k = some x) → A x) : ¬ Matchable S A:=by
 rintro ⟨h2,hM2,hd⟩
 have hf:=filled hF hM hC hM2 (fun k x hk e => (hd x).2 (hA x (.inr ⟨k,hk,e⟩)))
 obtain ⟨k,e⟩:=(hd o).2 (hA o (.inl rfl))
 obtain ⟨x,e',k1,hk1,e1⟩:=hf k (hs k (hM2.suit k o e))
 rw [e] at e'; cases e'
 exact ho ⟨k1,e1⟩
theorem Matchable.sub {S : Nat → Nat → Prop} {A B : Nat → Prop} (hA : Matchable S A) (hB : ∀ x,B x → A x) : Matchable S B:=by
 obtain ⟨h,hM,hd⟩:=hA
 refine ⟨fun k => match h k with | none => none | some x => if B x then some x else none,⟨fun k o e => ?_,fun k k' o e e' => ?_⟩,fun x => ⟨fun ⟨k,e⟩ => ?_,fun hx => ?_⟩⟩
 ·cases hk : h k with
  | none => simp only [hk] at e; cases e
  | some x =>
   simp only [hk] at e
   split at e
   ·cases e; exact hM.suit k _ hk
   ·cases e
 ·cases hk : h k with
  | none => simp only [hk] at e; cases e
  | some x =>
   cases hk' : h k' with
   | none => simp only [hk'] at e'; cases e'
   | some x' =>
    simp only [hk] at e
    simp only [hk'] at e'
    split at e
    ·split at e'
     ·cases e; cases e'; exact hM.inj k k' _ hk hk'
     ·cases e'
    ·cases e
 ·cases hk : h k with
  | none => simp only [hk] at e; cases e
  | some z =>
   simp only [hk] at e
   split at e
   ·cases e; assumption
   ·cases e
 ·obtain ⟨k,e⟩:=(hd x).2 (hB x hx)
  exact ⟨k,by simp only [e]; exact if_pos hx⟩
set_option linter.unusedSimpArgs false
open Classical
def wor (nB : Nat) (w : Nat → Int) (h : Nat → Option Nat) : Int:=sm nB fun k => ov w (h k)
structure Opt (S : Nat → Nat → Prop) (w : Nat → Int) (nB : Nat) (V : Int) : Prop where
 some : ∃ h,Mat S h ∧ wor nB w h = V
 most : ∀ h,Mat S h → wor nB w h ≤ V
structure Cert (S : Nat → Nat → Prop) (w : Nat → Int) (L : Nat → Prop) (i : Nat) : Prop where
 out : ∃ h C,Mat S h ∧ (∀ x,Dom h x → L x) ∧ Shut S C h ∧ (∀ k,S i k → C k) ∧ ∀ k x,C k → h k = some x → w i ≤ w x
theorem Cert.more {S : Nat → Nat → Prop} {w : Nat → Int} {L L' : Nat → Prop} {i : Nat} (hc : Cert S w L i) (hs : ∀ x,L x → L' x) : Cert S w L' i:=by
 obtain ⟨h,C,h1,h2,h3,h4,h5⟩:=hc.out
 exact ⟨h,C,h1,fun x hx => hs x (h2 x hx),h3,h4,h5⟩
structure Greedy (S : Nat → Nat → Prop) (w : Nat → Int) (P L : Nat → Prop) : Prop where
 can : Matchable S L
 sub : ∀ x,L x → P x
 cert : ∀ i,P i → ¬ L i → Cert S w L i
theorem Greedy.nil {S : Nat → Nat → Prop} {w : Nat → Int} : Greedy S w (fun _ => False) (fun _ => False):=⟨⟨fun _ => none,⟨fun _ _ e => (by cases e),fun _ _ _ e => (by cases e)⟩,fun x => ⟨fun ⟨k,e⟩ => (by cases e),False.elim⟩⟩,fun _ h => h,fun _ h => h.elim⟩
theorem Greedy.no {S : Nat → Nat → Prop} {w : Nat → Int} {nB nO : Nat} (hF : Fit S nB nO) {P L : Nat → Prop} {i : Nat} (h : Greedy S w P L) (hw : ∀ x,P x → w i ≤ w x) (hm : ¬ Matchable S fun x => L x ∨ x = i) : Greedy S w (fun x => P x ∨ x = i) L:=by
 have hi : ¬ L i:=fun hl => hm (by
  obtain ⟨m,hM,hd⟩:=h.can
  exact ⟨m,hM,fun x => (hd x).trans ⟨.inl,fun hx => hx.elim id fun e => e ▸ hl⟩⟩)
 refine ⟨h.can,fun x hx => .inl (h.sub x hx),fun j hj hn => ?_⟩
 rcases hj with hj | rfl
 ·exact h.cert j hj hn
 ·obtain ⟨m,hM,hd⟩:=h.can
  rcases aug0 hF hM (o:=j) (fun hj => hn ((hd j).1 hj)) with ⟨m',hM',hd'⟩ | ⟨C,hC,hs⟩
  ·exact absurd ⟨m',hM',fun x => (hd' x).trans ⟨fun hx => hx.elim .inr fun hx => .inl ((hd x).1 hx),fun hx => hx.elim (fun hl => .inr ((hd x).2 hl)) .inl⟩⟩ hm
  ·exact ⟨m,C,hM,fun x hx => (hd x).1 hx,hC,hs,fun k x _ e => hw x (h.sub x ((hd x).1 ⟨k,e⟩))⟩
inductive Way (S : Nat → Nat → Prop) (h : Nat → Option Nat) (k : Nat) : Nat → Prop
 | refl : Way S h k k
 | step {k1 k2 x : Nat} : Way S h k k1 → h k1 = some x → S x k2 → Way S h k k2
theorem Way.head {S : Nat → Nat → Prop} {h : Nat → Option Nat} {k k' k2 x : Nat} (e : h k = some x) (hs : S x k') (hw : Way S h k' k2) : Way S h k k2:=by
 induction hw with
 | refl => exact .step .refl e hs
 | step _ e1 s1 ih => exact .step ih e1 s1
structure Prices (S : Nat → Nat → Prop) (w : Nat → Int) (nB nO : Nat) (h : Nat → Option Nat) (q u : Nat → Int) : Prop where
 q0 : ∀ k,0 ≤ q k
 free : ∀ k,h k = none → q k = 0
 held : ∀ k x,h k = some x → q k ≤ w x
 least : ∀ k x k',h k = some x → S x k' → q k ≤ q k'
 out : ∀ i k,i < nO → ¬ Dom h i → S i k → w i ≤ q k
 uset : ∀ k x,h k = some x → u x = w x - q k
 unot : ∀ i,¬ Dom h i → u i = 0
 total : wor nB w h = sm nB q + sm nO u
 less : ∀ k,∃ h',Mat S h' ∧ h' k = none ∧ wor nB w h' = wor nB w h - q k
theorem Prices.u0 {S : Nat → Nat → Prop} {w : Nat → Int} {nB nO : Nat} {h : Nat → Option Nat} {q u : Nat → Int} (hp : Prices S w nB nO h q u) (i : Nat) : 0 ≤ u i:=by
 by_cases hd : Dom h i
 ·obtain ⟨k,e⟩:=hd
  have h1:=hp.uset k i e
  have h2:=hp.held k i e
  omega
 ·rw [hp.unot i hd]; omega
theorem Prices.feas {S : Nat → Nat → Prop} {w : Nat → Int} {nB nO : Nat} {h : Nat → Option Nat} {q u : Nat → Int} (hF : Fit S nB nO) (hp : Prices S w nB nO h q u) {i k : Nat} (hs : S i k) : w i ≤ q k + u i:=by
 by_cases hd : Dom h i
 ·obtain ⟨k',e⟩:=hd
  have h1:=hp.uset k' i e
  have h2:=hp.least k' i k e hs
  omega
 ·rw [hp.unot i hd]; have:=hp.out i k (hF.ord i k hs) hd hs; omega
theorem weak {S : Nat → Nat → Prop} {w : Nat → Int} {nB nO : Nat} (hF : Fit S nB nO) {q u : Nat → Int} (hq : ∀ k,k < nB → 0 ≤ q k) (hu : ∀ i,i < nO → 0 ≤ u i) (hf : ∀ i k,S i k → w i ≤ q k + u i) {h : Nat → Option Nat} (hM : Mat S h) : wor nB w h ≤ sm nB (fun k => if h k = none then 0 else q k) + sm nO u:=by
 have h1 : wor nB w h ≤ sm nB (fun k => (if h k = none then 0 else q k) + ov u (h k)):=sm_le fun k _ => by
  cases e : h k with
  | none => simp [ov]
  | some x =>
   have:=hf x k (hM.suit k x e)
   simp only [ov,reduceCtorEq,if_false]
   exact this
 have h2:=sm_add (fun k => if h k = none then 0 else q k) (fun k => ov u (h k)) nB
 have h3:=bij hF hM u
 have h4 : sm nO (fun o => if Dom h o then u o else 0) ≤ sm nO u:=sm_le fun o ho => by
  have:=hu o ho
  split
  ·exact Int.le_refl _
  ·exact this
 omega
theorem weak_but {S : Nat → Nat → Prop} {w : Nat → Int} {nB nO : Nat} (hF : Fit S nB nO) {q u : Nat → Int} (hq : ∀ k,k < nB → 0 ≤ q k) (hu : ∀ i,i < nO → 0 ≤ u i) (hf : ∀ i k,S i k → w i ≤ q k + u i) {h : Nat → Option Nat} (hM : Mat S h) {k : Nat} (hk : k < nB) (hn : h k = none) : wor nB w h ≤ sm nB q - q k + sm nO u:=by
 have h1:=weak hF hq hu hf hM
 have h3:=sm_upd (f:=q) (g:=fun j => if j = k then 0 else q j) hk (fun i _ hi => by simp only [if_neg hi])
 have h4 : (if k = k then (0 : Int) else q k) = 0:=if_pos rfl
 rw [h4] at h3
 have h2 : sm nB (fun j => if h j = none then 0 else q j) ≤ sm nB (fun j => if j = k then 0 else q j):=sm_le fun j hj => by
  have:=hq j hj
  by_cases hjk : j = k
  ·subst hjk; simp [hn]
  ·simp only [if_neg hjk]
   split
   ·exact this
   ·exact Int.le_refl _
 omega
def freed (h : Nat → Option Nat) (k : Nat) : Nat → Option Nat:=fun j => if j = k then none else h j
theorem freed_at (h : Nat → Option Nat) (k : Nat) : freed h k k = none:=if_pos rfl
theorem freed_ne {h : Nat → Option Nat} {k j : Nat} (hj : j ≠ k) : freed h k j = h j:=if_neg hj
theorem freed_some {h : Nat → Option Nat} {k j x : Nat} (e : freed h k j = some x) : j ≠ k ∧ h j = some x:=by
 by_cases hj : j = k
 ·subst hj; rw [freed_at] at e; cases e
 ·rw [freed_ne hj] at e; exact ⟨hj,e⟩
theorem Mat.freed {S : Nat → Nat → Prop} {h : Nat → Option Nat} (hM : Mat S h) (k : Nat) : Mat S (freed h k) :=
 ⟨fun j o e => hM.suit j o (freed_some e).2,fun j j' o e e' => hM.inj j j' o (freed_some e).2 (freed_some e').2⟩
theorem wor_freed {nB k : Nat} (hk : k < nB) (w : Nat → Int) (h : Nat → Option Nat) : wor nB w (freed h k) = wor nB w h - ov w (h k):=by
 have:=sm_upd (f:=fun j => ov w (h j)) (g:=fun j => ov w (freed h k j)) hk (fun i _ hi => by simp only [freed_ne hi])
 simp only [freed_at] at this
 have e : ov w none = 0:=rfl
 rw [e] at this
 unfold wor
 omega
theorem wor_dom {S : Nat → Nat → Prop} {nB nO : Nat} (hF : Fit S nB nO) (w : Nat → Int) {h h' : Nat → Option Nat} (hM : Mat S h) (hM' : Mat S h') (hd : ∀ x,Dom h x ↔ Dom h' x) : wor nB w h = wor nB w h':=by
 unfold wor
 rw [bij hF hM w,bij hF hM' w]
 refine sm_congr fun o _ => ?_
 by_cases hc : Dom h o
 ·rw [if_pos hc,if_pos ((hd o).1 hc)]
 ·rw [if_neg hc,if_neg fun hh => hc ((hd o).2 hh)]
theorem way_less {S : Nat → Nat → Prop} {nB nO : Nat} (hF : Fit S nB nO) (w : Nat → Int) {h : Nat → Option Nat} (hM : Mat S h) {k0 k1 : Nat} (hk1 : k1 < nB) (hw : Way S h k0 k1) : ∃ h',Mat S h' ∧ h' k0 = none ∧ wor nB w h' = wor nB w h - ov w (h k1):=by
 have e2:=wor_freed hk1 w h
 have hM2:=hM.freed k1
 cases hk0 : freed h k1 k0 with
 | none => exact ⟨_,hM2,hk0,e2⟩
 | some o =>
  obtain ⟨hne,ho⟩:=freed_some hk0
  -- without the first bay
  let S' : Nat → Nat → Prop:=fun x k => S x k ∧ k ≠ k0
  have hF' : Fit S' nB nO:=⟨fun x k hs => hF.bay x k hs.1,fun x k hs => hF.ord x k hs.1⟩
  let h3:=freed (freed h k1) k0
  have hM3 : Mat S' h3:=⟨fun k x e => ⟨hM2.suit k x (freed_some e).2,(freed_some e).1⟩,(hM2.freed k0).inj⟩
  have hno : ¬ Dom h3 o:=fun ⟨k,e⟩ => (freed_some e).1 (hM2.inj k k0 o (freed_some e).2 hk0)
  rcases aug0 hF' hM3 hno with ⟨h',hM',hd⟩ | ⟨C,hC,hs⟩
  ·have hMS : Mat S h':=⟨fun k x e => (hM'.suit k x e).1,hM'.inj⟩
   refine ⟨h',hMS,?_,?_⟩
   ·cases e : h' k0 with
    | none => rfl
    | some x => exact absurd rfl (hM'.suit k0 x e).2
   ·rw [← e2]
    refine wor_dom hF w hMS hM2 fun x => ?_
    rw [hd x]
    refine ⟨fun hx => ?_,fun ⟨k,e⟩ => ?_⟩
    ·rcases hx with rfl | ⟨k,e⟩
     ·exact ⟨k0,hk0⟩
     ·exact ⟨k,(freed_some e).2⟩
    ·by_cases hk : k = k0
     ·subst hk; rw [hk0] at e; cases e; exact .inl rfl
     ·exact .inr ⟨k,(freed_ne hk).trans e⟩
  ·exfalso
   have hall : ∀ k,Way S h k0 k → C k ∨ k = k0:=fun k hk => by
    induction hk with
    | refl => exact .inr rfl
    | @step ka kb x _ e s ih =>
     by_cases hkb : kb = k0
     ·exact .inr hkb
     ·rcases ih with hc | rfl
      ·obtain ⟨y,ey,hy⟩:=hC.shut ka hc
       have:=(freed_some (freed_some ey).2).2
       rw [e] at this; cases this
       exact .inl (hy kb ⟨s,hkb⟩)
      ·rw [ho] at e; cases e
       exact .inl (hs kb ⟨s,hkb⟩)
   rcases hall k1 hw with hc | e
   ·obtain ⟨y,ey,_⟩:=hC.shut k1 hc
    exact (freed_some (freed_some ey).2).1 rfl
   ·exact hne e.symm
theorem prices {S : Nat → Nat → Prop} {w : Nat → Int} {nB nO : Nat} (hF : Fit S nB nO) (hw : ∀ i,0 ≤ w i) {L : Nat → Prop} {h : Nat → Option Nat} (hM : Mat S h) (hd : ∀ x,Dom h x ↔ L x) (hc : ∀ i,i < nO → ¬ L i → Cert S w L i) : ∃ q u,Prices S w nB nO h q u:=by
 have hv : ∀ k,0 ≤ ov w (h k):=fun k => by
  cases h k with
  | none => exact Int.le_refl _
  | some x => exact hw x
 have hex : ∀ k,∃ k',Way S h k k' ∧ ∀ k'',Way S h k k'' → ov w (h k') ≤ ov w (h k''):=fun k => min_ex hv (ov w (h k)).toNat k .refl (by have:=hv k; omega)
 let r : Nat → Nat:=fun k => Classical.choose (hex k)
 have hr : ∀ k,Way S h k (r k) ∧ ∀ k'',Way S h k k'' → ov w (h (r k)) ≤ ov w (h k''):=fun k => Classical.choose_spec (hex k)
 let q : Nat → Int:=fun k => ov w (h (r k))
 let u : Nat → Int:=fun i => if hx : Dom h i then w i - q (Classical.choose hx) else 0
 have huset : ∀ k x,h k = some x → u x = w x - q k:=fun k x e => by
  have hx : Dom h x:=⟨k,e⟩
  have:=hM.inj _ _ x (Classical.choose_spec hx) e
  show (if hx : Dom h x then w x - q (Classical.choose hx) else 0) = _
  rw [dif_pos hx,this]
 have hunot : ∀ i,¬ Dom h i → u i = 0:=fun i hi => dif_neg hi
 have hfree : ∀ k,h k = none → q k = 0:=fun k e => by
  have h1:=(hr k).2 k .refl
  have h2:=hv (r k)
  rw [e] at h1
  have e0 : ov w none = 0:=rfl
  show ov w (h (r k)) = 0
  omega
 refine ⟨q,u,fun k => hv (r k),hfree,fun k x e => ?_,fun k x k' e hs => (hr k).2 _ (.head e hs (hr k').1),fun i k hi hn hs => ?_,huset,hunot,?_,fun k => ?_⟩
 ·have h1:=(hr k).2 k .refl
  rw [e] at h1
  exact h1
 ·obtain ⟨h0,C,hM0,hd0,hC,hsC,hwC⟩:=(hc i hi (fun hl => hn ((hd i).2 hl))).out
  have hf:=filled hF hM0 hC hM (fun k x _ e => (hd x).2 (hd0 x ⟨k,e⟩))
  have hall : ∀ k',Way S h k k' → C k':=fun k' hk' => by
   induction hk' with
   | refl => exact hsC k hs
   | @step ka kb x _ e s ih =>
    obtain ⟨y,ey,k1,hk1,e1⟩:=hf ka ih
    rw [e] at ey; cases ey
    obtain ⟨z,ez,hz⟩:=hC.shut k1 hk1
    rw [e1] at ez; cases ez
    exact hz kb s
  obtain ⟨y,ey,k1,hk1,e1⟩:=hf _ (hall _ (hr k).1)
  show w i ≤ ov w (h (r k))
  rw [ey]
  exact hwC k1 y hk1 e1
 ·have h1:=bij hF hM u
  have h2 : sm nO (fun o => if Dom h o then u o else 0) = sm nO u:=sm_congr fun o _ => by
   by_cases hx : Dom h o
   ·rw [if_pos hx]
   ·rw [if_neg hx,hunot o hx]
  have h3 : sm nB (fun k => ov u (h k)) = sm nB (fun k => ov w (h k) - q k):=sm_congr fun k _ => by
   cases e : h k with
   | none => rw [hfree k e]; rfl
   | some x => exact huset k x e
  have h4:=sm_sub (fun k => ov w (h k)) q nB
  have e5 : sm nB (fun k => ov w (h k)) = wor nB w h:=rfl
  omega
 ·by_cases hk : r k < nB
  ·exact way_less hF w hM hk (hr k).1
  ·have hout : h (r k) = none:=by
    cases e : h (r k) with
    | none => rfl
    | some x => exact absurd (hF.bay x _ (hM.suit _ x e)) hk
   have hq : q k = 0:=by show ov w (h (r k)) = 0; rw [hout]; rfl
   by_cases hk2 : h k = none
   ·exact ⟨h,hM,hk2,by omega⟩
   ·exfalso
    have:=(hr k).1
    have hstep : ∀ k',Way S h k k' → k' < nB:=fun k' hk' => by
     cases hk' with
     | refl =>
      cases e : h k with
      | none => exact absurd e hk2
      | some x => exact hF.bay x k (hM.suit k x e)
     | step _ _ s => exact hF.bay _ _ s
    exact hk (hstep _ this)
theorem Prices.without {S : Nat → Nat → Prop} {w : Nat → Int} {nB nO : Nat} (hF : Fit S nB nO) {h : Nat → Option Nat} (hM : Mat S h) {q u : Nat → Int} (hp : Prices S w nB nO h q u) {k : Nat} (hk : k < nB) : Opt (fun i j => S i j ∧ j ≠ k) w nB (wor nB w h - q k):=by
 refine ⟨?_,fun h2 hM2 => ?_⟩
 ·obtain ⟨h',hM',hn,e⟩:=hp.less k
  refine ⟨h',⟨fun j o ej => ⟨hM'.suit j o ej,fun ejk => ?_⟩,hM'.inj⟩,e⟩
  subst ejk; rw [hn] at ej; cases ej
 ·have hM3 : Mat S h2:=⟨fun j o e => (hM2.suit j o e).1,hM2.inj⟩
  have hn : h2 k = none:=by
   cases e : h2 k with
   | none => rfl
   | some x => exact absurd rfl (hM2.suit k x e).2
  have:=weak_but (w:=w) (q:=q) (u:=u) hF (fun k _ => hp.q0 k) (fun i _ => hp.u0 i) (fun i k hs => hp.feas hF hs) hM3 hk hn
  rw [hp.total]
  omega
theorem Greedy.prices {S : Nat → Nat → Prop} {w : Nat → Int} {nB nO : Nat} (hF : Fit S nB nO) (hw : ∀ i,0 ≤ w i) {P L : Nat → Prop} (hg : Greedy S w P L) (hP : ∀ i,i < nO → P i) {h : Nat → Option Nat} (hM : Mat S h) (hd : ∀ x,Dom h x ↔ L x) : ∃ q u,Prices S w nB nO h q u:=Go.Proofs.YthndghnkebboaaaGreat.prices hF hw hM hd fun i hi hn => hg.cert i (hP i hi) hn
set_option linter.unusedSimpArgs false
def oat (y : TY) (o : Nat) : TO:=y.fR.getD o default
def bat (y : TY) (k : Nat) : TBay:=y.fB.getD k default
theorem rdL_oat (y : TY) (o : Nat) : rdL y.fR (o : Int) = oat y o:=by unfold rdL oat; rw [Int.toNat_natCast]
theorem rdL_bat (y : TY) (k : Nat) : rdL y.fB (k : Int) = bat y k:=by unfold rdL bat; rw [Int.toNat_natCast]
def suitB (o : TO) (b : TBay) : Bool:=decide (o.fH.fLo ≤ b.fHour ∧ b.fHour ≤ o.fH.fHi) && decide (o.fD ≤ b.fD)
theorem suits_eq (o : TO) (b : TBay) : cart_suits o b = some (suitB o b):=by unfold cart_suits; rw [within_eq]; rfl
def Su (y : TY) (o k : Nat) : Prop:=o < y.fR.length ∧ k < y.fB.length ∧ suitB (oat y o) (bat y k) = true
def wo (y : TY) (o : Nat) : Int:=(oat y o).fW
theorem Su.fit (y : TY) : Fit (Su y) y.fB.length y.fR.length:=⟨fun o k h => h.2.1,fun o k h => h.1⟩
def hold (g : List (Int × Int)) (k : Nat) : Option Nat:=if mhasV g (k : Int) = true then some (mgetV 0 g (k : Int)).toNat else none
def tri (t : List (Int × Bool)) (k : Nat) : Prop:=mgetV false t (k : Int) = true
def OkG (nB nO : Nat) (g : List (Int × Int)) : Prop:=∀ p ∈ g,∃ k o : Nat,p = ((k : Int),(o : Int)) ∧ k < nB ∧ o < nO
theorem OkG.nil {nB nO : Nat} : OkG nB nO []:=fun p hp => by cases hp
theorem OkG.cons {nB nO k o : Nat} {g : List (Int × Int)} (h : OkG nB nO g) (hk : k < nB) (ho : o < nO) : OkG nB nO (((k : Int),(o : Int)) :: g):=fun p hp => by
 rcases List.mem_cons.1 hp with rfl | hp
 ·exact ⟨k,o,rfl,hk,ho⟩
 ·exact h p hp
theorem hold_nil : hold [] = fun _ => none:=rfl
theorem hold_cons (g : List (Int × Int)) (k o : Nat) : hold (((k : Int),(o : Int)) :: g) = fun j => if j = k then some o else hold g j:=by
 funext j
 unfold hold
 rw [mhas_cons,mget_cons]
 by_cases h : j = k
 ·subst h
  rw [if_pos rfl,if_pos rfl,if_pos rfl,if_pos rfl,Int.toNat_natCast]
 ·rw [if_neg (show ¬ ((k : Int) = (j : Int)) by omega),if_neg (show ¬ ((k : Int) = (j : Int)) by omega),if_neg h]
theorem tri_nil : tri [] = fun _ => False:=by funext k; exact propext ⟨fun h => (by cases h),False.elim⟩
theorem tri_cons (t : List (Int × Bool)) (k : Nat) : tri (((k : Int),true) :: t) = fun j => tri t j ∨ j = k:=by
 funext j
 unfold tri
 rw [mget_cons]
 refine propext ?_
 by_cases h : j = k
 ·subst h; rw [if_pos rfl]; exact ⟨fun _ => .inr rfl,fun _ => rfl⟩
 ·rw [if_neg (show ¬ ((k : Int) = (j : Int)) by omega)]; exact ⟨.inl,fun hh => hh.elim id fun e => absurd e h⟩
theorem hold_get {nB nO : Nat} : ∀ {g : List (Int × Int)},OkG nB nO g → ∀ {k x : Nat},hold g k = some x → mhasV g (k : Int) = true ∧ mgetV 0 g (k : Int) = (x : Int) ∧ k < nB ∧ x < nO
 | [],_,k,x,e => by cases e
 | p :: g,hg,k,x,e => by
  obtain ⟨k',o,rfl,hk',ho⟩:=hg p (List.mem_cons_self ..)
  rw [hold_cons] at e
  rw [mhas_cons,mget_cons]
  by_cases h : k = k'
  ·subst h
   rw [if_pos rfl,if_pos rfl]
   simp only [if_true] at e
   cases e
   exact ⟨rfl,rfl,hk',ho⟩
  ·rw [if_neg (show ¬ ((k' : Int) = (k : Int)) by omega),if_neg (show ¬ ((k' : Int) = (k : Int)) by omega)]
   simp only [if_neg h] at e
   exact hold_get (g:=g) (fun q hq => hg q (List.mem_cons_of_mem _ hq)) e
theorem hold_has {g : List (Int × Int)} {k : Nat} (e : hold g k = none) : mhasV g (k : Int) = false:=by
 unfold hold at e
 by_cases h : mhasV g (k : Int) = true
 ·rw [if_pos h] at e; cases e
 ·exact Bool.eq_false_iff.2 h
theorem rng_nat {k : Nat} (h : k < 1000000) : rngB (k : Int) = true:=by
 unfold rngB
 rw [Bool.and_eq_true,decide_eq_true_eq,decide_eq_true_eq]; omega
theorem look (y : TY) (hB : y.fB.length ≤ 1000) (hO : y.fR.length ≤ 1000) : ∀ (fuel o : Nat) (t : List (Int × Bool)) (g : List (Int × Int)),o < y.fR.length → OkG y.fB.length y.fR.length g → unt y.fB.length (tri t) < (fuel : Int) → (t.length : Int) + unt y.fB.length (tri t) ≤ 2000 → (g.length : Int) + unt y.fB.length (tri t) ≤ 100000 → MatX (Su y) (tri t) (hold g) → ¬ DomX (tri t) (hold g) o →
  ∃ r t' g',cart_given_take_1 fuel (o : Int) y t g = some (r,t',g') ∧ OkG y.fB.length y.fR.length g' ∧ (t'.length : Int) + unt y.fB.length (tri t') ≤ (t.length : Int) + unt y.fB.length (tri t) ∧ (g'.length : Int) + unt y.fB.length (tri t') ≤ (g.length : Int) + unt y.fB.length (tri t) ∧ (∀ k,tri t k → tri t' k) ∧ ((r = true ∧ AugY (Su y) (tri t) o (hold g) (hold g')) ∨ (r = false ∧ g' = g ∧ AugN (Su y) (tri t) (tri t') o (hold g))):=by
 intro fuel
 induction fuel with
 | zero =>
  intro o t g _ _ hu
  have:=unt_nonneg y.fB.length (tri t)
  omega
 | succ fuel ih =>
  intro o t g ho hg hu hlt hlg hM hn
  have hinv:=loopO_inv (body:=cart_given_take_1_l1 (o : Int) y (cart_given_take_1 fuel))
   (fun s => ∃ (i : Nat) (t1 : List (Int × Bool)),s = (false,(i : Int),t1,g) ∧ i ≤ y.fB.length ∧ (∀ k,tri t k → tri t1 k) ∧ (t1.length : Int) + unt y.fB.length (tri t1) ≤ (t.length : Int) + unt y.fB.length (tri t) ∧ (∀ k,tri t1 k → ¬ tri t k → ∃ x,hold g k = some x ∧ ∀ k',Su y x k' → tri t1 k') ∧ (∀ k,k < i → Su y o k → tri t1 k))
   (fun _ out => match out with
    | .inl u => u.1 = true ∧ OkG y.fB.length y.fR.length u.2.2.2 ∧ (u.2.2.1.length : Int) + unt y.fB.length (tri u.2.2.1) ≤ (t.length : Int) + unt y.fB.length (tri t) ∧ (u.2.2.2.length : Int) + unt y.fB.length (tri u.2.2.1) ≤ (g.length : Int) + unt y.fB.length (tri t) ∧ (∀ k,tri t k → tri u.2.2.1 k) ∧ AugY (Su y) (tri t) o (hold g) (hold u.2.2.2)
    | .inr u => u.2.2.2 = g ∧ (u.2.2.1.length : Int) + unt y.fB.length (tri u.2.2.1) ≤ (t.length : Int) + unt y.fB.length (tri t) ∧ AugN (Su y) (tri t) (tri u.2.2.1) o (hold g))
   (fun s => y.fB.length - s.2.1.toNat) (by
    rintro _ ⟨i,t1,rfl,hi,hsub,hlen,hsh,hown⟩
    have hu1 : unt y.fB.length (tri t1) ≤ unt y.fB.length (tri t):=unt_le hsub
    have hu0:=unt_nonneg y.fB.length (tri t1)
    rcases Nat.lt_or_ge i y.fB.length with hlt' | hge
    ·have c1 : (0 : Int) ≤ (i : Int) ∧ (i : Int) < ((y.fB.length : Nat) : Int):=by omega
     have c2 : (0 : Int) ≤ (o : Int) ∧ (o : Int) < ((y.fR.length : Nat) : Int):=by omega
     have hb : cart_given_take_1_l1 (o : Int) y (cart_given_take_1 fuel) (false,(i : Int),t1,g) = (if (mgetV false t1 (i : Int) || !suitB (oat y o) (bat y i)) = true then some (.inl (false,((i + 1 : Nat) : Int),t1,g)) else guardO (rngB (i : Int) = true ∧ List.length t1 < 1000000) ((if (!(mhasV g (i : Int))) = true then (guardO (rngB (i : Int) = true ∧ List.length g < 1000000) (some (.inr (.inl (true,(i : Int),(((i : Int),true) :: t1),(((i : Int),(o : Int)) :: g)))))) else ((cart_given_take_1 fuel (mgetV 0 g (i : Int)) y (((i : Int),true) :: t1) g).bind fun y17 => (if y17.1 = true then guardO (rngB (i : Int) = true ∧ List.length y17.2.2 < 1000000) (some (.inr (.inl (true,(i : Int),y17.2.1,(((i : Int),(o : Int)) :: y17.2.2))))) else some (.inl (false,((i + 1 : Nat) : Int),y17.2.1,y17.2.2))))))):=by
      unfold cart_given_take_1_l1; dsimp only
      rw [ite_t (show (i : Int) < ((y.fB.length : Nat) : Int) by omega),gPo c1,gPo (rng_nat (by omega))]
      simp only [rdL_oat,rdL_bat,TSpan_eta,TOrder_eta,TBay_eta,suits_eq,oB,gPo c2,w64_succ (show i < 9223372036854775807 by omega),gPo (rng_nat (show i < 1000000 by omega))]
      cases mgetV false t1 (i : Int) <;> cases suitB (oat y o) (bat y i) <;> rfl
     by_cases hsk : (mgetV false t1 (i : Int) || !suitB (oat y o) (bat y i)) = true
     ·refine .inl ⟨_,by rw [hb,if_pos hsk],⟨i + 1,t1,rfl,hlt',hsub,hlen,hsh,fun k hk hs => ?_⟩,by dsimp only; omega,fun t h => h⟩
      rcases Nat.lt_or_ge k i with h | h
      ·exact hown k h hs
      ·have : k = i:=by omega
       subst this
       rcases Bool.or_eq_true_iff.1 hsk with h | h
       ·exact h
       ·rw [hs.2.2] at h; cases h
     ·rw [if_neg hsk] at hb
      have hsk2:=Bool.eq_false_iff.2 hsk
      rw [Bool.or_eq_false_iff] at hsk2
      have hnt : ¬ tri t1 i:=by unfold tri; rw [hsk2.1]; exact Bool.false_ne_true
      have hS : Su y o i:=⟨ho,hlt',by have:=hsk2.2; simpa using this⟩
      have hua:=unt_add hlt' hnt
      rw [← tri_cons] at hua
      have hM1 : MatX (Su y) (tri t1) (hold g):=hM.more hsub
      have hn1 : ¬ DomX (tri t1) (hold g) o:=fun ⟨j,hj,e⟩ => hn ⟨j,fun h => hj (hsub j h),e⟩
      have hsub' : ∀ k,tri t1 k → tri (((i : Int),true) :: t1) k:=fun k hk => by rw [tri_cons]; exact .inl hk
      have hi1 : tri (((i : Int),true) :: t1) i:=by rw [tri_cons]; exact .inr rfl
      rw [gPo ⟨rng_nat (by omega),by omega⟩] at hb
      cases hh : hold g i with
      | none =>
       rw [hold_has hh,if_pos (by rfl),gPo ⟨rng_nat (by omega),by omega⟩] at hb
       refine .inr ⟨_,hb,rfl,hg.cons hlt' ho,?_,?_,fun k hk => hsub' k (hsub k hk),?_⟩
       ·dsimp only; rw [List.length_cons]; omega
       ·dsimp only; rw [List.length_cons]; omega
       ·dsimp only
        rw [hold_cons]
        exact aug_past hM hsub hn (aug_free hM1 hnt hS hh hn1)
      | some x =>
       obtain ⟨hx1,hx2,_,hx3⟩:=hold_get hg hh
       rw [hx1,if_neg (by simp),hx2] at hb
       have hMi : MatX (Su y) (tri (((i : Int),true) :: t1)) (hold g):=hM1.more hsub'
       have hni : ¬ DomX (tri (((i : Int),true) :: t1)) (hold g) x:=fun ⟨j,hj,e⟩ => by
        have : j = i:=hM1.inj j i x (fun h => hj (hsub' j h)) hnt e hh
        subst this; exact hj hi1
       obtain ⟨r,t',g',hr,hg',hl1,hl2,hs',hcase⟩:=ih x (((i : Int),true) :: t1) g hx3 hg (by omega) (by rw [List.length_cons]; omega) (by omega) hMi hni
       rw [hr,oB] at hb
       dsimp only at hb
       rw [List.length_cons] at hl1
       have hut:=unt_nonneg y.fB.length (tri t')
       rcases hcase with ⟨rfl,hA⟩ | ⟨rfl,rfl,hA⟩
       ·rw [if_pos rfl,gPo ⟨rng_nat (by omega),by omega⟩] at hb
        refine .inr ⟨_,hb,rfl,hg'.cons hlt' ho,?_,?_,fun k hk => hs' k (hsub' k (hsub k hk)),?_⟩
        ·dsimp only; omega
        ·dsimp only; rw [List.length_cons]; omega
        ·dsimp only
         rw [hold_cons]
         rw [tri_cons] at hA
         exact aug_past hM hsub hn (aug_moved hM1 hnt hS hh hn1 hA)
       ·rw [if_neg (by simp)] at hb
        refine .inl ⟨_,hb,⟨i + 1,t',rfl,hlt',fun k hk => hs' k (hsub' k (hsub k hk)),by omega,fun k hk hnk => ?_,fun k hk hs => ?_⟩,by dsimp only; omega,fun t h => h⟩
        ·by_cases hk1 : tri (((i : Int),true) :: t1) k
         ·by_cases hki : k = i
          ·subst hki
           exact ⟨x,hh,fun k' hk' => hA.own k' hk'⟩
          ·rw [tri_cons] at hk1
           have hk2 : tri t1 k:=hk1.elim id fun e => absurd e hki
           obtain ⟨z,e,hz⟩:=hsh k hk2 hnk
           exact ⟨z,e,fun k' hk' => hs' k' (hsub' k' (hz k' hk'))⟩
         ·exact hA.shut k hk hk1
        ·rcases Nat.lt_or_ge k i with h | h
         ·exact hs' k (hsub' k (hown k h hs))
         ·have : k = i:=by omega
          subst this; exact hs' k hi1
    ·have : i = y.fB.length:=by omega
     subst this
     refine .inr ⟨.inr (false,((y.fB.length : Nat) : Int),t1,g),?_,rfl,hlen,hsub,hsh,fun k hs => hown k hs.2.1 hs⟩
     unfold cart_given_take_1_l1; dsimp only
     rw [ite_f (by omega)]) (false,0,t,g) ⟨0,t,rfl,Nat.zero_le _,fun _ h => h,Int.le_refl _,fun k h1 h2 => absurd h1 h2,fun k hk => absurd hk (Nat.not_lt_zero _)⟩
  obtain ⟨out,hr,hpost⟩:=hinv
  unfold cart_given_take_1 cart_given_take_1_f
  rw [hr,oB]
  rcases out with u | u
  ·obtain ⟨h1,h2,h3,h4,h5,h6⟩:=hpost
   refine ⟨u.1,u.2.2.1,u.2.2.2,rfl,h2,h3,h4,h5,.inl ⟨h1,h6⟩⟩
  ·obtain ⟨h1,h2,h3⟩:=hpost
   have:=unt_le (nB:=y.fB.length) h3.sub
   refine ⟨false,u.2.2.1,u.2.2.2,rfl,by rw [h1]; exact hg,h2,by rw [h1]; omega,h3.sub,.inr ⟨rfl,h1,h3⟩⟩
theorem unt_all {nB : Nat} {T : Nat → Prop} : unt nB T ≤ (nB : Int):=by
 unfold unt
 induction nB with
 | zero => exact Int.le_refl _
 | succ n ih =>
  show sm n (fun k => off (T k)) + off (T n) ≤ _
  rcases off_cases (T n) with ⟨_,h⟩ | ⟨_,h⟩ <;> omega
theorem take_ok {y : TY} (hB : y.fB.length ≤ 1000) (hO : y.fR.length ≤ 1000) {g : List (Int × Int)} {o : Nat} (ho : o < y.fR.length) (hg : OkG y.fB.length y.fR.length g) (hl : g.length + y.fB.length ≤ 100000) (hM : Mat (Su y) (hold g)) (hn : ¬ Dom (hold g) o) :
  ∃ r g',cart_given_take g y (o : Int) = some (r,g') ∧ OkG y.fB.length y.fR.length g' ∧ g'.length ≤ g.length + y.fB.length ∧ ((r = true ∧ Mat (Su y) (hold g') ∧ ∀ x,Dom (hold g') x ↔ x = o ∨ Dom (hold g) x) ∨ (r = false ∧ g' = g ∧ ∃ C,Shut (Su y) C (hold g) ∧ ∀ k,Su y o k → C k)):=by
 have hu:=unt_all (nB:=y.fB.length) (T:=tri [])
 have hM' : MatX (Su y) (tri []) (hold g):=by rw [tri_nil]; exact hM.x
 have hn' : ¬ DomX (tri []) (hold g) o:=by rw [tri_nil]; exact fun h => hn (domX_none.1 h)
 obtain ⟨r,t',g',hr,h1,h2,h3,h4,h5⟩:=look y hB hO (y.fB.length + 2) o [] g ho hg (by omega) (by simp only [List.length_nil]; omega) (by omega) hM' hn'
 have hu':=unt_nonneg y.fB.length (tri t')
 refine ⟨r,g',?_,h1,by omega,?_⟩
 ·unfold cart_given_take
  rw [hr]; rfl
 ·rw [tri_nil] at h5
  rcases h5 with ⟨e,hA⟩ | ⟨e,e',hA⟩
  ·exact .inl ⟨e,hA.mat0,hA.dom0⟩
  ·exact .inr ⟨e,e',_,hA.shut0,hA.own⟩
set_option linter.unusedSimpArgs false
structure Fine (y : TY) : Prop where
 bays : y.fB.length ≤ 24
 ords : y.fR.length < 20
 low : ∀ i,0 ≤ wo y i
 high : ∀ i,wo y i ≤ 2000
def isum (f : Int → Int) : List Int → Int
 | [] => 0
 | k :: ks => f k + isum f ks
open Classical in
theorem isum_sm {f : Int → Int} {n : Nat} : ∀ (ks : List Int),ks.Nodup → (∀ k ∈ ks,∃ j : Nat,k = (j : Int) ∧ j < n) → isum f ks = sm n fun j => if (j : Int) ∈ ks then f (j : Int) else 0
 | [],_,_ => by rw [sm_zero fun i _ => by simp]; rfl
 | k :: ks,hn,h => by
  obtain ⟨j,rfl,hj⟩:=h k (List.mem_cons_self ..)
  rw [List.nodup_cons] at hn
  have ih:=isum_sm (f:=f) (n:=n) ks hn.2 fun k hk => h k (List.mem_cons_of_mem _ hk)
  show f (j : Int) + isum f ks = _
  rw [ih]
  have:=sm_upd (f:=fun i : Nat => if (i : Int) ∈ ks then f (i : Int) else 0) (g:=fun i : Nat => if (i : Int) ∈ (j : Int) :: ks then f (i : Int) else 0) hj (fun i _ hi => by
   have e : ((i : Int) ∈ (j : Int) :: ks) ↔ ((i : Int) ∈ ks):=by rw [List.mem_cons]; exact ⟨fun h => h.elim (fun e => absurd (by omega) hi) id,.inr⟩
   by_cases hc : (i : Int) ∈ ks
   ·rw [if_pos hc,if_pos (e.2 hc)]
   ·rw [if_neg hc,if_neg fun hh => hc (e.1 hh)])
  rw [this,if_neg hn.1,if_pos (List.mem_cons_self ..)]
  omega
theorem Opt.bound {S : Nat → Nat → Prop} {w : Nat → Int} {nB : Nat} {V : Int} (h : Opt S w nB V) (hl : ∀ i,0 ≤ w i) (hw : ∀ i,w i ≤ 2000) : 0 ≤ V ∧ V ≤ 2000 * (nB : Int):=by
 obtain ⟨m,_,e⟩:=h.some
 have h1 : ∀ n,sm n (fun k => ov w (m k)) ≤ 2000 * (n : Int):=fun n => by
  induction n with
  | zero => exact Int.le_refl _
  | succ n ih =>
   show sm n (fun k => ov w (m k)) + ov w (m n) ≤ _
   have : ov w (m n) ≤ 2000:=by
    cases m n with
    | none => show (0 : Int) ≤ 2000; omega
    | some x => exact hw x
   omega
 have h2 : 0 ≤ wor nB w m:=sm_nonneg fun k _ => by
  cases m k with
  | none => exact Int.le_refl _
  | some x => exact hl x
 have:=h1 nB
 unfold wor at h2 e
 omega
set_option linter.unusedSimpArgs false
def bayB (b : TBay) : Bool:=decide (1 ≤ b.fID ∧ b.fID ≤ 1099511627776) && (decide (0 ≤ b.fHour ∧ b.fHour ≤ 16384) && decide (0 ≤ b.fD ∧ b.fD ≤ 9))
def ordB (o : TO) : Bool:=decide (1 ≤ o.fID ∧ o.fID ≤ 1099511627776) && (decide (0 ≤ o.fH.fLo ∧ o.fH.fLo ≤ 16384) && (decide (0 ≤ o.fH.fHi ∧ o.fH.fHi ≤ 16384) && (!decide (o.fH.fHi < o.fH.fLo) && (decide (0 ≤ o.fD ∧ o.fD ≤ 9) && decide (1 ≤ o.fW ∧ o.fW ≤ 1000)))))
def errAt {α : Type} [Inhabited α] (l : List α) (ok : α → Bool) (id : α → Int) (k : Nat) : Option Int:=if ok (l.getD k default) = false then some 1 else if idxI l (fun x => id x == id (l.getD k default)) < (k : Int) then some 6 else none
def errOf {α : Type} [Inhabited α] (l : List α) (ok : α → Bool) (id : α → Int) : Option Int:=(List.range l.length).findSome? (errAt l ok id)
def yardV (y : TY) : Int:=if y.fB.length > 24 ∨ y.fR.length > 24 then 2 else match errOf y.fB bayB (·.fID) with
 | some e => e
 | none => (errOf y.fR ordB (·.fID)).getD 0
theorem errOf_none {α : Type} [Inhabited α] {l : List α} {ok : α → Bool} {id : α → Int} : errOf l ok id = none ↔ (∀ x ∈ l,ok x = true) ∧ (l.map id).Nodup:=by
 unfold errOf
 rw [List.findSome?_eq_none_iff]
 constructor
 ·intro h
  have h1 : ∀ k,(hk : k < l.length) → ok l[k] = true ∧ ¬ idxI l (fun x => id x == id l[k]) < (k : Int):=fun k hk => by
   have:=h k (List.mem_range.2 hk)
   unfold errAt at this
   rw [getD_lt hk] at this
   split at this
   ·cases this
   ·split at this
    ·cases this
    ·rename_i a b
     exact ⟨by cases hh : ok l[k]; exact absurd hh a; rfl,b⟩
  refine ⟨fun x hx => ?_,nodup_iff_first.1 fun k hk => (h1 k hk).2⟩
  obtain ⟨k,hk,rfl⟩:=List.mem_iff_getElem.1 hx
  exact (h1 k hk).1
 ·rintro ⟨h1,h2⟩ k hk
  have hk':=List.mem_range.1 hk
  unfold errAt
  rw [getD_lt hk',if_neg (by rw [h1 _ (List.getElem_mem hk')]; simp),if_neg (nodup_iff_first.2 h2 k hk')]
theorem errOf_some {α : Type} [Inhabited α] {l : List α} {ok : α → Bool} {id : α → Int} {e : Int} (h : errOf l ok id = some e) : e = 1 ∨ e = 6:=by
 obtain ⟨k,hk,he⟩:=List.exists_of_findSome?_eq_some h
 unfold errAt at he
 split at he
 ·cases he; exact .inl rfl
 ·split at he
  ·cases he; exact .inr rfl
  ·cases he
structure Good (y : TY) : Prop where
 bays : y.fB.length ≤ 24
 ords : y.fR.length ≤ 24
 bay : ∀ b ∈ y.fB,bayB b = true
 ord : ∀ o ∈ y.fR,ordB o = true
 bayN : (y.fB.map (·.fID)).Nodup
 ordN : (y.fR.map (·.fID)).Nodup
theorem yardV_zero {y : TY} : yardV y = 0 ↔ Good y:=by
 unfold yardV
 constructor
 ·intro h
  split at h
  ·cases h
  ·rename_i hl
   cases hb : errOf y.fB bayB (·.fID) with
   | some e => rw [hb] at h; dsimp only at h; have:=errOf_some hb; omega
   | none =>
    rw [hb] at h
    dsimp only at h
    cases ho : errOf y.fR ordB (·.fID) with
    | some e => rw [ho] at h; simp only [Option.getD_some] at h; have:=errOf_some ho; omega
    | none =>
     obtain ⟨b1,b2⟩:=errOf_none.1 hb
     obtain ⟨o1,o2⟩:=errOf_none.1 ho
     exact ⟨by omega,by omega,b1,o1,b2,o2⟩
 ·intro h
  rw [if_neg (by have:=h.bays; have:=h.ords; omega),errOf_none.2 ⟨h.bay,h.bayN⟩,errOf_none.2 ⟨h.ord,h.ordN⟩]
  rfl
theorem find_pair {n : Nat} (R : Nat → Option Int) : (List.range n).findSome? (fun k => (R k).map fun e => (Sum.inl (e,(k : Int)) : (Int × Int) ⊕ (Int × Int))) = none ∧ (List.range n).findSome? R = none ∨ ∃ e k,(List.range n).findSome? (fun k => (R k).map fun e => (Sum.inl (e,(k : Int)) : (Int × Int) ⊕ (Int × Int))) = some (.inl (e,k)) ∧ (List.range n).findSome? R = some e:=by
 induction n with
 | zero => exact .inl ⟨rfl,rfl⟩
 | succ n ih =>
  rw [List.range_succ,List.findSome?_append,List.findSome?_append]
  rcases ih with ⟨h1,h2⟩ | ⟨e,k,h1,h2⟩
  ·rw [h1,h2]
   cases hR : R n with
   | none => exact .inl (by simp [hR])
   | some e => exact .inr ⟨e,(n : Int),by simp [hR]⟩
  ·rw [h1,h2]
   exact .inr ⟨e,k,rfl,rfl⟩
theorem err_loop {body : (Int × Int) → Option ((Int × Int) ⊕ ((Int × Int) ⊕ (Int × Int)))} {n : Nat} (R : Nat → Option Int) {e0 : Int} (h : ∀ k,k < n → body (e0,(k : Int)) = some (match R k with | none => .inl (e0,((k + 1 : Nat) : Int)) | some e => .inr (.inl (e,(k : Int))))) (hs : body (e0,(n : Int)) = some (.inr (.inr (e0,(n : Int))))) :
  ((List.range n).findSome? R = none ∧ loopO body (e0,0) = some (.inr (e0,(n : Int)))) ∨ ∃ e k,(List.range n).findSome? R = some e ∧ loopO body (e0,0) = some (.inl (e,k)):=by
 have:=loop_search (body:=body) (fun k => (e0,(k : Int))) n (fun k => (R k).map fun e => (Sum.inl (e,(k : Int)) : (Int × Int) ⊕ (Int × Int))) (t0:=.inr (e0,(n : Int))) (fun k hk => by
  rw [h k hk]
  cases R k <;> rfl) hs
 have h0 : loopO body (e0,0) = _:=this
 rw [h0]
 rcases find_pair (n:=n) R with ⟨h1,h2⟩ | ⟨e,k,h1,h2⟩
 ·exact .inl ⟨h2,by rw [h1]; rfl⟩
 ·exact .inr ⟨e,k,h2,by rw [h1]; rfl⟩
theorem CheckYard_eq (y : TY) : cart_CheckYard y = some (yardV y):=by
 unfold cart_CheckYard yardV
 by_cases hl : y.fB.length > 24 ∨ y.fR.length > 24
 ·rw [if_pos hl,if_pos (by rw [Bool.or_eq_true,decide_eq_true_eq,decide_eq_true_eq]; omega)]
 ·rw [if_neg hl,if_neg (by rw [Bool.or_eq_true,decide_eq_true_eq,decide_eq_true_eq]; omega)]
  have hb:=err_loop (body:=cart_CheckYard_l1 y) (n:=y.fB.length) (errAt y.fB bayB (·.fID)) (e0:=0) (fun k hk => by
   unfold cart_CheckYard_l1; dsimp only
   rw [ite_t (by omega),gPo (by omega)]
   simp only [rdL_nat hk,within_eq,hour_eq,oB,bay_eq (show y.fB.length < 1000000000 by omega),w64_succ (show k < 9223372036854775807 by omega)]
   unfold errAt bayB bayI
   rw [getD_lt hk]
   by_cases c1 : 1 ≤ y.fB[k].fID ∧ y.fB[k].fID ≤ 1099511627776 <;> by_cases c2 : 0 ≤ y.fB[k].fHour ∧ y.fB[k].fHour ≤ 16384 <;> by_cases c3 : 0 ≤ y.fB[k].fD ∧ y.fB[k].fD ≤ 9 <;> by_cases c4 : idxI y.fB (fun x => x.fID == y.fB[k].fID) < (k : Int) <;> simp [c1,c2,c3,c4]) (by
   unfold cart_CheckYard_l1; dsimp only
   rw [ite_f (by omega)])
  have ho:=err_loop (body:=cart_CheckYard_l2 y) (n:=y.fR.length) (errAt y.fR ordB (·.fID)) (e0:=0) (fun k hk => by
   unfold cart_CheckYard_l2; dsimp only
   rw [ite_t (by omega),gPo (by omega)]
   simp only [rdL_nat hk,within_eq,hour_eq,oB,order_eq (show y.fR.length < 1000000000 by omega),w64_succ (show k < 9223372036854775807 by omega)]
   unfold errAt ordB orderI
   rw [getD_lt hk]
   by_cases c1 : 1 ≤ y.fR[k].fID ∧ y.fR[k].fID ≤ 1099511627776 <;> by_cases c2 : 0 ≤ y.fR[k].fH.fLo ∧ y.fR[k].fH.fLo ≤ 16384 <;> by_cases c3 : 0 ≤ y.fR[k].fH.fHi ∧ y.fR[k].fH.fHi ≤ 16384 <;> by_cases c5 : y.fR[k].fH.fHi < y.fR[k].fH.fLo <;> by_cases c6 : 0 ≤ y.fR[k].fD ∧ y.fR[k].fD ≤ 9 <;> by_cases c7 : 1 ≤ y.fR[k].fW ∧ y.fR[k].fW ≤ 1000 <;> by_cases c4 : idxI y.fR (fun x => x.fID == y.fR[k].fID) < (k : Int) <;> simp [c1,c2,c3,c4,c5,c6,c7]) (by
   unfold cart_CheckYard_l2; dsimp only
   rw [ite_f (by omega)])
  rcases hb with ⟨h1,h2⟩ | ⟨e,k,h1,h2⟩
  ·rw [h2,oB]
   dsimp only
   rw [show errOf y.fB bayB (·.fID) = none from h1]
   rcases ho with ⟨h3,h4⟩ | ⟨e,k,h3,h4⟩
   ·rw [h4]
    rw [show errOf y.fR ordB (·.fID) = none from h3]
    rfl
   ·rw [h4]
    rw [show errOf y.fR ordB (·.fID) = some e from h3]
    rfl
  ·rw [h2]
   rw [show errOf y.fB bayB (·.fID) = some e from h1]
   rfl
theorem Good.worth {y : TY} (h : Good y) {i : Nat} (hi : i < y.fR.length) : 1 ≤ wo y i ∧ wo y i ≤ 1000:=by
 have:=h.ord y.fR[i] (List.getElem_mem hi)
 unfold ordB at this
 simp only [Bool.and_eq_true,decide_eq_true_eq] at this
 unfold wo oat
 rw [getD_lt hi]
 exact this.2.2.2.2.2
set_option linter.unusedSimpArgs false
structure PlanOf (y : TY) (h : Nat → Option Nat) (q : Nat → Int) (p : TPlan) : Prop where
 worth : p.fW = wor y.fB.length (wo y) h
 len : p.fG.length = y.fR.length
 got : ∀ o k,h k = some o → p.fG.getD o 0 = (bat y k).fID
 not : ∀ o,¬ Dom h o → p.fG.getD o 0 = 0
 plen : p.fPrices.length = y.fB.length
 price : ∀ k,k < y.fB.length → p.fPrices.getD k 0 = q k
set_option linter.unusedSimpArgs false
def OkH (nB nO : Nat) (held : List Int) : Prop:=held.length = nB ∧ ∀ k,k < nB → rdL held (k : Int) < 0 ∨ ∃ o : Nat,rdL held (k : Int) = (o : Int) ∧ o < nO
theorem rdL_set {α : Type} [Inhabited α] (l : List α) {k : Nat} (hk : k < l.length) (v : α) (j : Nat) : rdL (l.set k v) (j : Int) = if j = k then v else rdL l (j : Int):=by
 unfold rdL
 rw [Int.toNat_natCast,List.getD_eq_getElem?_getD,List.getD_eq_getElem?_getD]
 by_cases h : j = k
 ·subst h; rw [if_pos rfl,List.getElem?_set_self hk]; rfl
 ·rw [if_neg h,List.getElem?_set_ne (fun e => h e.symm)]
theorem OkH.set {nB nO : Nat} {held : List Int} (h : OkH nB nO held) {k o : Nat} (hk : k < nB) (ho : o < nO) : OkH nB nO (held.set k (o : Int)):=by
 refine ⟨by rw [List.length_set]; exact h.1,fun j hj => ?_⟩
 rw [rdL_set held (by rw [h.1]; exact hk)]
 by_cases e : j = k
 ·rw [if_pos e]; exact .inr ⟨o,rfl,ho⟩
 ·rw [if_neg e]; exact h.2 j hj
structure Nums (n : Nat) (l : List Int) : Prop where
 nat : ∀ x ∈ l,∃ k : Nat,x = (k : Int) ∧ k < n
 once : l.Nodup
set_option linter.unusedSimpArgs false
open Classical
theorem Matchable.mono {S S' : Nat → Nat → Prop} {A : Nat → Prop} (h : Matchable S A) (hs : ∀ x k,A x → S x k → S' x k) : Matchable S' A:=by
 obtain ⟨m,hM,hd⟩:=h
 exact ⟨m,⟨fun k o e => hs o k ((hd o).1 ⟨k,e⟩) (hM.suit k o e),hM.inj⟩,hd⟩
theorem Matchable.congr {S : Nat → Nat → Prop} {A B : Nat → Prop} (h : Matchable S A) (hab : ∀ x,A x ↔ B x) : Matchable S B:=by
 obtain ⟨m,hM,hd⟩:=h
 exact ⟨m,hM,fun x => (hd x).trans (hab x)⟩
def w1 (y : TY) (first wi : Int) (x : Nat) : Int:=if (x : Int) = first ∨ (x : Int) = wi then 1001 else wo y x
def S1 (y : TY) (wi : Int) (x k : Nat) : Prop:=Su y x k ∧ (x : Int) ≠ wi
theorem S1.fit (y : TY) (wi : Int) : Fit (S1 y wi) y.fB.length y.fR.length:=⟨fun o k h => h.1.2.1,fun o k h => h.1.1⟩
def Seen (y : TY) (first wi w : Int) (i : Nat) (x : Nat) : Prop:=(x < y.fR.length ∧ (w < wo y x ∨ (wo y x = w ∧ x < i))) ∨ (x : Int) = first ∨ (x : Int) = wi
structure BestI (y : TY) (first wi w : Int) (i : Nat) (l : List Int) : Prop where
 nums : Nums y.fR.length l
 greedy : Greedy (S1 y wi) (w1 y first wi) (Seen y first wi w i) (fun x => (x : Int) ∈ l)
 no : ¬ wi ∈ l
theorem Nums.len {n : Nat} {l : List Int} (h : Nums n l) : l.length ≤ n:=by
 have h1 : ∀ (ks : List Int),isum (fun _ => 1) ks = (ks.length : Int):=fun ks => by
  induction ks with
  | nil => rfl
  | cons k ks ih => show 1 + isum (fun _ => 1) ks = _; rw [ih,List.length_cons]; omega
 have h2:=isum_sm (f:=fun _ => 1) (n:=n) l h.once h.nat
 have h3 : ∀ n,sm n (fun _ => 1) = (n : Int):=fun n => by
  induction n with
  | zero => rfl
  | succ n ih => show sm n (fun _ => 1) + 1 = _; rw [ih]; omega
 have h4:=h3 n
 have h5 : sm n (fun j => if (j : Int) ∈ l then (1 : Int) else 0) ≤ sm n (fun _ => 1):=sm_le fun i _ => by split <;> omega
 rw [h1] at h2
 omega
theorem Opt.congr {S S' : Nat → Nat → Prop} {w w' : Nat → Int} {nB : Nat} {V : Int} (h : Opt S w nB V) (hS : ∀ o k,S o k ↔ S' o k) (hw : ∀ o k,S o k → w o = w' o) : Opt S' w' nB V:=by
 have e : S = S':=funext fun o => funext fun k => propext (hS o k)
 subst e
 have hv : ∀ m,Mat S m → wor nB w m = wor nB w' m:=fun m hM => sm_congr fun k _ => by
  cases e : m k with
  | none => rfl
  | some x => exact hw x k (hM.suit k x e)
 obtain ⟨m,hM,e⟩:=h.some
 exact ⟨⟨m,hM,by rw [← hv m hM]; exact e⟩,fun m hM => by rw [← hv m hM]; exact h.most m hM⟩
set_option linter.unusedSimpArgs false
open Classical
def ga (p : TPlan) (i : Nat) : Int:=p.fG.getD i 0
def pa (p : TPlan) (k : Nat) : Int:=p.fPrices.getD k 0
def minS (y : TY) (f : Nat → Int) (i : Nat) (a : Int) : Nat → Int
 | 0 => a
 | n + 1 => if suitB (oat y i) (bat y n) = true then min (minS y f i a n) (f n) else minS y f i a n
theorem minS_le (y : TY) (f : Nat → Int) (i : Nat) (a : Int) : ∀ n,minS y f i a n ≤ a ∧ ∀ k,k < n → suitB (oat y i) (bat y k) = true → minS y f i a n ≤ f k
 | 0 => ⟨Int.le_refl _,fun k hk => by omega⟩
 | n + 1 => by
  obtain ⟨h1,h2⟩:=minS_le y f i a n
  unfold minS
  split
  ·rename_i hs
   refine ⟨by omega,fun k hk hk2 => ?_⟩
   rcases Nat.lt_or_ge k n with h | h
   ·have:=h2 k h hk2; omega
   ·have : k = n:=by omega
    subst this; omega
  ·rename_i hs
   refine ⟨h1,fun k hk hk2 => ?_⟩
   rcases Nat.lt_or_ge k n with h | h
   ·exact h2 k h hk2
   ·have : k = n:=by omega
    subst this; exact absurd hk2 hs
theorem minS_at (y : TY) (f : Nat → Int) (i : Nat) (a : Int) : ∀ n,minS y f i a n = a ∨ ∃ k,k < n ∧ suitB (oat y i) (bat y k) = true ∧ minS y f i a n = f k
 | 0 => .inl rfl
 | n + 1 => by
  unfold minS
  split
  ·rename_i hs
   rcases minS_at y f i a n with h | ⟨k,h1,h2,h3⟩
   ·rcases Int.le_total (minS y f i a n) (f n) with h4 | h4
    ·left; rw [Int.min_eq_left h4]; exact h
    ·right; exact ⟨n,by omega,hs,Int.min_eq_right h4⟩
   ·rcases Int.le_total (minS y f i a n) (f n) with h4 | h4
    ·right; exact ⟨k,by omega,h2,by rw [Int.min_eq_left h4]; exact h3⟩
    ·right; exact ⟨n,by omega,hs,Int.min_eq_right h4⟩
  ·rcases minS_at y f i a n with h | ⟨k,h1,h2,h3⟩
   ·exact .inl h
   ·exact .inr ⟨k,by omega,h2,h3⟩
def gain (y : TY) (f : Nat → Int) (i : Nat) : Int:=max 0 (wo y i - minS y f i 1001 y.fB.length)
def okAt (y : TY) (p : TPlan) (i : Nat) : Prop:=ga p i = 0 ∨ (0 ≤ bayI y (ga p i) ∧ suitB (oat y i) (rdL y.fB (bayI y (ga p i))) = true ∧ ∀ j,j < i → ga p j ≠ ga p i)
def sumW (y : TY) (p : TPlan) (n : Nat) : Int:=sm n fun i => if ga p i = 0 then 0 else wo y i
structure Proved (y : TY) (p : TPlan) : Prop where
 len : p.fG.length = y.fR.length
 plen : p.fPrices.length = y.fB.length
 price : ∀ k,k < y.fB.length → 0 ≤ pa p k ∧ pa p k ≤ 1000
 ok : ∀ i,i < y.fR.length → okAt y p i
 sum : sumW y p y.fR.length = p.fW
 bound : sm y.fR.length (gain y (pa p)) + sm y.fB.length (pa p) = p.fW
theorem bay_lt (y : TY) (id : Int) : bayI y id < (y.fB.length : Int):=idxI_lt_len _ _
set_option linter.unusedSimpArgs false
open Classical
theorem bayI_at {y : TY} (hG : Good y) {k : Nat} (hk : k < y.fB.length) : bayI y (bat y k).fID = (k : Int):=by
 unfold bayI bat
 rw [getD_lt hk]
 exact idxI_at hG.bayN hk
theorem bay_pos {y : TY} (hG : Good y) {k : Nat} (hk : k < y.fB.length) : 1 ≤ (bat y k).fID:=by
 have:=hG.bay y.fB[k] (List.getElem_mem hk)
 unfold bayB at this
 simp only [Bool.and_eq_true,decide_eq_true_eq] at this
 unfold bat
 rw [getD_lt hk]
 exact this.1.1
theorem PlanOf.proved {y : TY} (hG : Good y) {m : Nat → Option Nat} (hM : Mat (Su y) m) {q u : Nat → Int} (hp : Prices (Su y) (wo y) y.fB.length y.fR.length m q u) {p : TPlan} (h : PlanOf y m q p) : Proved y p:=by
 have hF:=Su.fit y
 have hgot : ∀ o k,m k = some o → ga p o = (bat y k).fID ∧ k < y.fB.length ∧ o < y.fR.length:=fun o k e => ⟨h.got o k e,hF.bay o k (hM.suit k o e),hF.ord o k (hM.suit k o e)⟩
 have hnz : ∀ o,ga p o = 0 ↔ ¬ Dom m o:=fun o => ⟨fun e ⟨k,ek⟩ => by
  obtain ⟨h1,h2,_⟩:=hgot o k ek
  have:=bay_pos hG h2
  omega,h.not o⟩
 have hpr : ∀ k,k < y.fB.length → pa p k = q k:=h.price
 have hq : ∀ k,k < y.fB.length → 0 ≤ q k ∧ q k ≤ 1000:=fun k hk => ⟨hp.q0 k,by
  cases e : m k with
  | none => rw [hp.free k e]; omega
  | some x => have h1:=hp.held k x e; have h2:=hG.worth (hgot x k e).2.2; omega⟩
 have hgain : ∀ i,i < y.fR.length → gain y (pa p) i = u i:=fun i hi => by
  have hw:=hG.worth hi
  obtain ⟨hm1,hm2⟩:=minS_le y (pa p) i 1001 y.fB.length
  have hm3:=minS_at y (pa p) i 1001 y.fB.length
  unfold gain
  by_cases hd : Dom m i
  ·obtain ⟨k,e⟩:=hd
   have hs:=hM.suit k i e
   have h1:=hp.uset k i e
   have h2:=hp.held k i e
   have h3:=hm2 k hs.2.1 hs.2.2
   rw [hpr k hs.2.1] at h3
   have h4 : q k ≤ minS y (pa p) i 1001 y.fB.length:=by
    rcases hm3 with h4 | ⟨k',hk',hs',h4⟩
    ·have:=(hq k hs.2.1).2; omega
    ·rw [h4,hpr k' hk']; exact hp.least k i k' e ⟨hi,hk',hs'⟩
   omega
  ·rw [hp.unot i hd]
   have h4 : wo y i ≤ minS y (pa p) i 1001 y.fB.length:=by
    rcases hm3 with h4 | ⟨k',hk',hs',h4⟩
    ·omega
    ·rw [h4,hpr k' hk']; exact hp.out i k' hi hd ⟨hi,hk',hs'⟩
   omega
 refine ⟨h.len,h.plen,fun k hk => by rw [hpr k hk]; exact hq k hk,fun i hi => ?_,?_,?_⟩
 ·by_cases hd : Dom m i
  ·obtain ⟨k,e⟩:=hd
   obtain ⟨h1,h2,_⟩:=hgot i k e
   refine .inr ⟨by rw [h1,bayI_at hG h2]; omega,by rw [h1,bayI_at hG h2,rdL_bat]; exact (hM.suit k i e).2.2,fun j hj ej => ?_⟩
   have hdj : Dom m j:=Classical.byContradiction fun hn => by
    have:=(hnz j).2 hn
    have:=bay_pos hG h2
    omega
   obtain ⟨k',e'⟩:=hdj
   obtain ⟨h1',h2',_⟩:=hgot j k' e'
   have h5:=bayI_at hG h2
   rw [← h1,← ej,h1',bayI_at hG h2'] at h5
   have : k' = k:=by omega
   subst this
   rw [e] at e'
   cases e'
   omega
  ·exact .inl ((hnz i).2 hd)
 ·rw [h.worth]
  unfold wor
  rw [bij hF hM (wo y)]
  refine sm_congr fun i _ => ?_
  by_cases hd : Dom m i
  ·rw [if_pos hd,if_neg fun e => (hnz i).1 e hd]
  ·rw [if_neg hd,if_pos ((hnz i).2 hd)]
 ·rw [h.worth,hp.total,sm_congr hgain,sm_congr hpr]
  exact Int.add_comm _ _
set_option linter.unusedSimpArgs false
end Go.Proofs.YthndghnkebboaaaGreat
set_option linter.unusedSimpArgs false
namespace Go.Proofs.YthndghnkebboaaaGreat
theorem sorted_put {L : List Int} (hs : SortedI L) (n : Int) (k : Nat) (hk : k ≤ L.length) (h1 : ∀ j,(hj : j < L.length) → j < k → L[j] < n) (h2 : ∀ h : k < L.length,n ≤ L[k]) : L.take k ++ [n] ++ L.drop k = srtI (L ++ [n]):=by
 refine srtI_eq ?_ ?_
 ·have e : (L.take k ++ L.drop k ++ [n]).Perm (L ++ [n]):=by rw [List.take_append_drop]
  refine List.Perm.trans ?_ e
  rw [List.append_assoc,List.append_assoc]
  exact List.perm_append_comm.append_left _
 ·have hpw:=List.pairwise_iff_getElem.1 hs
  unfold SortedI at hs ⊢
  rw [List.append_assoc,List.pairwise_append]
  refine ⟨hs.sublist (List.take_sublist _ _),?_,fun a ha b hb => ?_⟩
  ·rw [List.singleton_append,List.pairwise_cons]
   refine ⟨fun b hb => ?_,hs.sublist (List.drop_sublist _ _)⟩
   obtain ⟨j,hj,rfl⟩:=List.mem_iff_getElem.1 hb
   rw [List.getElem_drop]
   rw [List.length_drop] at hj
   have h3:=h2 (by omega)
   by_cases e : j = 0
   ·subst e; simpa using h3
   ·have:=hpw k (k + j) (by omega) (by omega) (by omega)
    omega
  ·obtain ⟨j,hj,rfl⟩:=List.mem_take_iff_getElem.1 ha
   have hlt : L[j]'(by omega) < n:=h1 j (by omega) (by omega)
   rw [List.singleton_append] at hb
   rcases List.mem_cons.1 hb with rfl | hb
   ·omega
   ·obtain ⟨i,hi,rfl⟩:=List.mem_iff_getElem.1 hb
    rw [List.getElem_drop]
    rw [List.length_drop] at hi
    have:=hpw j (k + i) (by omega) (by omega) (by omega)
    omega
theorem put_eq {L : List Int} (hl : L.length ≤ 1000000) (hs : SortedI L) (n : Int) : ref05_put L n = some (srtI (L ++ [n])):=by
 have key : ∃ t,loopO (ref05_put_l1 L n) 0 = some t ∧ ∃ k : Nat,t = (k : Int) ∧ k ≤ L.length ∧ (∀ j,(hj : j < L.length) → j < k → L[j] < n) ∧ ∀ h : k < L.length,n ≤ L[k]:=by
  refine loopO_inv (body:=ref05_put_l1 L n) (fun s => ∃ k : Nat,s = (k : Int) ∧ k ≤ L.length ∧ ∀ j,(hj : j < L.length) → j < k → L[j] < n) (fun s t => ∃ k : Nat,t = (k : Int) ∧ k ≤ L.length ∧ (∀ j,(hj : j < L.length) → j < k → L[j] < n) ∧ ∀ h : k < L.length,n ≤ L[k]) (fun s => L.length - s.toNat) (fun s hs => ?_) _ ⟨0,rfl,Nat.zero_le _,fun j hj h => by omega⟩
  obtain ⟨k,rfl,i2,i3⟩:=hs
  unfold ref05_put_l1
  by_cases hk : k < L.length
  ·rw [ite_t (by omega),gPo (by omega),rdL_nat hk,oB,w64_succ (by omega)]
   by_cases hc : L[k] < n
   ·rw [if_pos (decide_eq_true hc)]
    refine .inl ⟨_,rfl,⟨k + 1,rfl,hk,fun j hj h => ?_⟩,by omega,fun t ht => ht⟩
    by_cases e : j = k
    ·subst e; exact hc
    ·exact i3 j hj (by omega)
   ·rw [if_neg (by simp [hc])]
    exact .inr ⟨_,rfl,k,rfl,i2,i3,fun _ => by omega⟩
  ·rw [ite_f (by omega),oB,if_neg (by simp)]
   exact .inr ⟨_,rfl,k,rfl,i2,i3,fun h => absurd h hk⟩
 obtain ⟨t,t1,k,rfl,k2,k3,k4⟩:=key
 unfold ref05_put
 rw [t1,oB,gPo (by omega),Int.toNat_natCast,gPo (by omega),gPo (by omega),gPo (by omega),gPo (by omega)]
 rw [List.nil_append,sorted_put hs n k k2 k3 k4]
def picks (n : Nat) (id : Nat → Int) (P : Nat → Bool) : List Int:=(List.range n).filterMap fun k => if P k = true then some (id k) else none
theorem picks_succ (n : Nat) (id : Nat → Int) (P : Nat → Bool) : picks (n + 1) id P = if P n = true then picks n id P ++ [id n] else picks n id P:=by
 unfold picks
 rw [List.range_succ,List.filterMap_append]
 by_cases h : P n = true <;> simp [h]
theorem picks_len (n : Nat) (id : Nat → Int) (P : Nat → Bool) : (picks n id P).length ≤ n:=by
 induction n with
 | zero => simp [picks]
 | succ n ih =>
  rw [picks_succ]
  split
  ·rw [List.length_append]; simp; exact ih
  ·omega
theorem srtI_app (l : List Int) (x : Int) : srtI (srtI l ++ [x]) = srtI (l ++ [x]):=srtI_eq ((srtI_perm _).trans ((srtI_perm l).append_right [x])) (srtI_sorted _)
theorem putLoop {n : Nat} (hn : n ≤ 1000000) (id : Nat → Int) (P : Nat → Bool) {body : (Int × List Int) → Option ((Int × List Int) ⊕ (Int × List Int))} (hb : ∀ k,k < n → ∀ L : List Int,body ((k : Int),L) = if P k = true then (ref05_put L (id k)).bind fun y => some (.inl (((k + 1 : Nat) : Int),y)) else some (.inl (((k + 1 : Nat) : Int),L))) (hs : ∀ L : List Int,body ((n : Int),L) = some (.inr ((n : Int),L))) : loopO body (0,[]) = some ((n : Int),srtI (picks n id P)):=by
 have h:=loop_run (body:=body) (fun k => ((k : Int),srtI (picks k id P))) n (t:=((n : Int),srtI (picks n id P))) (fun k hk => by
  show body ((k : Int),srtI (picks k id P)) = some (Sum.inl (((k + 1 : Nat) : Int),srtI (picks (k + 1) id P)))
  rw [hb k hk,picks_succ]
  by_cases h : P k = true
  ·rw [if_pos h,if_pos h,put_eq (by rw [srtI_len]; have:=picks_len k id P; omega) (srtI_sorted _),oB,srtI_app]
  ·rw [if_neg h,if_neg h]) (hs _)
 exact h
theorem has_eq {L : List Int} (hl : L.length < 1000000000) (n : Int) : calxlaw05_has L n = some (decide (n ∈ L)):=by
 unfold calxlaw05_has
 have hrun:=loop_search (body:=calxlaw05_has_l1 L n) (fun k => (false,(k : Int))) L.length (fun k => if L.getD k 0 = n then some (Sum.inl (true,(k : Int))) else none) (t0:=.inr (false,(L.length : Int))) (fun k hk => by
  unfold calxlaw05_has_l1; dsimp only
  have eg : L.getD k 0 = L[k]:=by rw [List.getD_eq_getElem?_getD,List.getElem?_eq_getElem hk]; rfl
  rw [ite_t (by omega),gPo (by omega),rdL_nat hk,eg,w64_succ (by omega)]
  by_cases e : L[k] = n <;> simp [e]) (by
  unfold calxlaw05_has_l1; dsimp only
  rw [ite_f (by omega)])
 have h0 : loopO (calxlaw05_has_l1 L n) (false,0) = _:=hrun
 rw [h0,oB]
 rcases findSome_cases (R:=fun k => if L.getD k 0 = n then some (Sum.inl (true,(k : Int)) : (Bool × Int) ⊕ (Bool × Int)) else none) (n:=L.length) (.inr (false,(L.length : Int))) with ⟨hn,h2⟩ | ⟨k,t,hk,hR,hj,h2⟩
 ·rw [h2]
  have : n ∉ L:=fun hm => by
   obtain ⟨k,hk,e⟩:=List.mem_iff_getElem.1 hm
   have:=hn k hk
   rw [List.getD_eq_getElem?_getD,List.getElem?_eq_getElem hk] at this
   simp [e] at this
  simp [this]
 ·rw [h2]
  have hq : L.getD k 0 = n:=by
   by_cases hq : L.getD k 0 = n
   ·exact hq
   ·rw [if_neg hq] at hR; cases hR
  rw [if_pos hq] at hR
  cases hR
  have : n ∈ L:=by
   rw [List.getD_eq_getElem?_getD,List.getElem?_eq_getElem hk] at hq
   rw [← hq]
   exact List.getElem_mem hk
  simp [this]
def oid (y : TY) (k : Nat) : Int:=(oat y k).fID
set_option linter.unusedSimpArgs false
open Classical
def NeverP (y : TY) (V0 : Int) (i : Nat) : Prop:=∀ m,Mat (Su y) m → wor y.fB.length (wo y) m = V0 → ¬ Dom m i
theorem Mat.s1 {y : TY} {m : Nat → Option Nat} (hM : Mat (Su y) m) {i : Nat} (h : ¬ Dom m i) : Mat (S1 y (i : Int)) m:=⟨fun k o e => ⟨hM.suit k o e,fun h2 => h ⟨k,by rw [e]; congr 1; omega⟩⟩,hM.inj⟩
def but (m : Nat → Option Nat) (i : Nat) : Nat → Option Nat:=fun k => if m k = some i then none else m k
noncomputable def never (y : TY) (V0 : Int) : List Int:=srtI (picks y.fR.length (oid y) fun k => decide (NeverP y V0 k))
set_option linter.unusedSimpArgs false
open Classical
theorem DeleteFunc_eq {s : List Int} (hl : s.length < 1000000) {f : Int → Option Bool} (q : Int → Bool) (h : ∀ x ∈ s,f x = some (q x)) : slices_DeleteFunc_int_int s f = some (s.filter fun x => !q x):=by
 unfold slices_DeleteFunc_int_int
 rw [IndexInt_eq (by omega) h,oB]
 rcases idxI_cases s q with ⟨ha,h2⟩ | ⟨k0,hk0,hq0,hb,h2⟩
 ·rw [h2,if_pos (by rfl)]
  refine congrArg some ?_
  exact (List.filter_eq_self.2 (fun x hx => by rw [ha x hx]; rfl)).symm
 ·rw [h2,if_neg (by simp),w64_succ (by omega)]
  have key : ∃ t,loopO (slices_DeleteFunc_int_int_l1 s f) ((k0 : Int),((k0 + 1 : Nat) : Int),s) = some t ∧ ∃ i : Nat,t.1 = (i : Int) ∧ i ≤ s.length ∧ t.2.2.take i = s.filter fun x => !q x:=by
   refine loopO_inv (body:=slices_DeleteFunc_int_int_l1 s f) (fun st => ∃ i j : Nat,st.1 = (i : Int) ∧ st.2.1 = (j : Int) ∧ i < j ∧ j ≤ s.length ∧ st.2.2.length = s.length ∧ st.2.2.take i = (s.take j).filter (fun x => !q x) ∧ st.2.2.drop j = s.drop j) (fun st t => ∃ i : Nat,t.1 = (i : Int) ∧ i ≤ s.length ∧ t.2.2.take i = s.filter fun x => !q x) (fun st => ((s.length : Int) - st.2.1).toNat) (fun st hst => ?_) _ ⟨k0,k0 + 1,rfl,rfl,by omega,by omega,rfl,?_,rfl⟩
   ·obtain ⟨a,b,xs⟩:=st
    obtain ⟨i,j,i1,i2,i3,i4,i5,i6,i7⟩:=hst
    dsimp only at i1 i2 i5 i6 i7 ⊢
    subst i1 i2
    unfold slices_DeleteFunc_int_int_l1; dsimp only
    by_cases hj : j < s.length
    ·have hx : xs[j]'(by omega) = s[j]:=by
      have e1:=congrArg (fun z => z[0]?) i7
      simp only [List.getElem?_drop,Nat.add_zero] at e1
      rw [List.getElem?_eq_getElem (by omega),List.getElem?_eq_getElem hj] at e1
      exact Option.some.inj e1
     have hd : xs.drop (j + 1) = s.drop (j + 1):=by rw [← List.drop_drop,i7,List.drop_drop]
     rw [ite_t (by omega),gPo (by omega),rdL_nat (by omega : j < xs.length),hx,h _ (List.getElem_mem hj),oB,w64_succ (k:=j) (by omega)]
     cases hqj : q s[j] with
     | true =>
      rw [if_neg (by simp)]
      refine .inl ⟨_,rfl,⟨i,j + 1,rfl,rfl,by omega,by omega,i5,?_,hd⟩,by dsimp only; omega,fun t ht => ht⟩
      dsimp only
      rw [List.take_succ_eq_append_getElem hj,List.filter_append,i6]
      simp [hqj]
     | false =>
      rw [if_pos (by rfl),gPo (by omega),w64_succ (by omega),Int.toNat_natCast]
      refine .inl ⟨_,rfl,⟨i + 1,j + 1,rfl,rfl,by omega,by omega,by dsimp only; rw [List.length_set]; exact i5,?_,?_⟩,by dsimp only; omega,fun t ht => ht⟩
      ·dsimp only
       rw [List.take_succ_eq_append_getElem hj,List.filter_append,← i6,List.take_succ_eq_append_getElem (by rw [List.length_set]; omega),List.take_set_of_le (Nat.le_refl _),List.getElem_set_self]
       simp [hqj]
      ·dsimp only
       rw [List.drop_set_of_lt (by omega)]
       exact hd
    ·have ej : j = s.length:=by omega
     rw [ite_f (by omega)]
     refine .inr ⟨_,rfl,i,rfl,by omega,?_⟩
     dsimp only
     rw [i6,ej,List.take_length]
   ·dsimp only
    rw [List.take_succ_eq_append_getElem hk0,List.filter_append]
    have : ((s.take k0).filter fun x => !q x) = s.take k0:=List.filter_eq_self.2 (fun x hx => by
     obtain ⟨j,hj,rfl⟩:=List.mem_take_iff_getElem.1 hx
     rw [hb j (by omega)]
     rfl)
    rw [this]
    simp [hq0]
  obtain ⟨t,t1,i,t2,t3,t4⟩:=key
  rw [t1,oB,t2,gPo (by omega),gPo (by omega),Int.toNat_natCast,t4]
structure IdsOk (y : TY) (ids : List Int) : Prop where
 known : ∀ x ∈ ids,0 ≤ orderI y x
 strict : StrictI ids
theorem IdsOk.sub {y : TY} {a b : List Int} (h : IdsOk y a) (hs : b.Sublist a) : IdsOk y b:=⟨fun x hx => h.known x (hs.subset hx),List.Pairwise.sublist hs h.strict⟩
theorem order_lt (y : TY) (id : Int) : orderI y id < (y.fR.length : Int):=idxI_lt_len _ _
theorem order_id {y : TY} {id : Int} (h : 0 ≤ orderI y id) : (rdL y.fR (orderI y id)).fID = id:=beq_iff_eq.1 (idxI_get (q:=fun n : TO => n.fID == id) h)
theorem IdsOk.nodup {y : TY} {ids : List Int} (h : IdsOk y ids) : ids.Nodup:=List.Pairwise.imp (fun {a b} (h : a < b) => by omega) h.strict
theorem IdsOk.nums {y : TY} {ids : List Int} (h : IdsOk y ids) : Nums y.fR.length (ids.map (orderI y)):=by
 refine ⟨fun x hx => ?_,?_⟩
 ·obtain ⟨i,hi,rfl⟩:=List.mem_map.1 hx
  have h1:=h.known i hi
  have h2:=order_lt y i
  exact ⟨(orderI y i).toNat,by omega,by omega⟩
 ·refine List.pairwise_map.2 (List.Pairwise.imp_of_mem (fun {a b} ha hb (hab : a < b) e => ?_) h.strict)
  have h1:=order_id (h.known a ha)
  have h2:=order_id (h.known b hb)
  rw [e,h2] at h1
  omega
def Mt (y : TY) (ids : List Int) : Prop:=Matchable (Su y) fun x => (x : Int) ∈ ids.map (orderI y)
theorem Mt.sub {y : TY} {a b : List Int} (h : Mt y a) (hs : ∀ x ∈ b,x ∈ a) : Mt y b:=Matchable.sub h fun x hx => by
 obtain ⟨i,hi,e⟩:=List.mem_map.1 hx
 exact List.mem_map.2 ⟨i,hs i hi,e⟩
theorem all_eq {y : TY} (hB : y.fB.length ≤ 24) (hO : y.fR.length ≤ 1000) {ids : List Int} (h : IdsOk y ids) (hll : ids.length ≤ 1000) : cart_all y ids = some (decide (Mt y ids)):=by
 have hF:=Su.fit y
 have hN:=h.nums
 have hinv:=loopO_inv (body:=slices_IndexFunc_int_int__all_l1 ids y)
  (fun s => ∃ (k : Nat) (g : List (Int × Int)),s = (0,(k : Int),g) ∧ k ≤ ids.length ∧ OkG y.fB.length y.fR.length g ∧ g.length ≤ k * 24 ∧ Mat (Su y) (hold g) ∧ ∀ x,Dom (hold g) x ↔ (x : Int) ∈ (ids.take k).map (orderI y))
  (fun _ out => match out with
   | .inl u => 0 ≤ u.1 ∧ ¬ Mt y ids
   | .inr _ => Mt y ids)
  (fun s => ids.length - s.2.1.toNat) (by
   rintro _ ⟨k,g,rfl,hk,hg,hgl,hM,hd⟩
   rcases Nat.lt_or_ge k ids.length with hlt | hge
   ·have hmem : ids[k] ∈ ids:=List.getElem_mem _
    have h1:=h.known _ hmem
    have h2:=order_lt y ids[k]
    obtain ⟨o,eo⟩ : ∃ o : Nat,orderI y ids[k] = (o : Int):=⟨(orderI y ids[k]).toNat,by omega⟩
    have ho : o < y.fR.length:=by omega
    have htake : (ids.take (k + 1)).map (orderI y) = (ids.take k).map (orderI y) ++ [(o : Int)]:=by rw [List.take_succ_eq_append_getElem hlt,List.map_append]; simp [eo]
    have hnt : ¬ (o : Int) ∈ (ids.take k).map (orderI y):=fun hh => by
     have hn2 : ((ids.take (k + 1)).map (orderI y)).Nodup:=hN.once.sublist ((List.take_sublist _ _).map _)
     rw [htake,List.nodup_append] at hn2
     exact hn2.2.2 _ hh _ (by simp) rfl
    have hnd : ¬ Dom (hold g) o:=fun hh => hnt ((hd o).1 hh)
    obtain ⟨r,g',ht,hg',hgl',hcase⟩:=take_ok (y:=y) (by omega) hO ho hg (by omega) hM hnd
    have hbody : slices_IndexFunc_int_int__all_l1 ids y (0,(k : Int),g) = (if (!r) = true then some (.inr (.inl ((k : Int),(k : Int),g'))) else some (.inl (0,((k + 1 : Nat) : Int),g'))):=by
     unfold slices_IndexFunc_int_int__all_l1 cart_all_1; dsimp only
     rw [ite_t (by omega),gPo (by omega),rdL_nat hlt,order_eq (by omega),oB,eo,ht,oB,oB,w64_succ (by omega)]
    rcases hcase with ⟨rfl,hM',hd'⟩ | ⟨rfl,rfl,C,hC,hC2⟩
    ·refine .inl ⟨_,hbody,⟨k + 1,g',rfl,hlt,hg',by omega,hM',fun x => ?_⟩,by dsimp only; omega,fun t h => h⟩
     rw [hd' x,hd x,htake,List.mem_append,List.mem_singleton]
     exact or_comm.trans (or_congr Iff.rfl ⟨fun e => by rw [e],fun e => by omega⟩)
    ·refine .inr ⟨_,hbody,?_,not_matchable hF hM hC hnd hC2 (fun x hx => ?_)⟩
     ·dsimp only; omega
     ·rcases hx with rfl | ⟨k1,_,e1⟩
      ·exact List.mem_map.2 ⟨_,hmem,eo⟩
      ·obtain ⟨i,hi,e⟩:=List.mem_map.1 ((hd x).1 ⟨k1,e1⟩)
       exact List.mem_map.2 ⟨i,List.mem_of_mem_take hi,e⟩
   ·have hke : k = ids.length:=by omega
    subst hke
    refine .inr ⟨.inr (0,((ids.length : Nat) : Int),g),?_,hold g,hM,fun x => ?_⟩
    ·unfold slices_IndexFunc_int_int__all_l1; dsimp only
     rw [ite_f (by omega)]
    ·rw [hd x,List.take_length]) (0,0,[]) ⟨0,[],rfl,Nat.zero_le _,OkG.nil,by simp,by
    rw [hold_nil]
    exact ⟨⟨fun _ _ e => (by cases e),fun _ _ _ e => (by cases e)⟩,fun x => ⟨fun ⟨k,e⟩ => (by cases e),fun h => by simp at h⟩⟩⟩
 obtain ⟨out,hr,hpost⟩:=hinv
 unfold cart_all cart_index_int__all slices_IndexFunc_int_int__all
 rw [hr,oB]
 rcases out with u | u
 ·dsimp only at hpost ⊢
  rw [oB,oB,decide_eq_false (by have:=hpost.1; dsimp only; omega),decide_eq_false hpost.2]
 ·dsimp only at hpost ⊢
  rw [oB,oB,decide_eq_true (by dsimp only; omega),decide_eq_true hpost]
noncomputable def crowd (y : TY) : List Int → List Int → List Int
 | kept,[] => kept
 | kept,x :: rest => if Mt y (kept ++ rest) then crowd y (kept ++ [x]) rest else crowd y kept rest
theorem crowd_cons (y : TY) (kept : List Int) (x : Int) (rest : List Int) : crowd y kept (x :: rest) = if Mt y (kept ++ rest) then crowd y (kept ++ [x]) rest else crowd y kept rest:=by rw [crowd]
theorem crowd_nil (y : TY) (kept : List Int) : crowd y kept [] = kept:=by rw [crowd]
theorem crowd_sub {y : TY} : ∀ (rest kept : List Int),(crowd y kept rest).Sublist (kept ++ rest)
 | [],kept => by unfold crowd; rw [List.append_nil]; exact List.Sublist.refl _
 | x :: rest,kept => by
  unfold crowd
  split
  ·have:=crowd_sub (y:=y) rest (kept ++ [x])
   rw [List.append_assoc] at this
   exact this
  ·exact (crowd_sub rest kept).trans ((List.sublist_cons_self x rest).append_left kept)
theorem crowd_no {y : TY} : ∀ (rest kept : List Int),¬ Mt y (kept ++ rest) → ¬ Mt y (crowd y kept rest)
 | [],kept,h => by unfold crowd; rw [List.append_nil] at h; exact h
 | x :: rest,kept,h => by
  unfold crowd
  split
  ·refine crowd_no rest _ ?_
   rw [List.append_assoc]; exact h
  ·rename_i h2
   exact crowd_no rest kept h2
theorem crowd_min {y : TY} : ∀ (rest kept : List Int),(kept ++ rest).Nodup → (∀ x ∈ kept,Mt y ((kept ++ rest).filter fun z => z ≠ x)) → ∀ x ∈ crowd y kept rest,Mt y ((crowd y kept rest).filter fun z => z ≠ x)
 | [],kept,hn,h => by unfold crowd; rw [List.append_nil] at h; exact h
 | x :: rest,kept,hn,h => by
  unfold crowd
  split
  ·rename_i hm
   refine crowd_min rest _ (by rw [List.append_assoc]; exact hn) fun z hz => ?_
   rw [List.append_assoc]
   rcases List.mem_append.1 hz with hz | hz
   ·exact h z hz
   ·rw [List.mem_singleton.1 hz]
    refine hm.sub fun w hw => ?_
    obtain ⟨h1,h2⟩:=List.mem_filter.1 hw
    have h3 : w ≠ x:=by simpa using h2
    rcases List.mem_append.1 h1 with h1 | h1
    ·exact List.mem_append.2 (.inl h1)
    ·rcases List.mem_cons.1 h1 with h1 | h1
     ·exact absurd h1 h3
     ·exact List.mem_append.2 (.inr h1)
  ·have hs : (kept ++ rest).Sublist (kept ++ x :: rest):=(List.sublist_cons_self x rest).append_left kept
   refine crowd_min rest kept (hn.sublist hs) fun z hz => (h z hz).sub fun w hw => ?_
   obtain ⟨h1,h2⟩:=List.mem_filter.1 hw
   exact List.mem_filter.2 ⟨hs.subset h1,h2⟩
theorem filter_mid {kept rest : List Int} {x : Int} (hn : (kept ++ x :: rest).Nodup) : (kept ++ x :: rest).filter (fun z => !(z == x)) = kept ++ rest:=by
 rw [List.nodup_append] at hn
 obtain ⟨h1,h2,h3⟩:=hn
 rw [List.nodup_cons] at h2
 rw [List.filter_append,List.filter_cons]
 simp only [beq_self_eq_true,Bool.not_true,Bool.false_eq_true,if_false]
 rw [List.filter_eq_self.2 fun a ha => ?_,List.filter_eq_self.2 fun a ha => ?_]
 ·have : a ≠ x:=fun e => h2.1 (e ▸ ha)
  simp [this]
 ·have : a ≠ x:=fun e => h3 a ha x List.mem_cons_self e
  simp [this]
theorem Clone_int {l : List Int} (h : l.length ≤ 1000000000) : slices_Clone_int_int l = some l:=by
 unfold slices_Clone_int_int
 rw [gPo (by omega)]
 rfl
theorem crowd_loop {y : TY} (hB : y.fB.length ≤ 24) (hO : y.fR.length ≤ 1000) {ids : List Int} (h : IdsOk y ids) (hll : ids.length ≤ 1000) : ∃ n,loopO (cart_Crowded_l2 y ids) (0,ids) = some (n,crowd y [] ids):=by
 have hinv:=loopO_inv (body:=cart_Crowded_l2 y ids)
  (fun s => ∃ (k : Nat) (kept : List Int),s = ((k : Int),kept ++ ids.drop k) ∧ k ≤ ids.length ∧ (kept ++ ids.drop k).Sublist ids ∧ crowd y kept (ids.drop k) = crowd y [] ids)
  (fun _ out => out.2 = crowd y [] ids)
  (fun s => ids.length - s.1.toNat) (by
   rintro _ ⟨k,kept,rfl,hk,hs,hc⟩
   rcases Nat.lt_or_ge k ids.length with hlt | hge
   ·have hdr : ids.drop k = ids[k] :: ids.drop (k + 1):=List.drop_eq_getElem_cons hlt
    have hok:=h.sub hs
    have hlen:=hs.length_le
    rw [hdr] at hok hs hc hlen ⊢
    have hs2 : (kept ++ ids.drop (k + 1)).Sublist (kept ++ ids[k] :: ids.drop (k + 1)):=(List.sublist_cons_self _ _).append_left kept
    have hlen2:=hs2.length_le
    have hdel : slices_DeleteFunc_int_int (kept ++ ids[k] :: ids.drop (k + 1)) (fun x45 => cart_Crowded_1 x45 ids[k]) = some (kept ++ ids.drop (k + 1)):=by
     rw [DeleteFunc_eq (by omega) (f:=fun x45 => cart_Crowded_1 x45 ids[k]) (fun z => z == ids[k]) (fun x _ => rfl),filter_mid hok.nodup]
    have hbody : cart_Crowded_l2 y ids ((k : Int),kept ++ ids[k] :: ids.drop (k + 1)) = (if (!decide (Mt y (kept ++ ids.drop (k + 1)))) = true then some (.inl (((k + 1 : Nat) : Int),kept ++ ids.drop (k + 1))) else some (.inl (((k + 1 : Nat) : Int),kept ++ ids[k] :: ids.drop (k + 1)))):=by
     unfold cart_Crowded_l2; dsimp only
     rw [ite_t (by omega),gPo (by omega),Clone_int (by omega),oB,rdL_nat hlt,hdel,oB,all_eq hB hO (hok.sub hs2) (by omega),oB,w64_succ (by omega)]
    rw [crowd_cons] at hc
    by_cases hm : Mt y (kept ++ ids.drop (k + 1))
    ·rw [if_pos hm] at hc
     rw [decide_eq_true hm,if_neg (by simp)] at hbody
     exact .inl ⟨_,hbody,⟨k + 1,kept ++ [ids[k]],by rw [List.append_assoc]; rfl,hlt,by rw [List.append_assoc]; exact hs,hc⟩,by dsimp only; omega,fun t h => h⟩
    ·rw [if_neg hm] at hc
     rw [decide_eq_false hm,if_pos (by simp)] at hbody
     exact .inl ⟨_,hbody,⟨k + 1,kept,rfl,hlt,hs2.trans hs,hc⟩,by dsimp only; omega,fun t h => h⟩
   ·have hke : k = ids.length:=by omega
    subst hke
    rw [List.drop_length] at hc ⊢
    rw [List.append_nil]
    rw [crowd_nil] at hc
    refine .inr ⟨((ids.length : Int),kept),?_,hc⟩
    unfold cart_Crowded_l2; dsimp only
    rw [ite_f (by omega)]) (0,ids) ⟨0,[],rfl,Nat.zero_le _,by simp,by simp⟩
 obtain ⟨out,hr,hp⟩:=hinv
 exact ⟨out.1,by rw [hr,← hp]⟩
def okI (y : TY) (ids : List Int) (k : Nat) : Prop:=0 ≤ orderI y (rdL ids (k : Int)) ∧ (0 < k → rdL ids ((k - 1 : Nat) : Int) < rdL ids (k : Int))
theorem okI_iff {y : TY} {ids : List Int} : (∀ k,k < ids.length → okI y ids k) ↔ IdsOk y ids:=by
 constructor
 ·intro h
  refine ⟨fun x hx => ?_,List.pairwise_iff_getElem.2 fun i j hi hj hij => ?_⟩
  ·obtain ⟨k,hk,rfl⟩:=List.mem_iff_getElem.1 hx
   rw [← rdL_nat hk]
   exact (h k hk).1
  ·have key : ∀ d i,i + d + 1 < ids.length → rdL ids (i : Int) < rdL ids ((i + d + 1 : Nat) : Int):=by
    intro d
    induction d with
    | zero => intro i hi; exact (h (i + 1) hi).2 (by omega)
    | succ d ih =>
     intro i hi
     have h1:=ih i (by omega)
     have h2:=(h (i + d + 1 + 1) hi).2 (by omega)
     have e : i + d + 1 + 1 - 1 = i + d + 1:=by omega
     rw [e] at h2
     have e2 : i + (d + 1) + 1 = i + d + 1 + 1:=by omega
     rw [e2]
     omega
   have:=key (j - i - 1) i (by omega)
   rw [show i + (j - i - 1) + 1 = j by omega,rdL_nat hi,rdL_nat hj] at this
   exact this
 ·intro h k hk
  refine ⟨?_,fun h0 => ?_⟩
  ·rw [rdL_nat hk]; exact h.known _ (List.getElem_mem hk)
  ·rw [rdL_nat hk,rdL_nat (by omega)]
   exact List.pairwise_iff_getElem.1 h.strict _ _ _ _ (by omega)
theorem okI_cart {y : TY} {ids : List Int} {k : Nat} (hk : k < ids.length) (hl : ids.length ≤ 1000) : ((if decide (orderI y (rdL ids (k : Int)) < 0) = true then (some (true)) else ((if decide ((0 : Int) < (k : Int)) = true then (guardO ((0 : Int) ≤ w64 ((k : Int) - 1) ∧ w64 ((k : Int) - 1) < ((ids.length : Nat) : Int)) (some (decide ((rdL ids (k : Int)) ≤ (rdL ids (w64 ((k : Int) - 1))))))) else (some (false))).bind fun b17 => some (b17)))) = some (decide (¬ okI y ids k)):=by
 by_cases h1 : orderI y (rdL ids (k : Int)) < 0
 ·rw [if_pos (decide_eq_true h1)]
  refine congrArg some (Eq.symm ?_)
  exact decide_eq_true fun h => by have:=h.1; omega
 ·rw [if_neg (by simpa using h1)]
  by_cases h2 : 0 < k
  ·have ew : w64 ((k : Int) - 1) = ((k - 1 : Nat) : Int):=by rw [w64_id (by omega) (by omega)]; omega
   rw [ite_t (by omega),ew,gPo (by omega),oB]
   refine congrArg some (decide_eq_decide.2 ⟨fun h hh => ?_,fun h => ?_⟩)
   ·have:=hh.2 h2; omega
   ·by_cases hc : rdL ids (k : Int) ≤ rdL ids ((k - 1 : Nat) : Int)
    ·exact hc
    ·exact absurd ⟨by omega,fun _ => by omega⟩ h
  ·rw [ite_f (by omega),oB]
   refine congrArg some (Eq.symm ?_)
   exact decide_eq_false fun h => h ⟨by omega,fun h3 => absurd h3 h2⟩
theorem Crowded_eq {y : TY} (hG : Good y) {ids : List Int} (hll : ids.length ≤ 1000) : cart_Crowded y ids = some (if IdsOk y ids then (if Mt y ids then ([],5) else (crowd y [] ids,0)) else ([],1)):=by
 have hB:=hG.bays
 have hO:=hG.ords
 have hinv:=loopO_inv (body:=cart_Crowded_l1 y ids)
  (fun s => ∃ k : Nat,s = (0,(k : Int)) ∧ k ≤ ids.length ∧ ∀ j,j < k → okI y ids j)
  (fun _ out => match out with
   | .inl u => u.1 = 1 ∧ ¬ IdsOk y ids
   | .inr _ => IdsOk y ids)
  (fun s => ids.length - s.2.toNat) (by
   rintro _ ⟨k,rfl,hk,hok⟩
   rcases Nat.lt_or_ge k ids.length with hlt | hge
   ·have hbody : cart_Crowded_l1 y ids (0,(k : Int)) = if decide (¬ okI y ids k) = true then some (.inr (.inl (1,(k : Int)))) else some (.inl (0,((k + 1 : Nat) : Int))):=by
     unfold cart_Crowded_l1; dsimp only
     rw [ite_t (by omega),gPo (by omega),order_eq (by omega),oB,okI_cart hlt hll,oB,w64_succ (by omega)]
    by_cases h : okI y ids k
    ·rw [if_neg (by simp [h])] at hbody
     refine .inl ⟨_,hbody,⟨k + 1,rfl,hlt,fun j hj => ?_⟩,by dsimp only; omega,fun t h => h⟩
     rcases Nat.lt_or_ge j k with h2 | h2
     ·exact hok j h2
     ·rw [show j = k by omega]; exact h
    ·rw [if_pos (by simp [h])] at hbody
     exact .inr ⟨_,hbody,rfl,fun hI => h (okI_iff.2 hI k hlt)⟩
   ·have hke : k = ids.length:=by omega
    subst hke
    refine .inr ⟨.inr (0,(ids.length : Int)),?_,okI_iff.1 hok⟩
    unfold cart_Crowded_l1; dsimp only
    rw [ite_f (by omega)]) (0,0) ⟨0,rfl,Nat.zero_le _,fun j hj => by omega⟩
 obtain ⟨out,hr,hp⟩:=hinv
 unfold cart_Crowded
 rw [CheckYard_eq,yardV_zero.2 hG,oB,if_neg (by simp),hr,oB]
 rcases out with u | u
 ·dsimp only at hp ⊢
  rw [if_neg hp.2,hp.1]
 ·dsimp only at hp ⊢
  rw [if_pos hp,all_eq hB (by omega) hp hll,oB]
  by_cases hm : Mt y ids
  ·rw [decide_eq_true hm,if_pos rfl,if_pos hm]
  ·obtain ⟨n,hn⟩:=crowd_loop hB (by omega) hp hll
   rw [decide_eq_false hm,if_neg (by simp),if_neg hm,Clone_int (by omega),oB,hn]
   rfl
theorem Crowded_bad {y : TY} (h : yardV y ≠ 0) (ids : List Int) : cart_Crowded y ids = some ([],yardV y):=by
 unfold cart_Crowded
 rw [CheckYard_eq,oB,if_pos (by simpa using h)]
set_option linter.unusedSimpArgs false
theorem sanity_true : calxlaw05_sanity = some true:=by kernel_rfl
set_option linter.unusedSimpArgs false
def suitsV (y : TY) (o b : Int) : Bool × Int:=if yardV y ≠ 0 then (false,yardV y) else if orderI y o < 0 ∨ bayI y b < 0 then (false,5) else (suitB (rdL y.fR (orderI y o)) (rdL y.fB (bayI y b)),0)
theorem Suits_eq (y : TY) (o b : Int) : cart_Suits y o b = some (suitsV y o b):=by
 unfold cart_Suits suitsV
 rw [CheckYard_eq,oB]
 by_cases h0 : yardV y = 0
 ·have hG:=yardV_zero.1 h0
  have hB:=hG.bays
  have hO:=hG.ords
  rw [if_neg (by simp [h0]),if_neg (by simp [h0]),order_eq (by omega),bay_eq (by omega),oB,oB]
  have h1:=idxI_lt_len y.fR (fun n => n.fID == o)
  have h2:=bay_lt y b
  by_cases c : orderI y o < 0 ∨ bayI y b < 0
  ·rw [if_pos (by simpa using c),if_pos c]
  ·rw [if_neg (by simpa using c),if_neg c]
   have h1' : orderI y o < (y.fR.length : Int):=h1
   rw [gPo (by omega),gPo (by omega)]
   simp only [TSpan_eta,TOrder_eta,TBay_eta,suits_eq,oB]
 ·rw [if_pos (by simpa using h0),if_pos h0]
theorem yard_eq (y : TY) : calxlaw05_yard y = some (decide ((y.fB.length ≤ 9 ∨ 24 < y.fB.length ∧ y.fB.length ≤ 40) ∧ (y.fR.length ≤ 9 ∨ 24 < y.fR.length ∧ y.fR.length ≤ 40))):=by
 unfold calxlaw05_yard
 refine congrArg some ?_
 rw [Bool.eq_iff_iff]
 simp only [Bool.and_eq_true,Bool.or_eq_true,decide_eq_true_eq]
 omega
set_option linter.unusedSimpArgs false
open Classical
theorem circuit {S : Nat → Nat → Prop} {nB nO : Nat} (hF : Fit S nB nO) {A : Nat → Prop} (hA : ∀ a,A a → a < nO) (hno : ¬ Matchable S A) {x : Nat} (hx : A x) (hmin : ∀ z,A z → Matchable S fun w => A w ∧ w ≠ z) : sm nB (fun k => if ∃ a,A a ∧ S a k then 1 else 0) = sm nO (fun o => if A o then 1 else 0) - 1:=by
 obtain ⟨h,hM,hd⟩:=hmin x hx
 have hnx : ¬ Dom h x:=fun hh => ((hd x).1 hh).2 rfl
 rcases aug0 hF hM hnx with ⟨h',hM',hd'⟩ | ⟨C,hC,hxC⟩
 ·refine absurd ⟨h',hM',fun w => ?_⟩ hno
  rw [hd' w,hd w]
  exact ⟨fun hw => by rcases hw with rfl | hw; exact hx; exact hw.1,fun hw => by by_cases e : w = x; exact .inl e; exact .inr ⟨hw,e⟩⟩
 ·have hall : ∀ a,A a → a = x ∨ ∃ k,C k ∧ h k = some a:=fun a ha => by
   by_cases hh : a = x ∨ ∃ k,C k ∧ h k = some a
   ·exact hh
   ·refine absurd ?_ (not_matchable hF hM hC hnx hxC (A:=fun w => w = x ∨ ∃ k,C k ∧ h k = some w) fun w hw => hw)
    refine (hmin a ha).sub fun w hw => ⟨?_,fun e => hh (e ▸ hw)⟩
    rcases hw with rfl | ⟨k,_,e⟩
    ·exact hx
    ·exact ((hd w).1 ⟨k,e⟩).1
  have e1 : sm nB (fun k => if ∃ a,A a ∧ S a k then 1 else 0) = sm nB (fun k => ov (fun _ => 1) (h k)):=sm_congr fun k _ => by
   cases ek : h k with
   | none =>
    show (if ∃ a,A a ∧ S a k then (1 : Int) else 0) = 0
    refine if_neg ?_
    rintro ⟨a,ha,hs⟩
    have hCk : C k:=by
     rcases hall a ha with rfl | ⟨k',hk',e'⟩
     ·exact hxC k hs
     ·obtain ⟨o,eo,ho⟩:=hC.shut k' hk'
      rw [e'] at eo; cases eo
      exact ho k hs
    obtain ⟨o,eo,_⟩:=hC.shut k hCk
    rw [ek] at eo; cases eo
   | some o => exact if_pos ⟨o,((hd o).1 ⟨k,ek⟩).1,hM.suit k o ek⟩
  rw [e1,bij hF hM]
  have:=sm_upd (f:=fun o => if Dom h o then (1 : Int) else 0) (g:=fun o => if A o then (1 : Int) else 0) (hA x hx) fun w _ hw => by
   by_cases ha : A w
   ·rw [if_pos ha,if_pos ((hd w).2 ⟨ha,hw⟩)]
   ·rw [if_neg ha,if_neg fun hh => ha ((hd w).1 hh).1]
  rw [this,if_neg hnx,if_pos hx]
  omega
theorem sm_nums {n : Nat} : ∀ {L : List Int},Nums n L → sm n (fun o => if (o : Int) ∈ L then 1 else 0) = (L.length : Int)
 | [],_ => sm_zero fun i _ => if_neg (by simp)
 | x :: L,h => by
  obtain ⟨k,rfl,hk⟩:=h.nat x List.mem_cons_self
  have hn:=List.nodup_cons.1 h.once
  have ih:=sm_nums (L:=L) ⟨fun z hz => h.nat z (List.mem_cons_of_mem _ hz),hn.2⟩
  have:=sm_upd (f:=fun o : Nat => if (o : Int) ∈ L then (1 : Int) else 0) (g:=fun o : Nat => if (o : Int) ∈ (k : Int) :: L then (1 : Int) else 0) hk fun w _ hw => by
   have e : (w : Int) ∈ (k : Int) :: L ↔ (w : Int) ∈ L:=by
    rw [List.mem_cons]
    exact ⟨fun h => by rcases h with h | h; exact absurd (by omega) hw; exact h,.inr⟩
   by_cases hm : (w : Int) ∈ L
   ·rw [if_pos hm,if_pos (e.2 hm)]
   ·rw [if_neg hm,if_neg fun h => hm (e.1 h)]
  rw [this,ih,if_neg hn.1,if_pos List.mem_cons_self,List.length_cons]
  omega
theorem sm_numsP {n : Nat} {L : List Int} {A : Nat → Prop} (h : Nums n L) (hA : ∀ o,A o ↔ (o : Int) ∈ L) : sm n (fun o => if A o then 1 else 0) = (L.length : Int):=by
 rw [← sm_nums h]
 refine sm_congr fun o _ => ?_
 by_cases hh : (o : Int) ∈ L
 ·rw [if_pos hh,if_pos ((hA o).2 hh)]
 ·rw [if_neg hh,if_neg fun h => hh ((hA o).1 h)]
def anyB (y : TY) (l : List Int) (b : Nat) : Bool:=l.any fun id => suitB (rdL y.fR (orderI y id)) (bat y b)
theorem anyB_iff {y : TY} {l : List Int} (h : IdsOk y l) {b : Nat} (hb : b < y.fB.length) : anyB y l b = true ↔ ∃ a : Nat,((a : Int) ∈ l.map (orderI y)) ∧ Su y a b:=by
 unfold anyB
 rw [List.any_eq_true]
 constructor
 ·rintro ⟨id,hi,hs⟩
  have h1:=h.known id hi
  have h2:=order_lt y id
  obtain ⟨a,ea⟩ : ∃ a : Nat,orderI y id = (a : Int):=⟨(orderI y id).toNat,by omega⟩
  rw [ea,rdL_oat] at hs
  exact ⟨a,List.mem_map.2 ⟨id,hi,ea⟩,by omega,hb,hs⟩
 ·rintro ⟨a,ha,hs⟩
  obtain ⟨id,hi,e⟩:=List.mem_map.1 ha
  exact ⟨id,hi,by rw [e,rdL_oat]; exact hs.2.2⟩
theorem crowds_in {y : TY} (hG : Good y) {l : List Int} {r : List Int × Int} (hr : r.1 = l) (h : IdsOk y l) (hll : l.length ≤ 1000) {b : Nat} (hb : b < y.fB.length) (c : Bool) (n : Int) : loopO (calxlaw05_CartCrowds_l3 y r (c,n,(b : Int))) (c,false,0) = some (.inr (c,anyB y l b,(l.length : Int))):=by
 subst hr
 have hB:=hG.bays
 have hrun:=loop_run (body:=calxlaw05_CartCrowds_l3 y r (c,n,(b : Int))) (fun i => (c,(r.1.take i).any fun id => suitB (rdL y.fR (orderI y id)) (bat y b),(i : Int))) r.1.length (t:=.inr (c,anyB y r.1 b,(r.1.length : Int))) (fun i hi => by
  unfold calxlaw05_CartCrowds_l3; dsimp only
  have h1:=h.known _ (List.getElem_mem hi)
  have hs : suitsV y r.1[i] (bat y b).fID = (suitB (rdL y.fR (orderI y r.1[i])) (bat y b),0):=by
   unfold suitsV
   rw [if_neg (by rw [yardV_zero.2 hG]; simp),bayI_at hG hb,if_neg (by omega),rdL_bat]
  rw [ite_t (by omega),gPo (by omega),gPo (by omega),rdL_nat hi,rdL_bat,Suits_eq,hs,oB,if_neg (by simp),w64_succ (by omega)]
  rw [List.take_succ_eq_append_getElem hi,List.any_append]
  simp) (by
  unfold calxlaw05_CartCrowds_l3; dsimp only
  rw [ite_f (by omega),List.take_length]
  rfl)
 exact hrun
theorem crowds_out {y : TY} (hG : Good y) {l : List Int} {r : List Int × Int} (hr : r.1 = l) (h : IdsOk y l) (hll : l.length ≤ 1000) (c : Bool) : loopO (calxlaw05_CartCrowds_l2 y r) (c,0,0) = some (.inr (c,sm y.fB.length (fun b => if anyB y l b = true then 1 else 0),(y.fB.length : Int))):=by
 have hB:=hG.bays
 have hb : ∀ k,0 ≤ sm k (fun b => if anyB y l b = true then 1 else 0) ∧ sm k (fun b => if anyB y l b = true then 1 else 0) ≤ (k : Int):=by
  intro k
  induction k with
  | zero => exact ⟨Int.le_refl _,Int.le_refl _⟩
  | succ k ih =>
   have e : sm (k + 1) (fun b => if anyB y l b = true then 1 else 0) = sm k (fun b => if anyB y l b = true then 1 else 0) + (if anyB y l k = true then 1 else 0):=rfl
   rw [e]
   split <;> omega
 have hrun:=loop_run (body:=calxlaw05_CartCrowds_l2 y r) (fun k => (c,sm k (fun b => if anyB y l b = true then 1 else 0),(k : Int))) y.fB.length (t:=.inr (c,sm y.fB.length (fun b => if anyB y l b = true then 1 else 0),(y.fB.length : Int))) (fun k hk => by
  have e : sm (k + 1) (fun b => if anyB y l b = true then 1 else 0) = sm k (fun b => if anyB y l b = true then 1 else 0) + (if anyB y l k = true then 1 else 0):=rfl
  have hbk:=hb k
  have hin:=crowds_in hG hr h hll hk c (sm k (fun b => if anyB y l b = true then 1 else 0))
  rw [e]
  unfold calxlaw05_CartCrowds_l2; dsimp only
  rw [ite_t (by omega),hin,oB]
  dsimp only
  rw [w64_succ (by omega)]
  cases ha : anyB y l k with
  | true => rw [if_pos rfl,if_pos rfl,w64_id (by omega) (by omega)]
  | false => rw [if_neg (by simp),if_neg (by simp),Int.add_zero]) (by
  unfold calxlaw05_CartCrowds_l2; dsimp only
  rw [ite_f (by omega)])
 exact hrun
theorem CartCrowds_true (y : TY) (ids : List Int) (h0 : TYard_rg y) (h1 : Rg_list Rg_i64 ids) : calxlaw05_CartCrowds y ids = some true:=by
 unfold calxlaw05_CartCrowds
 rw [yard_eq,oB]
 by_cases hg : ((!decide ((y.fB.length ≤ 9 ∨ 24 < y.fB.length ∧ y.fB.length ≤ 40) ∧ (y.fR.length ≤ 9 ∨ 24 < y.fR.length ∧ y.fR.length ≤ 40))) || decide (9 < ((ids.length : Nat) : Int))) = true
 ·rw [if_pos hg,sanity_true]; rfl
 ·rw [if_neg hg]
  have hg2:=Bool.eq_false_iff.2 hg
  rw [Bool.or_eq_false_iff,Bool.not_eq_false',decide_eq_true_eq,decide_eq_false_iff_not] at hg2
  obtain ⟨hyd,hll⟩:=hg2
  by_cases hv : yardV y = 0
  ·have hG:=yardV_zero.1 hv
   have hB:=hG.bays
   rw [Crowded_eq hG (by omega),oB]
   by_cases hI : IdsOk y ids
   ·rw [if_pos hI]
    by_cases hm : Mt y ids
    ·rw [if_pos hm,if_pos (by simp),sanity_true]; rfl
    ·rw [if_neg hm,if_neg (by simp)]
     have hs:=crowd_sub (y:=y) ids []
     rw [List.nil_append] at hs
     have hno:=crowd_no (y:=y) ids [] (by rw [List.nil_append]; exact hm)
     have hmin:=crowd_min (y:=y) ids [] (by rw [List.nil_append]; exact hI.nodup) (fun x hx => (by cases hx))
     have hlen:=hs.length_le
     generalize hL : crowd y [] ids = L at hs hno hmin hlen ⊢
     have hIL:=hI.sub hs
     have hrun:=loop_run (body:=calxlaw05_CartCrowds_l1 y ids (L,0)) (fun k => (false,(k : Int))) L.length (t:=.inr (false,(L.length : Int))) (fun k hk => by
      have hs2 : (L.take k ++ L.drop (k + 1)).Sublist L:=by
       rw [← List.eraseIdx_eq_take_drop_succ]
       exact List.eraseIdx_sublist _ _
      have hl2:=hs2.length_le
      have hmt : Mt y (L.take k ++ L.drop (k + 1)):=(hmin L[k] (List.getElem_mem hk)).sub fun x hx => by
       rw [← List.eraseIdx_eq_take_drop_succ,List.mem_eraseIdx_iff_getElem] at hx
       obtain ⟨j,hj,hne,e⟩:=hx
       refine List.mem_filter.2 ⟨e ▸ List.getElem_mem _,?_⟩
       rw [← e]
       have hpw:=List.pairwise_iff_getElem.1 hIL.nodup
       have : L[j] ≠ L[k]:=by
        rcases Nat.lt_or_gt_of_ne hne with h | h
        ·exact hpw j k _ _ h
        ·exact fun e => hpw k j _ _ h e.symm
       simpa using this
      unfold calxlaw05_CartCrowds_l1; dsimp only
      rw [ite_t (by omega),w64_succ (by omega),Int.toNat_natCast,Int.toNat_natCast,gPo (by omega),gPo (by omega),gPo (by omega),gPo (by omega),List.nil_append,Crowded_eq hG (by omega),if_pos (hIL.sub hs2),if_pos hmt,oB,if_neg (by simp),gPo (by omega),rdL_nat hk,has_eq (by omega),oB,oB,if_neg (by simpa using hs.subset (List.getElem_mem hk))]) (by
      unfold calxlaw05_CartCrowds_l1; dsimp only
      rw [ite_f (by omega)])
     have h2 : loopO (calxlaw05_CartCrowds_l1 y ids (L,0)) (false,0) = _:=hrun
     rw [h2,oB]
     dsimp only
     rw [Crowded_eq hG (ids:=L) (by omega),if_pos hIL,if_neg hno,oB,crowds_out hG (l:=L) (r:=(L,0)) rfl hIL (by omega),oB]
     dsimp only
     rw [sanity_true,oB]
     have hx : ∃ x,x ∈ L:=by
      cases L with
      | nil => exact absurd ⟨fun _ => none,⟨fun _ _ e => (by cases e),fun _ _ _ e => (by cases e)⟩,fun x => ⟨fun ⟨k,e⟩ => (by cases e),fun h => by simp at h⟩⟩ hno
      | cons x l => exact ⟨x,List.mem_cons_self⟩
     obtain ⟨x,hx⟩:=hx
     have hN:=hIL.nums
     obtain ⟨a,ea,ha⟩:=hN.nat _ (List.mem_map.2 ⟨x,hx,rfl⟩)
     have hc:=circuit (Su.fit y) (A:=fun a => (a : Int) ∈ L.map (orderI y)) (fun a h => by obtain ⟨k,e,hk⟩:=hN.nat _ h; omega) hno (x:=a) (by rw [← ea]; exact List.mem_map.2 ⟨x,hx,rfl⟩) (fun z hz => by
      obtain ⟨i,hi,e⟩:=List.mem_map.1 hz
      refine Matchable.sub (hmin i hi) fun w hw => ?_
      obtain ⟨hw1,hw2⟩:=hw
      obtain ⟨i',hi',e'⟩:=List.mem_map.1 hw1
      exact List.mem_map.2 ⟨i',List.mem_filter.2 ⟨hi',by simp; exact fun e2 => hw2 (by rw [e2] at e'; omega)⟩,e'⟩)
     have hc3:=hc.trans (congrArg (· - 1) (sm_numsP (A:=fun a => (a : Int) ∈ L.map (orderI y)) hN fun _ => Iff.rfl))
     rw [List.length_map] at hc3
     have hc2 : sm y.fB.length (fun b => if anyB y L b = true then 1 else 0) = (L.length : Int) - 1:=by
      rw [← hc3]
      refine sm_congr fun b hb => ?_
      by_cases h : anyB y L b = true
      ·rw [if_pos h,if_pos ((anyB_iff hIL hb).1 h)]
      ·rw [if_neg h,if_neg fun hh => h ((anyB_iff hIL hb).2 hh)]
     rw [hc2,w64_id (by omega) (by omega)]
     simp
   ·rw [if_neg hI,if_pos (by simp),sanity_true]; rfl
  ·rw [Crowded_bad hv,oB,if_pos (by simpa using hv),sanity_true]; rfl
end Go.Proofs.YthndghnkebboaaaGreat
