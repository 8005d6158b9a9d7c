import Derived.Test.YtbblpokfbmekfaaGreatE
import Derived.KernelRfl
set_option linter.unusedVariables false
namespace Go.Proofs.YtbblpokfbmekfaaGreat
theorem loop_for {S T : Type} {body : S → Option (S ⊕ T)} (st : Nat → S) : ∀ (n : Nat),(∀ k,k < n → body (st k) = some (.inl (st (k + 1)))) → loopO body (st 0) = loopO body (st n)
 | 0,_ => rfl
 | n + 1,h => by rw [loop_for st n (fun k hk => h k (by omega)),loopO_next (h n (by omega))]
theorem loop_run {S T : Type} {body : S → Option (S ⊕ T)} (st : Nat → S) (n : Nat) {t : T} (h : ∀ k,k < n → body (st k) = some (.inl (st (k + 1)))) (hs : body (st n) = some (.inr t)) : loopO body (st 0) = some t:=by
 rw [loop_for st n h,loopO_stop hs]
theorem loop_search {S T : Type} {body : S → Option (S ⊕ T)} (st : Nat → S) (n : Nat) (R : Nat → Option T) {t0 : T} (h : ∀ k,k < n → body (st k) = some (match R k with | none => .inl (st (k + 1)) | some t => .inr t)) (hs : body (st n) = some (.inr t0)) :
  loopO body (st 0) = some (((List.range n).findSome? R).getD t0):=by
 have key : ∀ c k,k + c = n → loopO body (st k) = some (((List.range' k c).findSome? R).getD t0):=by
  intro c
  induction c with
  | zero =>
   intro k hk
   have : k = n:=by omega
   subst this
   rw [loopO_stop hs]
   rfl
  | succ c ih =>
   intro k hk
   have hb:=h k (by omega)
   rw [List.range'_succ]
   cases hR : R k with
   | none =>
    rw [hR] at hb
    rw [loopO_next hb,ih (k + 1) (by omega)]
    simp [hR]
   | some t =>
    rw [hR] at hb
    rw [loopO_stop hb]
    simp [hR]
 have:=key n 0 (by omega)
 rw [this,List.range_eq_range']
theorem ite_t {α : Type} {p : Prop} [Decidable p] {x y : α} (h : p) : (if decide p = true then x else y) = x:=by rw [if_pos (decide_eq_true h)]
theorem ite_f {α : Type} {p : Prop} [Decidable p] {x y : α} (h : ¬p) : (if decide p = true then x else y) = y:=by rw [if_neg (by rw [decide_eq_false h]; exact Bool.false_ne_true)]
theorem rdL_nat {α : Type} [Inhabited α] {xs : List α} {k : Nat} (h : k < xs.length) : rdL xs (k : Int) = xs[k]:=by
 unfold rdL
 rw [Int.toNat_natCast,List.getD_eq_getElem?_getD,List.getElem?_eq_getElem h]
 rfl
theorem w64_succ {k : Nat} (h : k < 9223372036854775807) : w64 ((k : Int) + 1) = ((k + 1 : Nat) : Int):=by
 rw [w64_id (by omega) (by omega)]; rfl
theorem findSome_cases {T : Type} {R : Nat → Option T} {n : Nat} (t0 : T) : ((∀ k,k < n → R k = none) ∧ ((List.range n).findSome? R).getD t0 = t0) ∨ ∃ k t,k < n ∧ R k = some t ∧ (∀ j,j < k → R j = none) ∧ ((List.range n).findSome? R).getD t0 = t:=by
 induction n with
 | zero => exact .inl ⟨fun k hk => by omega,rfl⟩
 | succ n ih =>
  rw [List.range_succ,List.findSome?_append]
  rcases ih with ⟨h1,h2⟩ | ⟨k,t,hk,hR,hj,h2⟩
  ·have h3 : (List.range n).findSome? R = none:=List.findSome?_eq_none_iff.2 (fun x hx => h1 x (List.mem_range.1 hx))
   rw [h3]
   cases hR : R n with
   | none => exact .inl ⟨fun k hk => by
    rcases Nat.lt_or_ge k n with h | h
    ·exact h1 k h
    ·rw [show k = n by omega]; exact hR,by simp [hR]⟩
   | some t => exact .inr ⟨n,t,by omega,hR,h1,by simp [hR]⟩
  ·refine .inr ⟨k,t,by omega,hR,hj,?_⟩
   have h3 : ((List.range n).findSome? R) = some t:=by
    cases hf : (List.range n).findSome? R with
    | none => have:=List.findSome?_eq_none_iff.1 hf k (List.mem_range.2 hk); rw [hR] at this; cases this
    | some u => rw [hf] at h2; exact congrArg some h2
   rw [h3]
   rfl
theorem search_none {T : Type} {R : Nat → Option T} {n : Nat} {t0 : T} (h : ∀ k,k < n → R k = none) : ((List.range n).findSome? R).getD t0 = t0:=by
 rw [List.findSome?_eq_none_iff.2 (fun x hx => h x (List.mem_range.1 hx))]; rfl
theorem search_some {T : Type} {R : Nat → Option T} {n : Nat} {t0 t : T} (k : Nat) (hk : k < n) (hR : R k = some t) (hj : ∀ j,j < k → R j = none) : ((List.range n).findSome? R).getD t0 = t:=by
 rcases findSome_cases (R:=R) (n:=n) t0 with ⟨h,_⟩ | ⟨k',t',hk',hR',hj',h⟩
 ·rw [h k hk] at hR; cases hR
 ·rcases Nat.lt_trichotomy k k' with h' | h' | h'
  ·rw [hj' k h'] at hR; cases hR
  ·subst h'; rw [hR] at hR'; cases hR'; exact h
  ·rw [hj k' h'] at hR'; cases hR'
def idxI {α : Type} [Inhabited α] (l : List α) (q : α → Bool) : Int:=((List.range l.length).findSome? fun k => if q (l.getD k default) = true then some (k : Int) else none).getD (-1)
theorem getD_lt {α : Type} [Inhabited α] {l : List α} {k : Nat} (h : k < l.length) : l.getD k default = l[k]:=by
 rw [List.getD_eq_getElem?_getD,List.getElem?_eq_getElem h]; rfl
theorem idxI_cases {α : Type} [Inhabited α] (l : List α) (q : α → Bool) : ((∀ x ∈ l,q x = false) ∧ idxI l q = -1) ∨ ∃ k,∃ h : k < l.length,q l[k] = true ∧ (∀ j,(hj : j < k) → q (l[j]'(by omega)) = false) ∧ idxI l q = (k : Int):=by
 unfold idxI
 rcases findSome_cases (R:=fun k => if q (l.getD k default) = true then some (k : Int) else none) (n:=l.length) (-1) with ⟨h,h2⟩ | ⟨k,t,hk,hR,hj,h2⟩
 ·refine .inl ⟨fun x hx => ?_,h2⟩
  obtain ⟨k,hk,rfl⟩:=List.mem_iff_getElem.1 hx
  have:=h k hk
  rw [getD_lt hk] at this
  cases hq : q l[k]
  ·rfl
  ·rw [hq] at this; simp at this
 ·rw [getD_lt hk] at hR
  cases hq : q l[k] with
  | false => rw [hq] at hR; simp at hR
  | true =>
   rw [hq] at hR
   simp only [if_true] at hR
   refine .inr ⟨k,hk,hq,fun j hj' => ?_,h2.trans (Option.some.inj hR).symm⟩
   have:=hj j hj'
   rw [getD_lt (by omega)] at this
   cases hq' : q (l[j]'(by omega))
   ·rfl
   ·rw [hq'] at this; simp at this
theorem idxI_ret {α : Type} [Inhabited α] (l : List α) (q : α → Bool) : (match ((List.range l.length).findSome? (fun k => if q (l.getD k default) = true then some (Sum.inl ((k : Int),(k : Int)) : (Int × Int) ⊕ (Int × Int)) else none)).getD (.inr (0,(l.length : Int))) with | .inl u => some u.1 | .inr _ => some (-1)) = some (idxI l q):=by
 unfold idxI
 rcases findSome_cases (R:=fun k => if q (l.getD k default) = true then some (Sum.inl ((k : Int),(k : Int)) : (Int × Int) ⊕ (Int × Int)) else none) (n:=l.length) (.inr (0,(l.length : Int))) with ⟨hn,h2⟩ | ⟨k,t,hk,hR,hj,h2⟩
 ·rw [h2,search_none (fun k hk => by have:=hn k hk; split at this <;> simp_all)]
 ·rw [h2]
  have hq : q (l.getD k default) = true:=by
   by_cases hq : q (l.getD k default) = true
   ·exact hq
   ·rw [if_neg hq] at hR; cases hR
  rw [if_pos hq] at hR
  cases hR
  rw [search_some k hk (by rw [if_pos hq]) (fun j hj' => by have:=hj j hj'; split at this <;> simp_all)]
theorem TNode_eta (x : TN) : TN.mk x.fID x.fLevel x.fCost = x:=rfl
theorem TClaim_eta (x : TC) : TC.mk x.fID x.fO = x:=rfl
theorem THop_eta (x : TH) : TH.mk x.fFrom x.fTo = x:=rfl
theorem IndexNode_eq {l : List TN} {f : TN → Option Bool} {q : TN → Bool} (hl : l.length < 1000000000) (h : ∀ x ∈ l,f x = some (q x)) : slices_IndexFunc_Node_Node l f = some (idxI l q):=by
 unfold slices_IndexFunc_Node_Node
 have:=loop_search (body:=slices_IndexFunc_Node_Node_l1 l f) (fun k => ((0 : Int),(k : Int))) l.length (fun k => if q (l.getD k default) = true then some (Sum.inl ((k : Int),(k : Int))) else none) (t0:=.inr (0,(l.length : Int))) (fun k hk => by
  have c1 : decide ((k : Int) < ((l.length : Nat) : Int)) = true:=decide_eq_true (by omega)
  have c2 : (0 : Int) ≤ (k : Int) ∧ (k : Int) < ((l.length : Nat) : Int):=by omega
  unfold slices_IndexFunc_Node_Node_l1; dsimp only
  simp only [c1,if_true,gPo c2,rdL_nat hk,TNode_eta,h _ (List.getElem_mem hk),oB,getD_lt hk,w64_succ (show k < 9223372036854775807 by omega)]
  cases q l[k] <;> rfl) (by
  unfold slices_IndexFunc_Node_Node_l1; dsimp only
  rw [ite_f (by omega)])
 have h0 : loopO (slices_IndexFunc_Node_Node_l1 l f) (0,0) = _:=this
 rw [h0,oB]
 exact idxI_ret l q
theorem IndexClaim_eq {l : List TC} {f : TC → Option Bool} {q : TC → Bool} (hl : l.length < 1000000000) (h : ∀ x ∈ l,f x = some (q x)) : slices_IndexFunc_Claim_Claim l f = some (idxI l q):=by
 unfold slices_IndexFunc_Claim_Claim
 have:=loop_search (body:=slices_IndexFunc_Claim_Claim_l1 l f) (fun k => ((0 : Int),(k : Int))) l.length (fun k => if q (l.getD k default) = true then some (Sum.inl ((k : Int),(k : Int))) else none) (t0:=.inr (0,(l.length : Int))) (fun k hk => by
  have c1 : decide ((k : Int) < ((l.length : Nat) : Int)) = true:=decide_eq_true (by omega)
  have c2 : (0 : Int) ≤ (k : Int) ∧ (k : Int) < ((l.length : Nat) : Int):=by omega
  unfold slices_IndexFunc_Claim_Claim_l1; dsimp only
  simp only [c1,if_true,gPo c2,rdL_nat hk,TClaim_eta,h _ (List.getElem_mem hk),oB,getD_lt hk,w64_succ (show k < 9223372036854775807 by omega)]
  cases q l[k] <;> rfl) (by
  unfold slices_IndexFunc_Claim_Claim_l1; dsimp only
  rw [ite_f (by omega)])
 have h0 : loopO (slices_IndexFunc_Claim_Claim_l1 l f) (0,0) = _:=this
 rw [h0,oB]
 exact idxI_ret l q
theorem idxI_nonneg {α : Type} [Inhabited α] {l : List α} {q : α → Bool} : 0 ≤ idxI l q ↔ ∃ x ∈ l,q x = true:=by
 rcases idxI_cases l q with ⟨h,h2⟩ | ⟨k,hk,hq,_,h2⟩
 ·rw [h2]
  exact ⟨fun h => by omega,fun ⟨x,hx,hq⟩ => by rw [h x hx] at hq; cases hq⟩
 ·rw [h2]
  exact ⟨fun _ => ⟨l[k],List.getElem_mem hk,hq⟩,fun _ => by omega⟩
theorem idxI_lt_len {α : Type} [Inhabited α] (l : List α) (q : α → Bool) : idxI l q < (l.length : Int):=by
 rcases idxI_cases l q with ⟨h,h2⟩ | ⟨k,hk,hq,_,h2⟩ <;> omega
theorem idxI_get {α : Type} [Inhabited α] {l : List α} {q : α → Bool} (h : 0 ≤ idxI l q) : q (rdL l (idxI l q)) = true:=by
 rcases idxI_cases l q with ⟨_,h2⟩ | ⟨k,hk,hq,_,h2⟩
 ·omega
 ·rw [h2,rdL_nat hk]; exact hq
theorem idxI_mem {α : Type} [Inhabited α] {l : List α} {q : α → Bool} (h : 0 ≤ idxI l q) : rdL l (idxI l q) ∈ l:=by
 rcases idxI_cases l q with ⟨_,h2⟩ | ⟨k,hk,hq,_,h2⟩
 ·omega
 ·rw [h2,rdL_nat hk]; exact List.getElem_mem hk
theorem idxI_at {α : Type} [Inhabited α] {l : List α} {f : α → Int} (hd : (l.map f).Nodup) {k : Nat} (hk : k < l.length) : idxI l (fun x => f x == f l[k]) = (k : Int):=by
 rcases idxI_cases l (fun x => f x == f l[k]) with ⟨h,_⟩ | ⟨j,hj,hq,_,h2⟩
 ·have:=h l[k] (List.getElem_mem hk); simp at this
 ·rw [h2]
  have he : f l[j] = f l[k]:=by simpa using hq
  have hpw:=List.pairwise_iff_getElem.1 hd
  rcases Nat.lt_trichotomy j k with h3 | h3 | h3
  ·have:=hpw j k (by simpa using hj) (by simpa using hk) h3
   simp only [List.getElem_map] at this
   exact absurd he this
  ·rw [h3]
  ·have:=hpw k j (by simpa using hk) (by simpa using hj) h3
   simp only [List.getElem_map] at this
   exact absurd he.symm this
theorem idxI_lt {α : Type} [Inhabited α] {l : List α} {f : α → Int} {k : Nat} (hk : k < l.length) : idxI l (fun x => f x == f l[k]) < (k : Int) ↔ ∃ j,∃ h : j < k,f (l[j]'(by omega)) = f l[k]:=by
 rcases idxI_cases l (fun x => f x == f l[k]) with ⟨h,_⟩ | ⟨j,hj,hq,hm,h2⟩
 ·have:=h l[k] (List.getElem_mem hk); simp at this
 ·rw [h2]
  have he : f l[j] = f l[k]:=by simpa using hq
  refine ⟨fun h => ⟨j,by omega,he⟩,fun ⟨i,hi,hie⟩ => ?_⟩
  rcases Nat.lt_or_ge j k with h3 | h3
  ·omega
  ·exfalso
   have:=hm i (by omega)
   rw [hie] at this
   simp at this
theorem nodup_iff_first {α : Type} [Inhabited α] {l : List α} {f : α → Int} : (∀ k,(hk : k < l.length) → ¬ idxI l (fun x => f x == f l[k]) < (k : Int)) ↔ (l.map f).Nodup:=by
 refine ⟨fun h => ?_,fun h k hk => by rw [idxI_at h hk]; omega⟩
 rw [List.Nodup,List.pairwise_iff_getElem]
 intro i j hi hj hij
 simp only [List.length_map] at hi hj
 simp only [List.getElem_map]
 intro e
 exact h j hj ((idxI_lt hj).2 ⟨i,hij,e⟩)
def nodeI (l : TL) (id : Int) : Int:=idxI l.fNo fun n => n.fID == id
def linkI (l : TL) (id : Int) : Int:=idxI l.fC fun n => n.fID == id
theorem nodeOf_eq {l : TL} (hl : l.fNo.length < 1000000000) (id : Int) : recall_nodeOf l id = some (nodeI l id):=by
 unfold recall_nodeOf
 rw [IndexNode_eq (f:=fun x3 => recall_nodeOf_1 x3 id) (q:=fun x => x.fID == id) hl (fun x _ => rfl)]
 rfl
theorem linkOf_eq {l : TL} (hl : l.fC.length < 1000000000) (id : Int) : recall_linkOf l id = some (linkI l id):=by
 unfold recall_linkOf
 rw [IndexClaim_eq (f:=fun x3 => recall_linkOf_1 x3 id) (q:=fun x => x.fID == id) hl (fun x _ => rfl)]
 rfl
theorem within_eq (n lo hi : Int) : recall_within n lo hi = some (decide (lo ≤ n ∧ n ≤ hi)):=by unfold recall_within; rw [Bool.decide_and]
theorem nodeI_nonneg {l : TL} {id : Int} : 0 ≤ nodeI l id ↔ id ∈ l.fNo.map (·.fID):=by
 unfold nodeI
 rw [idxI_nonneg,List.mem_map]
 simp
theorem linkI_nonneg {l : TL} {id : Int} : 0 ≤ linkI l id ↔ id ∈ l.fC.map (·.fID):=by
 unfold linkI
 rw [idxI_nonneg,List.mem_map]
 simp
def OkNode (n : TN) : Prop:=(1 ≤ n.fID ∧ n.fID ≤ 1099511627776) ∧ (0 ≤ n.fLevel ∧ n.fLevel ≤ 9) ∧ (0 ≤ n.fCost ∧ n.fCost ≤ 1073741824)
instance (n : TN) : Decidable (OkNode n):=by unfold OkNode; infer_instance
def lvI (l : TL) (id : Int) : Int:=(rdL l.fNo (nodeI l id)).fLevel
def OptAt (l : TL) (o : List TH) (k : Nat) : Prop:=(0 ≤ nodeI l (o.getD k default).fFrom ∧ 0 ≤ nodeI l (o.getD k default).fTo ∧ lvI l (o.getD k default).fFrom < lvI l (o.getD k default).fTo) ∧ o.getD k default ∉ o.take k
instance (l : TL) (o : List TH) (k : Nat) : Decidable (OptAt l o k):=by unfold OptAt; infer_instance
def OptsOk (l : TL) (o : List TH) : Prop:=(1 ≤ o.length ∧ o.length ≤ 4) ∧ ∀ k,k < o.length → OptAt l o k
instance (l : TL) (o : List TH) : Decidable (OptsOk l o):=by unfold OptsOk; infer_instance
theorem IndexHop_eq {s : List TH} {v : TH} (hl : s.length < 1000000000) : slices_Index_Hop_Hop s v = some (idxI s fun x => decide (v = x)):=by
 unfold slices_Index_Hop_Hop
 have:=loop_search (body:=slices_Index_Hop_Hop_l1 s v) (fun k => ((0 : Int),(k : Int))) s.length (fun k => if decide (v = s.getD k default) = true then some (Sum.inl ((k : Int),(k : Int))) else none) (t0:=.inr (0,(s.length : Int))) (fun k hk => by
  have c1 : decide ((k : Int) < ((s.length : Nat) : Int)) = true:=decide_eq_true (by omega)
  have c2 : (0 : Int) ≤ (k : Int) ∧ (k : Int) < ((s.length : Nat) : Int):=by omega
  have c3 : ((v.fFrom == (s[k]).fFrom) && (v.fTo == (s[k]).fTo)) = decide (v = s[k]):=by
   rw [Bool.eq_iff_iff]
   simp only [Bool.and_eq_true,beq_iff_eq,decide_eq_true_eq]
   cases v
   cases hs : s[k]
   simp
  unfold slices_Index_Hop_Hop_l1; dsimp only
  simp only [c1,if_true,gPo c2,rdL_nat hk,c3,getD_lt hk,w64_succ (show k < 9223372036854775807 by omega)]
  cases decide (v = s[k]) <;> rfl) (by
  unfold slices_Index_Hop_Hop_l1; dsimp only
  rw [ite_f (by omega)])
 have h0 : loopO (slices_Index_Hop_Hop_l1 s v) (0,0) = _:=this
 rw [h0,oB]
 exact idxI_ret s fun x => decide (v = x)
theorem ContainsHop_eq {s : List TH} {v : TH} (hl : s.length < 1000000000) : slices_Contains_Hop_Hop s v = some (decide (v ∈ s)):=by
 unfold slices_Contains_Hop_Hop
 rw [IndexHop_eq hl,oB]
 refine congrArg some ?_
 rw [Bool.eq_iff_iff]
 simp only [decide_eq_true_eq]
 rw [idxI_nonneg]
 simp
theorem options_eq {l : TL} (hl : l.fNo.length < 1000000000) (o : List TH) : recall_options l o = some (decide (OptsOk l o)):=by
 unfold recall_options
 rw [within_eq,oB]
 by_cases h1 : (1 : Int) ≤ ((o.length : Nat) : Int) ∧ ((o.length : Nat) : Int) ≤ 4
 ·rw [if_neg (by rw [decide_eq_true h1]; simp)]
  have hrun:=loop_search (body:=recall_options_l1 l o) (fun k => (false,(k : Int))) o.length (fun k => if OptAt l o k then none else some (Sum.inl (false,(k : Int)))) (t0:=.inr (false,(o.length : Int))) (fun k hk => by
   have c1 : decide ((k : Int) < ((o.length : Nat) : Int)) = true:=decide_eq_true (by omega)
   have c2 : (0 : Int) ≤ (k : Int) ∧ (k : Int) < ((o.length : Nat) : Int):=by omega
   have c3 : (0 : Int) ≤ (k : Int) ∧ (k : Int) ≤ ((o.length : Nat) : Int):=by omega
   unfold recall_options_l1; dsimp only
   simp only [c1,if_true,gPo c2,gPo c3,rdL_nat hk,nodeOf_eq hl,oB,THop_eta,Int.toNat_natCast,w64_succ (show k < 9223372036854775807 by omega)]
   rw [ContainsHop_eq (by rw [List.length_take]; omega)]
   have hO : OptAt l o k ↔ (0 ≤ nodeI l o[k].fFrom ∧ 0 ≤ nodeI l o[k].fTo ∧ lvI l o[k].fFrom < lvI l o[k].fTo) ∧ o[k] ∉ o.take k:=by
    unfold OptAt
    rw [getD_lt hk]
   have ba:=idxI_lt_len l.fNo (fun n => n.fID == o[k].fFrom)
   have bb:=idxI_lt_len l.fNo (fun n => n.fID == o[k].fTo)
   by_cases ha : nodeI l o[k].fFrom < 0
   ·have : ¬ OptAt l o k:=fun h => by have:=(hO.1 h).1.1; omega
    rw [if_neg this]
    simp [ha]
   ·by_cases hb : nodeI l o[k].fTo < 0
    ·have : ¬ OptAt l o k:=fun h => by have:=(hO.1 h).1.2.1; omega
     rw [if_neg this]
     simp [hb]
    ·have ha' : 0 ≤ nodeI l o[k].fFrom:=by omega
     have hb' : 0 ≤ nodeI l o[k].fTo:=by omega
     have e1 : (decide (nodeI l o[k].fFrom < 0) || decide (nodeI l o[k].fTo < 0)) = false:=by simp [ha,hb]
     rw [e1]
     rw [gPo ⟨ha',ba⟩,gPo ⟨hb',bb⟩]
     simp only [Bool.false_eq_true,if_false,oB]
     by_cases hlv : lvI l o[k].fFrom < lvI l o[k].fTo
     ·have : ¬ ((rdL l.fNo (nodeI l o[k].fTo)).fLevel ≤ (rdL l.fNo (nodeI l o[k].fFrom)).fLevel):=by unfold lvI at hlv; omega
      simp only [decide_eq_false this,Bool.false_eq_true,if_false,oB]
      by_cases hm : o[k] ∈ o.take k
      ·rw [if_neg (fun h => (hO.1 h).2 hm)]
       simp [hm]
      ·rw [if_pos (hO.2 ⟨⟨ha',hb',hlv⟩,hm⟩)]
       simp [hm]
     ·have : (rdL l.fNo (nodeI l o[k].fTo)).fLevel ≤ (rdL l.fNo (nodeI l o[k].fFrom)).fLevel:=by unfold lvI at hlv; omega
      simp only [decide_eq_true this,if_true,oB]
      rw [if_neg (fun h => hlv (hO.1 h).1.2.2)]) (by
   unfold recall_options_l1; dsimp only
   rw [ite_f (by omega)])
  have h0 : loopO (recall_options_l1 l o) (false,0) = _:=hrun
  rw [h0,oB]
  have h1' : 1 ≤ o.length ∧ o.length ≤ 4:=by omega
  rcases findSome_cases (R:=fun k => if OptAt l o k then none else some (Sum.inl (false,(k : Int)) : (Bool × Int) ⊕ (Bool × Int))) (n:=o.length) (.inr (false,(o.length : Int))) with ⟨hn,h2⟩ | ⟨k,t,hk,hR,hj,h2⟩
  ·rw [h2]
   have : OptsOk l o:=⟨h1',fun k hk => by
    have:=hn k hk
    split at this
    ·assumption
    ·cases this⟩
   simp [this]
  ·rw [h2]
   have hno : ¬ OptAt l o k:=fun h => by rw [if_pos h] at hR; cases hR
   rw [if_neg hno] at hR
   cases hR
   have : ¬ OptsOk l o:=fun h => hno (h.2 k hk)
   simp [this]
 ·rw [if_pos (by rw [decide_eq_false h1]; rfl)]
  have : ¬ OptsOk l o:=fun h => h1 (by have:=h.1; omega)
  rw [decide_eq_false this]
def errN (l : TL) (k : Nat) : Option Int:=if OkNode (l.fNo.getD k default) then (if nodeI l (l.fNo.getD k default).fID < (k : Int) then some 6 else none) else some 1
def OkClaim (l : TL) (c : TC) : Prop:=(1 ≤ c.fID ∧ c.fID ≤ 1099511627776) ∧ OptsOk l c.fO
instance (l : TL) (c : TC) : Decidable (OkClaim l c):=by unfold OkClaim; infer_instance
def errC (l : TL) (k : Nat) : Option Int:=if OkClaim l (l.fC.getD k default) then (if linkI l (l.fC.getD k default).fID < (k : Int) then some 6 else none) else some 1
def cntI (l : TL) : Nat → Int
 | 0 => 1
 | k + 1 => min (cntI l k * ((l.fC.getD k default).fO.length : Int)) 4097
def CheckS (l : TL) : Int :=
 if 60 < l.fNo.length ∨ 80 < l.fC.length then 2 else match (List.range l.fNo.length).findSome? (errN l) with
  | some e => e
  | none => match (List.range l.fC.length).findSome? (errC l) with
   | some e => e
   | none => if 4096 < cntI l l.fC.length then 2 else 0
theorem cntI_rg (l : TL) : ∀ k,0 ≤ cntI l k ∧ cntI l k ≤ 4097
 | 0 => by unfold cntI; omega
 | k + 1 => by
  have:=cntI_rg l k
  unfold cntI
  have h2 : 0 ≤ cntI l k * ((l.fC.getD k default).fO.length : Int):=Int.mul_nonneg this.1 (by omega)
  omega
theorem cntI_w {l : TL} {k : Nat} (h : (l.fC.getD k default).fO.length ≤ 4) : w64 (cntI l k * ((l.fC.getD k default).fO.length : Int)) = cntI l k * ((l.fC.getD k default).fO.length : Int):=by
 have h1:=cntI_rg l k
 have h2 : 0 ≤ cntI l k * ((l.fC.getD k default).fO.length : Int):=Int.mul_nonneg h1.1 (by omega)
 have h3 : cntI l k * ((l.fC.getD k default).fO.length : Int) ≤ 4097 * 4:=Int.mul_le_mul h1.2 (by omega) (by omega) (by omega)
 exact w64_id (by omega) (by omega)
theorem findSome_getD {T U : Type} (R : Nat → Option T) (g : Nat → T → U) (t0 : U) (n : Nat) : ((List.range n).findSome? fun k => (R k).map (g k)).getD t0 = match (List.range n).findSome? fun k => (R k).map fun t => (k,t) with | some (k,t) => g k t | none => t0:=by
 rcases findSome_cases (R:=fun k => (R k).map (g k)) (n:=n) t0 with ⟨hn,h2⟩ | ⟨k,t,hk,hR,hj,h2⟩
 ·rw [h2]
  have : (List.range n).findSome? (fun k => (R k).map fun t => (k,t)) = none:=List.findSome?_eq_none_iff.2 (fun k hk => by
   have:=hn k (List.mem_range.1 hk)
   cases hr : R k with
   | none => rfl
   | some t => rw [hr] at this; cases this)
  rw [this]
 ·rw [h2]
  cases hr : R k with
  | none => rw [hr] at hR; cases hR
  | some t1 =>
   rw [hr] at hR
   cases hR
   have : (List.range n).findSome? (fun k => (R k).map fun t => (k,t)) = some (k,t1):=by
    have h3:=search_some (R:=fun k => (R k).map fun t => (k,t)) (n:=n) (t0:=(k,t1)) k hk (t:=(k,t1)) (by rw [hr]; rfl) (fun j hj' => by
     have:=hj j hj'
     cases hr' : R j with
     | none => rfl
     | some t => rw [hr'] at this; cases this)
    cases hf : (List.range n).findSome? (fun k => (R k).map fun t => (k,t)) with
    | none =>
     have:=List.findSome?_eq_none_iff.1 hf k (List.mem_range.2 hk)
     rw [hr] at this
     cases this
    | some u => rw [hf] at h3; exact congrArg some h3
   rw [this]
theorem findSome_fst {T : Type} (R : Nat → Option T) (n : Nat) : (List.range n).findSome? R = ((List.range n).findSome? fun k => (R k).map fun t => (k,t)).map Prod.snd:=by
 induction n with
 | zero => rfl
 | succ n ih =>
  rw [List.range_succ,List.findSome?_append,List.findSome?_append,ih]
  cases (List.range n).findSome? fun k => (R k).map fun t => (k,t) with
  | some x => rfl
  | none => cases h : R n <;> simp [h]
theorem Check_eq (l : TL) : recall_Check l = some (CheckS l):=by
 unfold recall_Check CheckS
 by_cases h0 : 60 < l.fNo.length ∨ 80 < l.fC.length
 ·have h0' : (decide (60 < ((l.fNo.length : Nat) : Int)) || decide (80 < ((l.fC.length : Nat) : Int))) = true:=by
   rw [Bool.or_eq_true,decide_eq_true_eq,decide_eq_true_eq]
   omega
  rw [if_pos h0,if_pos h0']
 ·rw [if_neg h0,if_neg (by simp; omega)]
  have hn : l.fNo.length < 1000000000:=by omega
  have hc : l.fC.length < 1000000000:=by omega
  have hrun:=loop_search (body:=recall_Check_l1 l) (fun k => ((0 : Int),(k : Int))) l.fNo.length (fun k => (errN l k).map fun e => Sum.inl (e,(k : Int))) (t0:=.inr (0,(l.fNo.length : Int))) (fun k hk => by
   have c1 : decide ((k : Int) < ((l.fNo.length : Nat) : Int)) = true:=decide_eq_true (by omega)
   have c2 : (0 : Int) ≤ (k : Int) ∧ (k : Int) < ((l.fNo.length : Nat) : Int):=by omega
   unfold recall_Check_l1; dsimp only
   simp only [c1,if_true,gPo c2,rdL_nat hk,within_eq,nodeOf_eq hn,oB,w64_succ (show k < 9223372036854775807 by omega)]
   unfold errN OkNode
   rw [getD_lt hk]
   by_cases h1 : 1 ≤ l.fNo[k].fID ∧ l.fNo[k].fID ≤ 1099511627776
   ·by_cases h2 : 0 ≤ l.fNo[k].fLevel ∧ l.fNo[k].fLevel ≤ 9
    ·by_cases h3 : 0 ≤ l.fNo[k].fCost ∧ l.fNo[k].fCost ≤ 1073741824
     ·by_cases h4 : nodeI l l.fNo[k].fID < (k : Int)
      ·simp [h1,h2,h3,h4]
      ·simp [h1,h2,h3,h4]
     ·simp [h1,h2,h3]
    ·simp [h1,h2]
   ·simp [h1]) (by
   unfold recall_Check_l1; dsimp only
   rw [ite_f (by omega)])
  have e0 : loopO (recall_Check_l1 l) (0,0) = _:=hrun
  rw [e0,oB,findSome_getD (errN l) (fun k e => Sum.inl (e,(k : Int))),findSome_fst (errN l)]
  cases hN : (List.range l.fNo.length).findSome? fun k => (errN l k).map fun t => (k,t) with
  | some p => rfl
  | none =>
   dsimp only [Option.map_none]
   have hrun2:=loop_search (body:=recall_Check_l2 l) (fun k => ((0 : Int),cntI l k,(k : Int))) l.fC.length (fun k => (errC l k).map fun e => Sum.inl (e,cntI l k,(k : Int))) (t0:=.inr (0,cntI l l.fC.length,(l.fC.length : Int))) (fun k hk => by
    have c1 : decide ((k : Int) < ((l.fC.length : Nat) : Int)) = true:=decide_eq_true (by omega)
    have c2 : (0 : Int) ≤ (k : Int) ∧ (k : Int) < ((l.fC.length : Nat) : Int):=by omega
    unfold recall_Check_l2; dsimp only
    simp only [c1,if_true,gPo c2,rdL_nat hk,within_eq,linkOf_eq hc,options_eq hn,oB,w64_succ (show k < 9223372036854775807 by omega)]
    unfold errC OkClaim
    rw [getD_lt hk]
    by_cases h1 : 1 ≤ l.fC[k].fID ∧ l.fC[k].fID ≤ 1099511627776
    ·by_cases h2 : OptsOk l l.fC[k].fO
     ·by_cases h4 : linkI l l.fC[k].fID < (k : Int)
      ·simp [h1,h2,h4]
      ·have hw:=cntI_w (l:=l) (k:=k) (by rw [getD_lt hk]; exact h2.1.2)
       rw [getD_lt hk] at hw
       simp only [h1,h2,h4,and_self,decide_true,Bool.not_true,Bool.false_eq_true,if_false,oB,decide_false,hw,if_true,Option.map_none]
       show some (Sum.inl (0,min (cntI l k * (l.fC[k].fO.length : Int)) 4097,((k + 1 : Nat) : Int))) = some (Sum.inl (0,cntI l (k + 1),((k + 1 : Nat) : Int)))
       have : cntI l (k + 1) = min (cntI l k * ((l.fC.getD k default).fO.length : Int)) 4097:=rfl
       rw [this,getD_lt hk]
     ·simp [h1,h2]
    ·simp [h1]) (by
    unfold recall_Check_l2; dsimp only
    rw [ite_f (by omega)])
   have e1 : loopO (recall_Check_l2 l) (0,1,0) = _:=hrun2
   rw [e1,oB,findSome_getD (errC l) (fun k e => Sum.inl (e,cntI l k,(k : Int))),findSome_fst (errC l)]
   cases hC : (List.range l.fC.length).findSome? fun k => (errC l k).map fun t => (k,t) with
   | some p => rfl
   | none =>
    dsimp only [Option.map_none]
    by_cases h5 : 4096 < cntI l l.fC.length
    ·rw [if_pos (decide_eq_true h5),if_pos h5]
    ·rw [if_neg (by rw [decide_eq_false h5]; simp),if_neg h5]
structure OkL (l : TL) : Prop where
 nn : l.fNo.length ≤ 60
 nc : l.fC.length ≤ 80
 nodes : ∀ n ∈ l.fNo,OkNode n
 nd : (l.fNo.map (·.fID)).Nodup
 claims : ∀ c ∈ l.fC,OkClaim l c
 cd : (l.fC.map (·.fID)).Nodup
 cnt : cntI l l.fC.length ≤ 4096
theorem CheckS_0 {l : TL} : CheckS l = 0 ↔ OkL l:=by
 unfold CheckS
 by_cases h0 : 60 < l.fNo.length ∨ 80 < l.fC.length
 ·rw [if_pos h0]
  exact ⟨fun h => (by cases h),fun h => by have:=h.nn; have:=h.nc; omega⟩
 ·rw [if_neg h0]
  cases hN : (List.range l.fNo.length).findSome? (errN l) with
  | some e =>
   obtain ⟨k,hk,he⟩:=List.exists_of_findSome?_eq_some hN
   have hk':=List.mem_range.1 hk
   unfold errN at he
   rw [getD_lt hk'] at he
   refine ⟨fun h => ?_,fun h => ?_⟩
   ·dsimp only at h
    subst h
    split at he
    ·split at he <;> cases he
    ·cases he
   ·exfalso
    rw [if_pos (h.nodes _ (List.getElem_mem hk')),if_neg (show ¬ nodeI l l.fNo[k].fID < (k : Int) from nodup_iff_first.2 h.nd k hk')] at he
    cases he
  | none =>
   have hN':=List.findSome?_eq_none_iff.1 hN
   have hno : ∀ k,(hk : k < l.fNo.length) → OkNode l.fNo[k] ∧ ¬ nodeI l l.fNo[k].fID < (k : Int):=fun k hk => by
    have:=hN' k (List.mem_range.2 hk)
    unfold errN at this
    rw [getD_lt hk] at this
    split at this
    ·rename_i h1
     split at this
     ·cases this
     ·rename_i h2; exact ⟨h1,h2⟩
    ·cases this
   dsimp only
   cases hC : (List.range l.fC.length).findSome? (errC l) with
   | some e =>
    obtain ⟨k,hk,he⟩:=List.exists_of_findSome?_eq_some hC
    have hk':=List.mem_range.1 hk
    unfold errC at he
    rw [getD_lt hk'] at he
    refine ⟨fun h => ?_,fun h => ?_⟩
    ·dsimp only at h
     subst h
     split at he
     ·split at he <;> cases he
     ·cases he
    ·exfalso
     rw [if_pos (h.claims _ (List.getElem_mem hk')),if_neg (show ¬ linkI l l.fC[k].fID < (k : Int) from nodup_iff_first.2 h.cd k hk')] at he
     cases he
   | none =>
    have hC':=List.findSome?_eq_none_iff.1 hC
    have hco : ∀ k,(hk : k < l.fC.length) → OkClaim l l.fC[k] ∧ ¬ linkI l l.fC[k].fID < (k : Int):=fun k hk => by
     have:=hC' k (List.mem_range.2 hk)
     unfold errC at this
     rw [getD_lt hk] at this
     split at this
     ·rename_i h1
      split at this
      ·cases this
      ·rename_i h2; exact ⟨h1,h2⟩
     ·cases this
    dsimp only
    refine ⟨fun h => ?_,fun h => ?_⟩
    ·split at h
     ·cases h
     ·rename_i h5
      refine ⟨by omega,by omega,fun n hn => ?_,nodup_iff_first.1 (fun k hk => (hno k hk).2),fun n hn => ?_,nodup_iff_first.1 (fun k hk => (hco k hk).2),by omega⟩
      ·obtain ⟨k,hk,rfl⟩:=List.mem_iff_getElem.1 hn
       exact (hno k hk).1
      ·obtain ⟨k,hk,rfl⟩:=List.mem_iff_getElem.1 hn
       exact (hco k hk).1
    ·rw [if_neg (by have:=h.cnt; omega)]
theorem insF_l2 {n : Nat} {data0 : List Int} (h0 : data0.length = n) (hn : n < 1000000) {cmp : Int → Int → Option Int} (c : Int → Int → Int) (f : Int → Int) (S : Int → Prop) (hc : ∀ x y,S x → S y → cmp x y = some (c x y) ∧ (c x y < 0 ↔ f x < f y)) (x : Int) (hx : S x) :
  ∀ (k : Nat) (A1 T : List Int),A1.length = k → A1.length + 1 + T.length = n → (∀ y ∈ A1,S y) → ∃ B1 B2 : List Int,A1 = B1 ++ B2 ∧ loopO (slices_insertionSortCmpFunc_int_l2 data0 0 cmp) ((A1.length : Int),A1 ++ x :: T) = some ((B1.length : Int),B1 ++ x :: (B2 ++ T)) ∧ (∀ y ∈ B2,f x < f y) ∧ (∀ y,B1.getLast? = some y → ¬ f x < f y):=by
 intro k
 induction k with
 | zero =>
  intro A1 T hk hl hS
  have : A1 = []:=List.eq_nil_of_length_eq_zero hk
  subst this
  refine ⟨[],[],rfl,?_,by simp,by simp⟩
  refine loopO_stop ?_
  unfold slices_insertionSortCmpFunc_int_l2; dsimp only
  rfl
 | succ k ih =>
  intro A1 T hk hl hS
  obtain ⟨A,y,rfl⟩ : ∃ A y,A1 = A ++ [y]:=⟨A1.dropLast,A1.getLast (by intro h; rw [h] at hk; cases hk),(List.dropLast_concat_getLast _).symm⟩
  have hA : A.length = k:=by simpa using hk
  simp only [List.length_append,List.length_cons,List.length_nil] at hl
  have hy : S y:=hS y (by simp)
  have e1 : A ++ [y] ++ x :: T = A ++ y :: x :: T:=by simp
  have hi : (((A ++ [y]).length : Nat) : Int) = (A.length : Int) + 1:=by simp
  have hj1 : w64 ((((A ++ [y]).length : Nat) : Int) - 1) = (A.length : Int):=by rw [w64_id (by simp only [List.length_append,List.length_cons,List.length_nil]; omega) (by simp only [List.length_append,List.length_cons,List.length_nil]; omega)]; simp
  have r1 : rdL (A ++ [y] ++ x :: T) (((A ++ [y]).length : Nat) : Int) = x:=rdL_midI _ _ _ _ rfl
  have r2 : rdL (A ++ [y] ++ x :: T) (A.length : Int) = y:=by rw [e1]; exact rdL_midI _ _ _ _ rfl
  obtain ⟨hc1,hc2⟩:=hc x y hx hy
  have g1 : (0 : Int) ≤ (((A ++ [y]).length : Nat) : Int) ∧ (((A ++ [y]).length : Nat) : Int) < ((data0.length : Nat) : Int):=by rw [h0]; simp only [List.length_append,List.length_cons,List.length_nil]; omega
  have g2 : (0 : Int) ≤ (A.length : Int) ∧ (A.length : Int) < ((data0.length : Nat) : Int):=by rw [h0]; omega
  have hd : decide ((0 : Int) < (((A ++ [y]).length : Nat) : Int)) = true:=decide_eq_true (by rw [hi]; omega)
  have step : slices_insertionSortCmpFunc_int_l2 data0 0 cmp ((((A ++ [y]).length : Nat) : Int),A ++ [y] ++ x :: T) = if f x < f y then some (.inl ((A.length : Int),A ++ x :: ([y] ++ T))) else some (.inr ((((A ++ [y]).length : Nat) : Int),A ++ [y] ++ x :: T)):=by
   unfold slices_insertionSortCmpFunc_int_l2; dsimp only
   simp only [hj1,r1,r2,hd,if_true,gPo g1,gPo g2,hc1,oB,decide_eq_true_eq]
   by_cases hlt : f x < f y
   ·rw [if_pos (hc2.2 hlt),if_pos hlt]
    refine congrArg some (congrArg Sum.inl (Prod.ext rfl ?_))
    show ((A ++ [y] ++ x :: T).set (Int.toNat (((A ++ [y]).length : Nat) : Int)) y).set (Int.toNat (A.length : Int)) x = _
    rw [Int.toNat_natCast,Int.toNat_natCast,set_midI (A ++ [y]) x y T _ rfl]
    have e3 : A ++ [y] ++ y :: T = A ++ y :: (y :: T):=by simp
    rw [e3,set_midI A y x (y :: T) _ rfl]
    simp
   ·rw [if_neg (fun h => hlt (hc2.1 h)),if_neg hlt]
  by_cases hlt : f x < f y
  ·rw [if_pos hlt] at step
   obtain ⟨B1,B2,hB,hr,h2,h3⟩:=ih A ([y] ++ T) hA (by simp; omega) (fun z hz => hS z (by simp [hz]))
   refine ⟨B1,B2 ++ [y],by rw [hB,List.append_assoc],?_,?_,h3⟩
   ·rw [loopO_next step,hr]
    simp
   ·intro z hz
    rcases List.mem_append.1 hz with hz | hz
    ·exact h2 z hz
    ·rw [List.mem_singleton.1 hz]; exact hlt
  ·rw [if_neg hlt] at step
   refine ⟨A ++ [y],[],by simp,?_,by simp,?_⟩
   ·rw [loopO_stop step]; simp
   ·intro z hz
    simp at hz
    rw [← hz]
    exact hlt
theorem insF_all {l : List Int} (hl : l.length < 1000000) {cmp : Int → Int → Option Int} (c : Int → Int → Int) (f : Int → Int) (hc : ∀ x y,x ∈ l → y ∈ l → cmp x y = some (c x y) ∧ (c x y < 0 ↔ f x < f y)) :
  ∃ s,slices_insertionSortCmpFunc_int l 0 (l.length : Int) cmp = some s ∧ s.Perm l ∧ s.Pairwise (fun a b => f a ≤ f b):=by
 unfold slices_insertionSortCmpFunc_int
 have e1 : w64 (0 + 1) = 1:=rfl
 rw [e1]
 have main : ∀ (R A : List Int),(A ++ R).Perm l → A.Pairwise (fun a b => f a ≤ f b) → ∃ s,loopO (slices_insertionSortCmpFunc_int_l1 l 0 (l.length : Int) cmp) ((A.length : Int),A ++ R) = some ((l.length : Int),s) ∧ s.Perm l ∧ s.Pairwise (fun a b => f a ≤ f b):=by
  intro R
  induction R with
  | nil =>
   intro A hp hs
   have hlen : A.length = l.length:=by have:=hp.length_eq; simpa using this
   refine ⟨A,?_,by simpa using hp,hs⟩
   rw [List.append_nil,hlen]
   refine loopO_stop ?_
   unfold slices_insertionSortCmpFunc_int_l1; dsimp only
   rw [show decide ((l.length : Int) < (l.length : Int)) = false from decide_eq_false (by omega)]
   rfl
  | cons x T ih =>
   intro A hp hs
   have hlen : A.length + (T.length + 1) = l.length:=by have:=hp.length_eq; simpa using this
   obtain ⟨B1,B2,hB,hr,h2,h3⟩:=insF_l2 (data0:=l) rfl hl c f (fun z => z ∈ l) hc x (hp.mem_iff.1 (by simp)) A.length A T rfl (by omega) (fun y hy => hp.mem_iff.1 (by simp [hy]))
   have hstep : slices_insertionSortCmpFunc_int_l1 l 0 (l.length : Int) cmp ((A.length : Int),A ++ x :: T) = some (.inl (((B1 ++ x :: B2).length : Int),(B1 ++ x :: B2) ++ T)):=by
    unfold slices_insertionSortCmpFunc_int_l1; dsimp only
    rw [show decide ((A.length : Int) < (l.length : Int)) = true from decide_eq_true (by omega)]
    rw [if_pos rfl,hr,oB]
    have hw : w64 ((A.length : Int) + 1) = (A.length : Int) + 1:=w64_id (by omega) (by omega)
    simp only [hw]
    refine congrArg some (congrArg Sum.inl (Prod.ext ?_ ?_))
    ·simp [hB]; omega
    ·simp
   have hs' : (B1 ++ x :: B2).Pairwise (fun a b => f a ≤ f b):=by
    rw [hB,List.pairwise_append] at hs
    obtain ⟨s1,s2,s3⟩:=hs
    have hle : ∀ y ∈ B1,f y ≤ f x:=by
     intro y hy
     rcases List.eq_nil_or_concat B1 with rfl | ⟨B,z,rfl⟩
     ·cases hy
     ·have hz:=h3 z (by simp)
      rw [List.concat_eq_append] at hy s1
      rcases List.mem_append.1 hy with hy | hy
      ·rw [List.pairwise_append] at s1
       have:=s1.2.2 y hy z (by simp); omega
      ·rw [List.mem_singleton.1 hy]; omega
    rw [List.pairwise_append]
    refine ⟨s1,List.pairwise_cons.2 ⟨fun y hy => by have:=h2 y hy; omega,s2⟩,fun a ha b hb => ?_⟩
    rcases List.mem_cons.1 hb with rfl | hb
    ·exact hle a ha
    ·exact s3 a ha b hb
   have hp' : ((B1 ++ x :: B2) ++ T).Perm l:=by
    refine List.Perm.trans ?_ hp
    rw [hB]
    simp only [List.append_assoc,List.cons_append]
    exact List.Perm.append_left B1 (List.perm_middle).symm
   obtain ⟨s,h4,h5,h6⟩:=ih (B1 ++ x :: B2) hp' hs'
   exact ⟨s,by rw [loopO_next hstep]; exact h4,h5,h6⟩
 rcases l with _ | ⟨x,T⟩
 ·have : loopO (slices_insertionSortCmpFunc_int_l1 [] 0 (([] : List Int).length : Int) cmp) (1,[]) = some (1,[]):=by
   refine loopO_stop ?_
   unfold slices_insertionSortCmpFunc_int_l1
   rfl
  exact ⟨[],by rw [this]; rfl,List.Perm.refl _,List.Pairwise.nil⟩
 ·obtain ⟨s,h1,h2,h3⟩:=main T [x] (by simp) (by simp)
  have h1' : loopO (slices_insertionSortCmpFunc_int_l1 (x :: T) 0 ((x :: T).length : Int) cmp) (1,x :: T) = some (((x :: T).length : Int),s):=h1
  exact ⟨s,by rw [h1']; rfl,h2,h3⟩
theorem compare_eq (a b : Int) : cmp_Compare_int a b = some (if a < b then -1 else if b < a then 1 else 0):=by
 unfold cmp_Compare_int cmp_isNaN_int
 simp only [bne_self_eq_false,oB,Bool.false_eq_true,if_false]
 by_cases h1 : a < b
 ·simp [h1]
 ·by_cases h2 : b < a <;> simp [h1,h2]
def idxs (n : Nat) : List Int:=(List.range n).map fun k : Nat => (k : Int)
theorem levels_eq {l : TL} (hl : l.fNo.length < 20) : ∃ o,recall_levels l = some o ∧ o.Perm (idxs l.fNo.length) ∧ o.Pairwise (fun a b => (rdL l.fNo a).fLevel ≤ (rdL l.fNo b).fLevel):=by
 unfold recall_levels
 rw [gPo (by omega)]
 have hrun:=loop_run (body:=recall_levels_l1 l) (fun k => ((k : Int),(idxs k) ++ List.replicate (l.fNo.length - k) 0)) l.fNo.length (t:=((l.fNo.length : Int),idxs l.fNo.length)) (fun k hk => by
  unfold recall_levels_l1; dsimp only
  rw [Int.toNat_natCast,ite_t (by omega),gPo (by omega),w64_succ (by omega),Int.toNat_natCast]
  refine congrArg some (congrArg Sum.inl (Prod.ext rfl ?_))
  show (idxs k ++ List.replicate (l.fNo.length - k) 0).set k (k : Int) = _
  rw [show l.fNo.length - k = (l.fNo.length - (k + 1)) + 1 by omega,List.replicate_succ,set_midI _ _ _ _ _ (by simp [idxs])]
  unfold idxs
  rw [List.range_succ,List.map_append,List.append_assoc]
  rfl) (by
  unfold recall_levels_l1; dsimp only
  rw [Int.toNat_natCast,ite_f (by omega),Nat.sub_self]
  simp)
 have e0 : loopO (recall_levels_l1 l) (0,List.replicate (Int.toNat ((l.fNo.length : Nat) : Int)) 0) = some ((l.fNo.length : Int),idxs l.fNo.length):=by
  rw [Int.toNat_natCast]
  simpa [idxs] using hrun
 rw [e0,oB]
 have hmem : ∀ x ∈ idxs l.fNo.length,0 ≤ x ∧ x < ((l.fNo.length : Nat) : Int):=fun x hx => by
  obtain ⟨k,hk,rfl⟩:=List.mem_map.1 hx
  have:=List.mem_range.1 hk
  omega
 have hlen : (idxs l.fNo.length).length = l.fNo.length:=by simp [idxs]
 obtain ⟨s,h1,h2,h3⟩:=insF_all (l:=idxs l.fNo.length) (by omega) (cmp:=fun x11 x12 => recall_levels_1 x11 x12 l) (fun x y => if (rdL l.fNo x).fLevel < (rdL l.fNo y).fLevel then -1 else if (rdL l.fNo y).fLevel < (rdL l.fNo x).fLevel then 1 else 0) (fun x => (rdL l.fNo x).fLevel) (fun x y hx hy => by
  refine ⟨?_,?_⟩
  ·unfold recall_levels_1
   rw [gPo (hmem x hx),gPo (hmem y hy),compare_eq]
   rfl
  ·by_cases a1 : (rdL l.fNo x).fLevel < (rdL l.fNo y).fLevel
   ·simp [a1]
   ·by_cases a2 : (rdL l.fNo y).fLevel < (rdL l.fNo x).fLevel
    ·simp [a1,a2]
    ·simp [a1,a2])
 refine ⟨s,?_,h2,h3⟩
 unfold slices_SortStableFunc_int_int slices_stableCmpFunc_int
 have s1 : slices_stableCmpFunc_int_l1 (((idxs l.fNo.length).length : Nat) : Int) (0,20) = some (.inr (0,20)):=by
  unfold slices_stableCmpFunc_int_l1; dsimp only
  rw [gPo (decide_eq_false (by omega))]
 have s2 : slices_stableCmpFunc_int_l2 (((idxs l.fNo.length).length : Nat) : Int) (20,0,20) = some (.inr (20,0,20)):=by
  unfold slices_stableCmpFunc_int_l2; dsimp only
  rw [gPo (decide_eq_false (by omega))]
 rw [loopO_stop s1,oB]
 dsimp only
 rw [h1,oB,loopO_stop s2]
 rfl
inductive Comes (E : List TH) (F : List Int) : Int → Prop
 | base {x : Int} : x ∈ F → Comes E F x
 | step {h : TH} : Comes E F h.fFrom → h ∈ E → Comes E F h.fTo
theorem Comes.mono {E E' : List TH} {F F' : List Int} (hE : ∀ h ∈ E,h ∈ E') (hF : ∀ x ∈ F,x ∈ F') {q : Int} (h : Comes E F q) : Comes E' F' q:=by
 induction h with
 | base hx => exact .base (hF _ hx)
 | step _ hh ih => exact .step ih (hE _ hh)
def IDs (l : TL) : List Int:=l.fNo.map (·.fID)
def oO (l : TL) (i : Nat) : List TH:=(l.fC.getD i default).fO
def edgesI (o : List TH) (s : Nat → Bool) (n : Nat) : List TH:=((List.range n).filter s).map fun k => o.getD k default
def edges (l : TL) (s : Nat → Nat → Bool) (n : Nat) : List TH:=(List.range n).flatMap fun i => edgesI (oO l i) (s i) (oO l i).length
def Ed (l : TL) (s : Nat → Nat → Bool) : List TH:=edges l s l.fC.length
theorem edgesI_succ (o : List TH) (s : Nat → Bool) (n : Nat) : edgesI o s (n + 1) = edgesI o s n ++ if s n = true then [o.getD n default] else []:=by
 unfold edgesI
 rw [List.range_succ,List.filter_append,List.map_append]
 cases h : s n <;> simp [h]
theorem edges_succ (l : TL) (s : Nat → Nat → Bool) (n : Nat) : edges l s (n + 1) = edges l s n ++ edgesI (oO l n) (s n) (oO l n).length:=by
 unfold edges
 rw [List.range_succ,List.flatMap_append]
 simp
theorem edgesI_len (o : List TH) (s : Nat → Bool) : ∀ n,(edgesI o s n).length ≤ n
 | 0 => by simp [edgesI]
 | n + 1 => by
  have:=edgesI_len o s n
  rw [edgesI_succ,List.length_append]
  split <;> simp <;> omega
theorem mem_edges {l : TL} {s : Nat → Nat → Bool} {n : Nat} {h : TH} : h ∈ edges l s n ↔ ∃ i k,i < n ∧ k < (oO l i).length ∧ s i k = true ∧ (oO l i).getD k default = h:=by
 unfold edges edgesI
 simp only [List.mem_flatMap,List.mem_range,List.mem_map,List.mem_filter]
 exact ⟨fun ⟨i,hi,k,⟨hk,hs⟩,e⟩ => ⟨i,k,hi,hk,hs,e⟩,fun ⟨i,k,hi,hk,hs,e⟩ => ⟨i,hi,k,⟨hk,hs⟩,e⟩⟩
structure Small (l : TL) : Prop where
 ok : OkL l
 n12 : l.fNo.length ≤ 12
 c12 : l.fC.length ≤ 12
theorem optsOf_ok {l : TL} (h : OkL l) {i : Nat} (hi : i < l.fC.length) : OptsOk l (oO l i):=by
 unfold oO
 rw [getD_lt hi]
 exact (h.claims _ (List.getElem_mem hi)).2
theorem opt_ok {l : TL} (h : OkL l) {i k : Nat} (hi : i < l.fC.length) (hk : k < (oO l i).length) : ((oO l i).getD k default).fFrom ∈ IDs l ∧ ((oO l i).getD k default).fTo ∈ IDs l ∧ lvI l ((oO l i).getD k default).fFrom < lvI l ((oO l i).getD k default).fTo:=by
 obtain ⟨⟨a,b,c⟩,_⟩:=(optsOf_ok h hi).2 k hk
 exact ⟨nodeI_nonneg.1 a,nodeI_nonneg.1 b,c⟩
theorem edge_ok {l : TL} (h : OkL l) {s : Nat → Nat → Bool} {n : Nat} (hn : n ≤ l.fC.length) {x : TH} (hx : x ∈ edges l s n) : x.fFrom ∈ IDs l ∧ x.fTo ∈ IDs l ∧ lvI l x.fFrom < lvI l x.fTo:=by
 obtain ⟨i,k,hi,hk,_,rfl⟩:=mem_edges.1 hx
 exact opt_ok h (by omega) hk
theorem edges_len {l : TL} (h : OkL l) {s : Nat → Nat → Bool} : ∀ {n : Nat},n ≤ l.fC.length → (edges l s n).length ≤ 4 * n
 | 0,_ => by simp [edges]
 | n + 1,hn => by
  have:=edges_len h (s:=s) (n:=n) (by omega)
  have h2:=(optsOf_ok h (i:=n) (by omega)).1.2
  have h3:=edgesI_len (oO l n) (s n) (oO l n).length
  rw [edges_succ,List.length_append]
  omega
theorem id_rg {l : TL} (h : OkL l) {x : Int} (hx : x ∈ IDs l) : 1 ≤ x ∧ x ≤ 1099511627776:=by
 obtain ⟨n,hn,rfl⟩:=List.mem_map.1 hx
 exact (h.nodes n hn).1
theorem rngB_i {x : Int} (h1 : -9223372036854775808 ≤ x) (h2 : x ≤ 9223372036854775807) : rngB x = true:=by
 unfold rngB
 rw [decide_eq_true h1,decide_eq_true h2]; rfl
theorem id_rngB {l : TL} (h : OkL l) {x : Int} (hx : x ∈ IDs l) : rngB x = true:=by
 have:=id_rg h hx
 exact rngB_i (by omega) (by omega)
def stepN (m : List (Int × List Int)) (h : TH) : List (Int × List Int):=(h.fFrom,mgetV [] m h.fFrom ++ [h.fTo]) :: m
def nextM (E : List TH) : List (Int × List Int):=E.foldl stepN []
def tgt (E : List TH) (a : Int) : List Int:=(E.filter fun h => decide (h.fFrom = a)).map (·.fTo)
theorem nextM_snoc (E : List TH) (h : TH) : nextM (E ++ [h]) = stepN (nextM E) h:=by simp [nextM]
theorem snoc_ind {α : Type} {P : List α → Prop} (h0 : P []) (h1 : ∀ l x,P l → P (l ++ [x])) (l : List α) : P l:=by
 have : ∀ n (l : List α),l.length = n → P l:=by
  intro n
  induction n with
  | zero => intro l hl; rw [List.eq_nil_of_length_eq_zero hl]; exact h0
  | succ n ih =>
   intro l hl
   rcases List.eq_nil_or_concat l with rfl | ⟨l',x,rfl⟩
   ·exact h0
   ·rw [List.concat_eq_append]; exact h1 _ _ (ih _ (by simpa using hl))
 exact this _ l rfl
theorem nextM_get (E : List TH) : ∀ a,mgetV [] (nextM E) a = tgt E a:=by
 refine snoc_ind (P:=fun E => ∀ a,mgetV [] (nextM E) a = tgt E a) (fun a => rfl) (fun E h ih a => ?_) E
 rw [nextM_snoc]
 unfold stepN
 rw [mget_cons,ih,ih]
 unfold tgt
 rw [List.filter_append,List.map_append]
 by_cases e : h.fFrom = a
 ·subst e; simp
 ·simp [e]
theorem nextM_len (E : List TH) : (nextM E).length = E.length:=by
 refine snoc_ind (P:=fun E => (nextM E).length = E.length) rfl (fun E h ih => ?_) E
 rw [nextM_snoc]
 simp [stepN,ih]
theorem tgt_len (E : List TH) (a : Int) : (tgt E a).length ≤ E.length:=by
 unfold tgt
 rw [List.length_map]
 exact List.length_filter_le _ _
theorem mem_tgt {E : List TH} {a b : Int} : b ∈ tgt E a ↔ ∃ h ∈ E,h.fFrom = a ∧ h.fTo = b:=by
 unfold tgt
 simp only [List.mem_map,List.mem_filter,decide_eq_true_eq]
 exact ⟨fun ⟨h,⟨a,b⟩,c⟩ => ⟨h,a,b,c⟩,fun ⟨h,a,b,c⟩ => ⟨h,⟨a,b⟩,c⟩⟩
theorem reach_l1_eq {l : TL} (h : Small l) {p2 : Int → Int → Option Bool} {s : Nat → Nat → Bool} (hso : ∀ i k : Nat,i < l.fC.length → k < (oO l i).length → p2 (i : Int) (k : Int) = some (s i k)) : loopO (recall_reach_l1 l p2) (0,[]) = some ((l.fC.length : Int),nextM (Ed l s)):=by
 have hc:=h.c12
 refine loop_run (body:=recall_reach_l1 l p2) (fun i => ((i : Int),nextM (edges l s i))) l.fC.length (fun i hi => ?_) ?_
 ·unfold recall_reach_l1; dsimp only
  have ho : (rdL l.fC (i : Int)).fO = oO l i:=by rw [rdL_nat hi]; unfold oO; rw [getD_lt hi]
  rw [ite_t (by omega),gPo (by omega)]
  have hlen:=(optsOf_ok h.ok hi).1.2
  have hel:=edges_len h.ok (s:=s) (n:=i) (by omega)
  have hrun:=loop_run (body:=recall_reach_l2 l p2 ((i : Int),nextM (edges l s i))) (fun k => ((k : Int),nextM (edges l s i ++ edgesI (oO l i) (s i) k))) (oO l i).length (t:=(((oO l i).length : Int),nextM (edges l s i ++ edgesI (oO l i) (s i) (oO l i).length))) (fun k hk => by
   unfold recall_reach_l2; dsimp only
   rw [ho,ite_t (by omega),gPo (by omega),hso i k hi hk,oB,edgesI_succ]
   have hrd : rdL (oO l i) (k : Int) = (oO l i).getD k default:=by rw [rdL_nat hk,getD_lt hk]
   cases hs : s i k with
   | false => simp [w64_succ (show k < 9223372036854775807 by omega)]
   | true =>
    have hr:=id_rngB h.ok (opt_ok h.ok hi hk).1
    have hlk:=edgesI_len (oO l i) (s i) k
    have hL : (edges l s i ++ edgesI (oO l i) (s i) k).length ≤ 100:=by rw [List.length_append]; omega
    have ht:=tgt_len (edges l s i ++ edgesI (oO l i) (s i) k) ((oO l i).getD k default).fFrom
    simp only [if_true]
    rw [hrd,gPo hr,gPo (by rw [nextM_get]; omega),gPo ⟨hr,by rw [nextM_len]; omega⟩,← List.append_assoc,nextM_snoc,w64_succ (by omega)]
    rfl) (by
   unfold recall_reach_l2; dsimp only
   rw [ho,ite_f (by omega)])
  have e0 : loopO (recall_reach_l2 l p2 ((i : Int),nextM (edges l s i))) (0,nextM (edges l s i)) = some (((oO l i).length : Int),nextM (edges l s i ++ edgesI (oO l i) (s i) (oO l i).length)):=by
   have : edges l s i ++ edgesI (oO l i) (s i) 0 = edges l s i:=by simp [edgesI]
   simp only [this] at hrun
   exact hrun
  rw [e0,oB,edges_succ,w64_succ (by omega)]
 ·unfold recall_reach_l1; dsimp only
  rw [ite_f (by omega)]
  rfl
def addAll (m : List (Int × Bool)) (xs : List Int) : List (Int × Bool):=xs.foldl (fun m x => (x,true) :: m) m
theorem addAll_snoc (m : List (Int × Bool)) (xs : List Int) (x : Int) : addAll m (xs ++ [x]) = (x,true) :: addAll m xs:=by simp [addAll]
theorem addAll_len (m : List (Int × Bool)) (xs : List Int) : (addAll m xs).length = m.length + xs.length:=by
 refine snoc_ind (P:=fun xs => (addAll m xs).length = m.length + xs.length) (by simp [addAll]) (fun xs x ih => ?_) xs
 rw [addAll_snoc]
 simp [ih]
 omega
theorem addAll_get (m : List (Int × Bool)) (xs : List Int) (q : Int) : mgetV false (addAll m xs) q = true ↔ q ∈ xs ∨ mgetV false m q = true:=by
 refine snoc_ind (P:=fun xs => mgetV false (addAll m xs) q = true ↔ q ∈ xs ∨ mgetV false m q = true) (by simp [addAll]) (fun xs x ih => ?_) xs
 rw [addAll_snoc,mget_cons]
 by_cases e : x = q
 ·subst e; simp
 ·rw [if_neg e,ih]
  simp only [List.mem_append,List.mem_singleton]
  have : ¬ q = x:=fun h => e h.symm
  simp [this]
theorem addAll_mem {m : List (Int × Bool)} {xs : List Int} {p : Int × Bool} (h : p ∈ addAll m xs) : (p.1 ∈ xs ∧ p.2 = true) ∨ p ∈ m:=by
 revert h
 refine snoc_ind (P:=fun xs => p ∈ addAll m xs → (p.1 ∈ xs ∧ p.2 = true) ∨ p ∈ m) (fun h => .inr h) (fun xs x ih h => ?_) xs
 rw [addAll_snoc] at h
 rcases List.mem_cons.1 h with rfl | h
 ·simp
 ·rcases ih h with h | h
  ·exact .inl ⟨by simp [h.1],h.2⟩
  ·exact .inr h
theorem addLoop {body : (Int × List (Int × Bool)) → Option ((Int × List (Int × Bool)) ⊕ (Int × List (Int × Bool)))} {xs : List Int} {m : List (Int × Bool)} (h : ∀ k,(hk : k < xs.length) → body ((k : Int),addAll m (xs.take k)) = some (.inl (((k + 1 : Nat) : Int),(xs[k],true) :: addAll m (xs.take k)))) (hs : body ((xs.length : Int),addAll m xs) = some (.inr ((xs.length : Int),addAll m xs))) :
  loopO body (0,m) = some ((xs.length : Int),addAll m xs):=by
 have:=loop_run (body:=body) (fun k => ((k : Int),addAll m (xs.take k))) xs.length (t:=((xs.length : Int),addAll m xs)) (fun k hk => by
  rw [h k hk,List.take_succ_eq_append_getElem hk,addAll_snoc]) (by rw [List.take_length]; exact hs)
 simpa [addAll] using this
structure SetP (l : TL) (m : List (Int × Bool)) (Q : Int → Prop) : Prop where
 get : ∀ q,mgetV false m q = true ↔ Q q
 key : ∀ p ∈ m,p.1 ∈ IDs l ∧ p.2 = true
def nid (l : TL) (i : Int) : Int:=(rdL l.fNo i).fID
def proc1 (l : TL) (E : List TH) (m : List (Int × Bool)) (i : Int) : List (Int × Bool):=if mgetV false m (nid l i) = true then addAll m (tgt E (nid l i)) else m
def procL (l : TL) (E : List TH) (m : List (Int × Bool)) (o : List Int) : List (Int × Bool):=o.foldl (proc1 l E) m
theorem proc1_get {l : TL} {E : List TH} {m : List (Int × Bool)} {i q : Int} : mgetV false (proc1 l E m i) q = true ↔ mgetV false m q = true ∨ (mgetV false m (nid l i) = true ∧ ∃ h ∈ E,h.fFrom = nid l i ∧ h.fTo = q):=by
 unfold proc1
 by_cases h : mgetV false m (nid l i) = true
 ·rw [if_pos h,addAll_get,mem_tgt]
  exact ⟨fun h' => h'.elim (fun a => .inr ⟨h,a⟩) .inl,fun h' => h'.elim .inr (fun a => .inl a.2)⟩
 ·rw [if_neg h]
  exact ⟨.inl,fun h' => h'.elim id (fun a => absurd a.1 h)⟩
theorem procL_mono {l : TL} {E : List TH} {q : Int} : ∀ {o : List Int} {m : List (Int × Bool)},mgetV false m q = true → mgetV false (procL l E m o) q = true
 | [],_,h => h
 | i :: o,m,h => procL_mono (o:=o) (m:=proc1 l E m i) (proc1_get.2 (.inl h))
theorem procL_sound {l : TL} {E : List TH} {F : List Int} {q : Int} : ∀ {o : List Int} {m : List (Int × Bool)},(∀ q,mgetV false m q = true → Comes E F q) → mgetV false (procL l E m o) q = true → Comes E F q
 | [],_,hm,h => hm _ h
 | i :: o,m,hm,h => procL_sound (o:=o) (m:=proc1 l E m i) (fun q hq => by
   rcases proc1_get.1 hq with hq | ⟨h1,x,hx,e1,e2⟩
   ·exact hm _ hq
   ·rw [← e2]
    exact .step (e1 ▸ hm _ h1) hx) h
theorem procL_closed {l : TL} {E : List TH} (lv : Int → Int) (hE : ∀ h ∈ E,lv h.fFrom < lv h.fTo) : ∀ {o : List Int} {m : List (Int × Bool)} (D : Int → Prop),o.Pairwise (fun a b => lv (nid l a) ≤ lv (nid l b)) → (∀ a,D a → ∀ i ∈ o,lv a ≤ lv (nid l i)) →
  (∀ a,D a → mgetV false m a = true → ∀ h ∈ E,h.fFrom = a → mgetV false m h.fTo = true) →
  ∀ a,(D a ∨ ∃ i ∈ o,nid l i = a) → mgetV false (procL l E m o) a = true → ∀ h ∈ E,h.fFrom = a → mgetV false (procL l E m o) h.fTo = true
 | [],m,D,_,_,hD,a,ha,hm,h,hh,e => by
  rcases ha with ha | ⟨i,hi,_⟩
  ·exact hD a ha hm h hh e
  ·cases hi
 | i :: o,m,D,hs,hl,hD,a,ha,hm,h,hh,e => by
  rw [List.pairwise_cons] at hs
  refine procL_closed lv hE (o:=o) (m:=proc1 l E m i) (fun x => D x ∨ x = nid l i) hs.2 (fun x hx j hj => ?_) (fun x hx hmx y hy ey => ?_) a ?_ hm h hh e
  ·rcases hx with hx | rfl
   ·exact hl x hx j (List.mem_cons_of_mem _ hj)
   ·exact hs.1 j hj
  ·have hlx : lv x ≤ lv (nid l i):=by
    rcases hx with hx | rfl
    ·exact hl x hx i (List.mem_cons_self)
    ·omega
   have hmx' : mgetV false m x = true:=by
    rcases proc1_get.1 hmx with h1 | ⟨_,z,hz,e1,e2⟩
    ·exact h1
    ·have:=hE z hz
     rw [e1,e2] at this
     omega
   rcases hx with hx | rfl
   ·exact proc1_get.2 (.inl (hD x hx hmx' y hy ey))
   ·exact proc1_get.2 (.inr ⟨hmx',y,hy,ey,rfl⟩)
  ·rcases ha with ha | ⟨j,hj,rfl⟩
   ·exact .inl (.inl ha)
   ·rcases List.mem_cons.1 hj with rfl | hj
    ·exact .inl (.inr rfl)
    ·exact .inr ⟨j,hj,rfl⟩
theorem procL_len {l : TL} {E : List TH} : ∀ (o : List Int) (m : List (Int × Bool)),(procL l E m o).length ≤ m.length + o.length * E.length
 | [],m => by simp [procL]
 | i :: o,m => by
  have h1:=procL_len (l:=l) (E:=E) o (proc1 l E m i)
  have h2 : (proc1 l E m i).length ≤ m.length + E.length:=by
   unfold proc1
   split
   ·rw [addAll_len]
    have:=tgt_len E (nid l i)
    omega
   ·omega
  have h3 : (i :: o).length * E.length = o.length * E.length + E.length:=by rw [List.length_cons,Nat.succ_mul]
  rw [h3]
  show (procL l E (proc1 l E m i) o).length ≤ _
  omega
theorem procL_mem {l : TL} {E : List TH} {p : Int × Bool} : ∀ (o : List Int) (m : List (Int × Bool)),p ∈ procL l E m o → p ∈ m ∨ (p.2 = true ∧ ∃ h ∈ E,h.fTo = p.1)
 | [],m,h => .inl h
 | i :: o,m,h => by
  rcases procL_mem o (proc1 l E m i) h with h | h
  ·unfold proc1 at h
   split at h
   ·rcases addAll_mem h with ⟨h1,h2⟩ | h
    ·obtain ⟨x,hx,_,e⟩:=mem_tgt.1 h1
     exact .inr ⟨h2,x,hx,e⟩
    ·exact .inl h
   ·exact .inl h
  ·exact .inr h
theorem nodes_lv {l : TL} (h : OkL l) {i : Int} (h0 : 0 ≤ i) (h1 : i < l.fNo.length) : lvI l (nid l i) = (rdL l.fNo i).fLevel:=by
 obtain ⟨k,rfl⟩:=Int.eq_ofNat_of_zero_le h0
 have hk : k < l.fNo.length:=by omega
 unfold lvI nid nodeI
 rw [rdL_nat hk,idxI_at h.nd hk,rdL_nat hk]
theorem reach_eq {l : TL} (h : Small l) {F : List Int} (hF : ∀ x ∈ F,x ∈ IDs l) (hFl : F.length ≤ 1000) {p2 : Int → Int → Option Bool} {s : Nat → Nat → Bool} (hso : ∀ i k : Nat,i < l.fC.length → k < (oO l i).length → p2 (i : Int) (k : Int) = some (s i k)) :
  ∃ m,rcR l F p2 = some m ∧ SetP l m (Comes (Ed l s) F) ∧ m.length ≤ F.length + 12 * (Ed l s).length:=by
 obtain ⟨o,ho,hp,hs⟩:=levels_eq (l:=l) (by have:=h.n12; omega)
 have hon : ∀ i ∈ o,0 ≤ i ∧ i < (l.fNo.length : Int):=fun i hi => by
  have:=hp.mem_iff.1 hi
  simp only [idxs,List.mem_map,List.mem_range] at this
  obtain ⟨k,hk,rfl⟩:=this
  omega
 have hol : o.length = l.fNo.length:=by rw [hp.length_eq]; simp [idxs]
 have hidn : ∀ i ∈ o,nid l i ∈ IDs l:=fun i hi => by
  obtain ⟨h0,h1⟩:=hon i hi
  obtain ⟨k,rfl⟩:=Int.eq_ofNat_of_zero_le h0
  have hk : k < l.fNo.length:=by omega
  unfold nid IDs
  rw [rdL_nat hk]
  exact List.mem_map.2 ⟨_,List.getElem_mem hk,rfl⟩
 have hEl:=edges_len h.ok (s:=s) (Nat.le_refl l.fC.length)
 have hE:=fun x hx => edge_ok h.ok (s:=s) (Nat.le_refl l.fC.length) (x:=x) hx
 have h12:=h.n12
 have hc12:=h.c12
 change (Ed l s).length ≤ _ at hEl
 refine ⟨procL l (Ed l s) (addAll [] F) o,?_,⟨fun q => ⟨fun hq => ?_,fun hq => ?_⟩,fun p hp => ?_⟩,?_⟩
 ·unfold rcR
  rw [reach_l1_eq h hso,oB]
  have e3 : loopO (recall_reach_l3 F) (0,[]) = some ((F.length : Int),addAll [] F):=addLoop (fun k hk => by
   unfold recall_reach_l3; dsimp only
   rw [ite_t (by omega),gPo (by omega),rdL_nat hk,gPo ⟨id_rngB h.ok (hF _ (List.getElem_mem hk)),by rw [addAll_len]; simp; omega⟩,w64_succ (by omega)]) (by
   unfold recall_reach_l3; dsimp only
   rw [ite_f (by omega)])
  rw [e3,oB,ho,oB]
  have e4:=loop_run (body:=recall_reach_l4 l ((l.fC.length : Int),nextM (Ed l s)) o) (fun k => ((k : Int),procL l (Ed l s) (addAll [] F) (o.take k))) o.length (t:=((o.length : Int),procL l (Ed l s) (addAll [] F) o)) (fun k hk => by
   have hi:=hon _ (List.getElem_mem hk)
   have hr : rngB (rdL l.fNo o[k]).fID = true:=id_rngB h.ok (hidn _ (List.getElem_mem hk))
   have hlen : (procL l (Ed l s) (addAll [] F) (o.take k)).length ≤ F.length + 12 * 48:=by
    have a1:=procL_len (l:=l) (E:=Ed l s) (o.take k) (addAll [] F)
    have a2 : (o.take k).length ≤ 12:=by rw [List.length_take]; omega
    have a3 : (o.take k).length * (Ed l s).length ≤ 12 * 48:=Nat.mul_le_mul a2 (by omega)
    rw [addAll_len] at a1
    simp only [List.length_nil] at a1
    omega
   unfold recall_reach_l4; dsimp only
   rw [ite_t (by omega),gPo (by omega),rdL_nat hk,gPo hi,gPo hr,List.take_succ_eq_append_getElem hk,w64_succ (by omega)]
   show _ = some (Sum.inl (((k + 1 : Nat) : Int),(o.take k ++ [o[k]]).foldl (proc1 l (Ed l s)) (addAll [] F)))
   rw [List.foldl_append]
   show _ = some (Sum.inl (((k + 1 : Nat) : Int),proc1 l (Ed l s) (procL l (Ed l s) (addAll [] F) (o.take k)) o[k]))
   unfold proc1
   change (if (!(mgetV false (procL l (Ed l s) (addAll [] F) (o.take k)) (nid l o[k]))) = true then _ else _) = _
   by_cases hg : mgetV false (procL l (Ed l s) (addAll [] F) (o.take k)) (nid l o[k]) = true
   ·rw [if_neg (by rw [hg]; simp),if_pos hg,gPo hr]
    have e5 : loopO (recall_reach_l5 l ((l.fC.length : Int),nextM (Ed l s)) o ((k : Int),procL l (Ed l s) (addAll [] F) (o.take k))) (0,procL l (Ed l s) (addAll [] F) (o.take k)) = some (((tgt (Ed l s) (nid l o[k])).length : Int),addAll (procL l (Ed l s) (addAll [] F) (o.take k)) (tgt (Ed l s) (nid l o[k]))):=by
     have et : mgetV [] (nextM (Ed l s)) (rdL l.fNo (rdL o (k : Int))).fID = tgt (Ed l s) (nid l o[k]):=by rw [nextM_get,rdL_nat hk]; rfl
     have htl:=tgt_len (Ed l s) (nid l o[k])
     refine addLoop (fun j hj => ?_) ?_
     ·unfold recall_reach_l5; dsimp only
      rw [et,ite_t (by omega),gPo (by omega),rdL_nat hj]
      have hm:=List.getElem_mem hj
      obtain ⟨x,hx,_,ex⟩:=mem_tgt.1 hm
      rw [gPo ⟨by rw [← ex]; exact id_rngB h.ok (hE x hx).2.1,by rw [addAll_len,List.length_take]; omega⟩,w64_succ (by omega)]
     ·unfold recall_reach_l5; dsimp only
      rw [et,ite_f (by omega)]
    rw [e5]
    rfl
   ·have hg' : mgetV false (procL l (Ed l s) (addAll [] F) (o.take k)) (nid l o[k]) = false:=by
     cases hh : mgetV false (procL l (Ed l s) (addAll [] F) (o.take k)) (nid l o[k])
     ·rfl
     ·exact absurd hh hg
    rw [if_pos (by rw [hg']; rfl),if_neg hg]) (by
   unfold recall_reach_l4; dsimp only
   rw [ite_f (by omega),List.take_length])
  have e4' : loopO (recall_reach_l4 l ((l.fC.length : Int),nextM (Ed l s)) o) (0,addAll [] F) = some ((o.length : Int),procL l (Ed l s) (addAll [] F) o):=e4
  rw [e4']
  rfl
 ·exact procL_sound (fun q hq => by
   rcases (addAll_get _ _ _).1 hq with hq | hq
   ·exact .base hq
   ·cases hq) hq
 ·have hcl:=procL_closed (l:=l) (E:=Ed l s) (lvI l) (fun x hx => (hE x hx).2.2) (o:=o) (m:=addAll [] F) (fun _ => False) (by
   rw [List.pairwise_iff_getElem] at hs ⊢
   intro i j hi hj hij
   rw [nodes_lv h.ok (hon _ (List.getElem_mem hi)).1 (hon _ (List.getElem_mem hi)).2,nodes_lv h.ok (hon _ (List.getElem_mem hj)).1 (hon _ (List.getElem_mem hj)).2]
   exact hs i j hi hj hij) (fun a ha => ha.elim) (fun a ha => ha.elim)
  induction hq with
  | base hx => exact procL_mono ((addAll_get _ _ _).2 (.inl hx))
  | @step x _ hx ih =>
   refine hcl x.fFrom (.inr ?_) ih x hx rfl
   have hm:=(hE x hx).1
   obtain ⟨n,hn,e⟩:=List.mem_map.1 hm
   obtain ⟨k,hk,rfl⟩:=List.mem_iff_getElem.1 hn
   refine ⟨(k : Int),hp.mem_iff.2 (by simp only [idxs,List.mem_map,List.mem_range]; exact ⟨k,hk,rfl⟩),?_⟩
   unfold nid
   rw [rdL_nat hk]
   exact e
 ·rcases procL_mem o (addAll [] F) hp with hp | ⟨h1,x,hx,e⟩
  ·rcases addAll_mem hp with hp | hp
   ·exact ⟨hF _ hp.1,hp.2⟩
   ·cases hp
  ·exact ⟨e ▸ (hE x hx).2.1,h1⟩
 ·have a1:=procL_len (l:=l) (E:=Ed l s) o (addAll [] F)
  have a3 : o.length * (Ed l s).length ≤ 12 * (Ed l s).length:=Nat.mul_le_mul_right _ (by omega)
  rw [addAll_len] at a1
  simp only [List.length_nil] at a1
  omega
theorem foldO_all {S T α : Type} {f : S → α → Option (S ⊕ T)} {xs : List α} {s : S} (I : List α → S → Prop) (h0 : I [] s) (h1 : ∀ pre x suf s,xs = pre ++ x :: suf → I pre s → ∃ s',f s x = some (.inl s') ∧ I (pre ++ [x]) s') : ∃ s',foldO f xs s = some (.inl s') ∧ I xs s':=by
 have key : ∀ (ys pre : List α) (s : S),xs = pre ++ ys → I pre s → ∃ s',foldO f ys s = some (.inl s') ∧ I xs s':=by
  intro ys
  induction ys with
  | nil => intro pre s hx hi; rw [List.append_nil] at hx; subst hx; exact ⟨s,rfl,hi⟩
  | cons y ys ih =>
   intro pre s hx hi
   obtain ⟨s1,e1,i1⟩:=h1 pre y ys s hx hi
   obtain ⟨s2,e2,i2⟩:=ih (pre ++ [y]) s1 (by rw [hx]; simp) i1
   refine ⟨s2,?_,i2⟩
   unfold foldO
   rw [e1]
   exact e2
 exact key xs [] s rfl h0
theorem allC_iff : ∀ (ks : List Nat) (c : List Int),c ∈ allC ks ↔ c.length = ks.length ∧ ∀ i : Nat,i < ks.length → 0 ≤ c.getD i 0 ∧ c.getD i 0 < ((ks.getD i 0 : Nat) : Int)
 | ks,c => by
  refine ⟨allC_mem ks c,fun h => ?_⟩
  induction ks generalizing c with
  | nil =>
   have : c = []:=List.eq_nil_of_length_eq_zero h.1
   subst this
   simp [allC]
  | cons k ks ih =>
   obtain ⟨h1,h2⟩:=h
   cases c with
   | nil => simp at h1
   | cons x c =>
    have hx:=h2 0 (by simp)
    simp at hx
    have:=ih c ⟨by simpa using h1,fun i hi => by have:=h2 (i + 1) (by simpa using hi); simpa using this⟩
    simp only [allC,List.mem_flatMap,List.mem_map,List.mem_range]
    exact ⟨x.toNat,by omega,c,this,by rw [Int.toNat_of_nonneg hx.1]⟩
def prodN : List Nat → Nat
 | [] => 1
 | k :: ks => k * prodN ks
theorem prodN_app : ∀ a b : List Nat,prodN (a ++ b) = prodN a * prodN b
 | [],b => by simp [prodN]
 | k :: a,b => by show k * prodN (a ++ b) = k * prodN a * prodN b; rw [prodN_app a b,Nat.mul_assoc]
theorem flat_len {α β : Type} (f : α → List β) (n : Nat) : ∀ xs : List α,(∀ x,(f x).length = n) → (xs.flatMap f).length = xs.length * n
 | [],_ => by simp
 | x :: xs,h => by rw [List.flatMap_cons,List.length_append,flat_len f n xs h,h,List.length_cons,Nat.succ_mul,Nat.add_comm]
theorem allC_len : ∀ ks : List Nat,(allC ks).length = prodN ks
 | [] => rfl
 | k :: ks => by
  unfold allC prodN
  rw [flat_len _ (prodN ks) _ (fun x => by rw [List.length_map,allC_len ks]),List.length_range]
theorem ks_get (l : TL) {i : Nat} (hi : i < l.fC.length) : (sKs l).getD i 0 = (oO l i).length:=by
 unfold sKs oO
 rw [List.getD_eq_getElem?_getD,List.getElem?_map,List.getElem?_eq_getElem hi,getD_lt hi]
 rfl
theorem ks_len (l : TL) : (sKs l).length = l.fC.length:=by simp [sKs]
theorem mem_Cs {l : TL} {c : List Int} : c ∈ sCs l ↔ c.length = l.fC.length ∧ ∀ i : Nat,i < l.fC.length → 0 ≤ c.getD i 0 ∧ c.getD i 0 < ((oO l i).length : Int):=by
 unfold sCs
 rw [allC_iff,ks_len]
 exact ⟨fun h => ⟨h.1,fun i hi => by have:=h.2 i hi; rwa [ks_get l hi] at this⟩,fun h => ⟨h.1,fun i hi => by have:=h.2 i hi; rwa [← ks_get l hi] at this⟩⟩
theorem cntI_prod {l : TL} (h : ∀ i,i < l.fC.length → 1 ≤ (oO l i).length) : ∀ n,n ≤ l.fC.length → cntI l n ≤ 4096 → cntI l n = (prodN ((sKs l).take n) : Int)
 | 0,_,_ => rfl
 | n + 1,hn,hc => by
  have h1:=cntI_rg l n
  have hk:=h n (by omega)
  have ho : (l.fC.getD n default).fO.length = (oO l n).length:=rfl
  have hlt : n < (sKs l).length:=by rw [ks_len]; omega
  unfold cntI at hc ⊢
  rw [ho] at hc ⊢
  have hge : cntI l n * 1 ≤ cntI l n * ((oO l n).length : Int):=Int.mul_le_mul_of_nonneg_left (by omega) h1.1
  have ih:=cntI_prod h n (by omega) (by omega)
  rw [List.take_succ_eq_append_getElem hlt,prodN_app]
  have e : (sKs l)[n] = (oO l n).length:=by
   rw [← ks_get l (by omega),List.getD_eq_getElem?_getD,List.getElem?_eq_getElem hlt]; rfl
  rw [e,Int.min_eq_left (by omega),ih]
  simp [prodN]
theorem opts_pos {l : TL} (h : OkL l) : ∀ i,i < l.fC.length → 1 ≤ (oO l i).length:=fun i hi => (optsOf_ok h hi).1.1
theorem Cs_cnt {l : TL} (h : OkL l) : cntI l l.fC.length = ((sCs l).length : Int):=by
 rw [cntI_prod (opts_pos h) _ (Nat.le_refl _) h.cnt]
 unfold sCs
 rw [allC_len,← ks_len l,List.take_length]
theorem Cs_len {l : TL} (h : OkL l) : (sCs l).length ≤ 4096:=by
 have:=Cs_cnt h
 have:=h.cnt
 omega
theorem Cs_zero {l : TL} (h : OkL l) : List.replicate l.fC.length 0 ∈ sCs l:=by
 refine mem_Cs.2 ⟨by simp,fun i hi => ?_⟩
 have:=opts_pos h i hi
 rw [List.getD_eq_getElem?_getD,List.getElem?_replicate,if_pos hi]
 simp
 omega
theorem Cs_ok {l : TL} (h : OkL l) : seqCases_ok l:=by
 refine ⟨by have:=h.nc; omega,fun x hx => ?_⟩
 have:=(h.claims x hx).2.1
 omega
def sC (c : List Int) : Nat → Nat → Bool:=fun i k => rdL c (i : Int) == (k : Int)
def EC (l : TL) (c : List Int) : List TH:=Ed l (sC c)
theorem filter_one (x : Int) (n : Nat) : ((List.range n).filter fun k : Nat => x == (k : Int)).length ≤ 1:=by
 have:=nodup_len (l1:=(List.range n).filter fun k : Nat => x == (k : Int)) (l2:=[x.toNat]) (List.Nodup.sublist (List.filter_sublist) List.nodup_range) (fun k hk => by
  have:=(List.mem_filter.1 hk).2
  simp at this
  simp [this])
 simpa using this
theorem EC_len (l : TL) (c : List Int) : (EC l c).length ≤ l.fC.length:=by
 unfold EC Ed
 generalize l.fC.length = n
 induction n with
 | zero => simp [edges]
 | succ n ih =>
  rw [edges_succ,List.length_append]
  have : (edgesI (oO l n) (sC c n) (oO l n).length).length ≤ 1:=by
   unfold edgesI
   rw [List.length_map]
   exact filter_one _ _
  omega
theorem reachC_eq {l : TL} (h : Small l) {F : List Int} (hF : ∀ x ∈ F,x ∈ IDs l) (hFl : F.length ≤ 12) {c : List Int} (hc : c ∈ sCs l) :
  ∃ m,rcR l F (fun x y => recall_fixed_has c x y) = some m ∧ SetP l m (Comes (EC l c) F) ∧ m.length ≤ 156:=by
 obtain ⟨m,h1,h2,h3⟩:=reach_eq h hF (by omega) (p2:=fun x y => recall_fixed_has c x y) (s:=sC c) (fun i k hi hk => by
  unfold recall_fixed_has sC
  rw [gPo (by rw [(mem_Cs.1 hc).1]; omega)])
 refine ⟨m,h1,h2,?_⟩
 have:=EC_len l c
 have:=h.c12
 unfold EC at *
 omega
def PossP (l : TL) (F : List Int) (q : Int) : Prop:=∃ c ∈ sCs l,Comes (EC l c) F q
def SureP (l : TL) (F : List Int) (q : Int) : Prop:=∀ c ∈ sCs l,Comes (EC l c) F q
theorem SetP.has {l : TL} {m : List (Int × Bool)} {Q : Int → Prop} (h : SetP l m Q) (q : Int) : mhasV m q = true ↔ Q q:=by
 rw [← h.get q,mhas_mem]
 have hk : ∀ p ∈ m,p.2 = true:=fun p hp => (h.key p hp).2
 clear h
 induction m with
 | nil => simp [mgetV]
 | cons p m ih =>
  obtain ⟨k,v⟩:=p
  have hv : v = true:=hk (k,v) (by simp)
  subst hv
  rw [mget_cons]
  by_cases e : k = q
  ·simp [e]
  ·have ih':=ih (fun p hp => hk p (List.mem_cons_of_mem _ hp))
   rw [if_neg e]
   refine Iff.trans ?_ ih'
   simp only [List.map_cons,List.mem_cons]
   exact ⟨fun h => h.resolve_left (fun e' => e e'.symm),.inr⟩
theorem unionV_len {β γ : Type} (v : γ) (M : List (Int × β)) (m : List (Int × γ)) : (unionV v M m).length = M.length + m.length:=by simp [unionV]
theorem possible_eq {l : TL} (h : Small l) {F : List Int} (hF : ∀ x ∈ F,x ∈ IDs l) (hFl : F.length ≤ 12) : ∃ m,recall_possible l F = some m ∧ SetP l m (PossP l F) ∧ m.length ≤ 1000000:=by
 have hlen:=Cs_len h.ok
 obtain ⟨m,h1,h2,h3⟩:=foldO_all (f:=recall_possible_r1 l F) (xs:=sCs l) (s:=[]) (fun pre m => SetP l m (fun q => ∃ c ∈ pre,Comes (EC l c) F q) ∧ m.length ≤ 156 * pre.length) ⟨⟨fun q => by simp [mgetV],fun p hp => by cases hp⟩,by simp⟩ (fun pre c suf m hx ⟨i1,i2⟩ => by
  have hc : c ∈ sCs l:=by rw [hx]; simp
  obtain ⟨r,e1,e2,e3⟩:=reachC_eq h hF hFl hc
  have hpl : pre.length < 4096:=by
   have:=congrArg List.length hx
   simp at this
   omega
  refine ⟨unionV true r m,?_,⟨fun q => ?_,fun p hp => ?_⟩,?_⟩
  ·unfold recall_possible_r1 recall_inCase
   rw [oB,e1,oB,gPo (by omega)]
  ·rw [mget_union]
   by_cases hq : mhasV r q = true
   ·rw [if_pos hq]
    exact ⟨fun _ => ⟨c,by simp,(e2.has q).1 hq⟩,fun _ => rfl⟩
   ·rw [if_neg hq,i1.get]
    refine ⟨fun ⟨d,hd,hq'⟩ => ⟨d,by simp [hd],hq'⟩,fun ⟨d,hd,hq'⟩ => ?_⟩
    rcases List.mem_append.1 hd with hd | hd
    ·exact ⟨d,hd,hq'⟩
    ·rw [List.mem_singleton.1 hd] at hq'
     exact absurd ((e2.has q).2 hq') hq
  ·unfold unionV at hp
   rcases List.mem_append.1 hp with hp | hp
   ·obtain ⟨p',hp',rfl⟩:=List.mem_map.1 hp
    exact ⟨(e2.key p' hp').1,rfl⟩
   ·exact i1.key p hp
  ·rw [unionV_len,List.length_append]
   simp
   omega)
 refine ⟨m,?_,h2,by omega⟩
 unfold recall_possible recall_cases
 rw [oB,gPo (Cs_ok h.ok),h1]
 rfl
theorem sure_eq {l : TL} (h : Small l) {F : List Int} (hF : ∀ x ∈ F,x ∈ IDs l) (hFl : F.length ≤ 12) : ∃ m,recall_sure l F = some m ∧ SetP l m (SureP l F) ∧ m.length ≤ 1000000:=by
 obtain ⟨m0,g1,g2,g3⟩:=possible_eq h hF hFl
 obtain ⟨m,h1,h2,h3⟩:=foldO_all (f:=recall_sure_r1 l F) (xs:=sCs l) (s:=m0) (fun pre m => SetP l m (fun q => PossP l F q ∧ ∀ c ∈ pre,Comes (EC l c) F q) ∧ m.length ≤ 1000000) ⟨⟨fun q => by rw [g2.get]; simp,g2.key⟩,g3⟩ (fun pre c suf m hx ⟨i1,i2⟩ => by
  have hc : c ∈ sCs l:=by rw [hx]; simp
  obtain ⟨r,e1,e2,e3⟩:=reachC_eq h hF hFl hc
  refine ⟨m.filter (fun p => !(fun y33 => (!(mgetV false r y33))) p.1),?_,⟨fun q => ?_,fun p hp => i1.key p (List.mem_filter.1 hp).1⟩,by have:=List.length_filter_le (fun p : Int × Bool => !(fun y33 => (!(mgetV false r y33))) p.1) m; omega⟩
  ·unfold recall_sure_r1 recall_inCase
   rw [oB,e1]
   rfl
  ·rw [mget_filter false (fun x => !!(mgetV false r x))]
   by_cases hq : mgetV false r q = true
   ·rw [if_pos (by rw [hq]; rfl),i1.get]
    refine ⟨fun ⟨a,b⟩ => ⟨a,fun d hd => ?_⟩,fun ⟨a,b⟩ => ⟨a,fun d hd => b d (by simp [hd])⟩⟩
    rcases List.mem_append.1 hd with hd | hd
    ·exact b d hd
    ·rw [List.mem_singleton.1 hd]; exact (e2.get q).1 hq
   ·rw [if_neg (by simpa using hq)]
    refine ⟨fun a => (by cases a),fun ⟨a,b⟩ => absurd ((e2.get q).2 (b c (by simp))) hq⟩)
 refine ⟨m,?_,⟨fun q => ?_,h2.key⟩,h3⟩
 ·unfold recall_sure recall_cases
  rw [g1,oB,oB,gPo (Cs_ok h.ok),h1]
  rfl
 ·rw [h2.get]
  refine ⟨fun a => a.2,fun a => ⟨⟨_,Cs_zero h.ok,a _ (Cs_zero h.ok)⟩,a⟩⟩
theorem listed_eq {l : TL} (h : Small l) {m : List (Int × Bool)} (hm : ∀ p ∈ m,p.1 ∈ IDs l) (hl : m.length ≤ 1000000) : recall_listed m = some (listedV m):=by
 unfold recall_listed
 have hmem : ∀ q ∈ listedV m,q ∈ IDs l:=fun q hq => by
  have hq':=((listedV_spec m).2 q).1 hq
  have hh : mhasV m q = true:=by
   cases e : mhasV m q
   ·rw [mget_none e] at hq'; cases hq'
   ·rfl
  obtain ⟨p,hp,rfl⟩:=List.mem_map.1 (mhas_mem.1 hh)
  exact hm p hp
 have hn:=nodup_len (listedV_spec m).1.nodup hmem
 have h12:=h.n12
 unfold IDs at hn
 rw [List.length_map] at hn
 rw [gPo ⟨hl,by omega,List.all_eq_true.2 (fun p hp => id_rngB h.ok (hm p hp))⟩]
def IsFrom (l : TL) (F : List Int) : Prop:=0 < F.length ∧ StrictI F ∧ ∀ x ∈ F,x ∈ IDs l
theorem strict_adj {F : List Int} (h : ∀ k,(hk : k + 1 < F.length) → F[k] < F[k + 1]) : StrictI F:=by
 unfold StrictI
 rw [List.pairwise_iff_getElem]
 intro i j hi hj hij
 have : ∀ d,(hd : i + 1 + d < F.length) → F[i] < F[i + 1 + d]:=by
  intro d
  induction d with
  | zero => intro hd; exact h i hd
  | succ d ih => intro hd; have a:=ih (by omega); have b:=h (i + 1 + d) (by omega); exact Int.lt_trans a b
 have h2:=this (j - (i + 1)) (by omega)
 have e : i + 1 + (j - (i + 1)) = j:=by omega
 simp only [e] at h2
 exact h2
theorem increasing_eq {F : List Int} (hl : F.length < 1000000000) {so : Int → Option Bool} (P : Int → Prop) [∀ x,Decidable (P x)] (hso : ∀ x ∈ F,so x = some (decide (P x))) : ∃ b,recall_increasing_int F (fun x => recall_own x) so = some b ∧ (b = true ↔ (∀ x ∈ F,P x) ∧ StrictI F):=by
 unfold recall_increasing_int
 have hrun:=loop_search (body:=recall_increasing_int_l1 F (fun x => recall_own x) so) (fun k => (false,(k : Int))) F.length (fun k => if P (F.getD k 0) ∧ (0 < k → F.getD (k - 1) 0 < F.getD k 0) then none else some (Sum.inl (false,(k : Int)))) (t0:=.inr (false,(F.length : Int))) (fun k hk => by
  unfold recall_increasing_int_l1; dsimp only
  have eg : F.getD k 0 = F[k]:=by rw [List.getD_eq_getElem?_getD,List.getElem?_eq_getElem hk]; rfl
  rw [ite_t (by omega),gPo (by omega),rdL_nat hk,eg]
  simp only [recall_own,oB]
  rw [hso _ (List.getElem_mem hk),oB,w64_succ (by omega)]
  by_cases hP : P F[k]
  ·rw [if_neg (by simp [hP])]
   by_cases h0 : 0 < k
   ·have eg1 : F.getD (k - 1) 0 = F[k - 1]'(by omega):=by rw [List.getD_eq_getElem?_getD,List.getElem?_eq_getElem (by omega)]; rfl
    have ew : w64 ((k : Int) - 1) = ((k - 1 : Nat) : Int):=by rw [w64_id (by omega) (by omega)]; omega
    rw [ite_t (by omega),ew,gPo (by omega),rdL_nat (show k - 1 < F.length by omega),oB,oB,eg1]
    by_cases hlt : F[k - 1]'(by omega) < F[k]
    ·rw [ite_f (by omega),if_pos ⟨hP,fun _ => hlt⟩]
    ·rw [ite_t (by omega),if_neg (fun h => hlt (h.2 h0))]
   ·rw [ite_f (by omega),oB,oB,if_neg (by simp),if_pos ⟨hP,fun h => absurd h h0⟩]
  ·rw [if_pos (by simp [hP]),oB,if_pos rfl,if_neg (fun h => hP h.1)]) (by
  unfold recall_increasing_int_l1; dsimp only
  rw [ite_f (by omega)])
 have h0 : loopO (recall_increasing_int_l1 F (fun x => recall_own x) so) (false,0) = _:=hrun
 rw [h0,oB]
 rcases findSome_cases (R:=fun k => if P (F.getD k 0) ∧ (0 < k → F.getD (k - 1) 0 < F.getD k 0) then none else some (Sum.inl (false,(k : Int)) : (Bool × Int) ⊕ (Bool × Int))) (n:=F.length) (.inr (false,(F.length : Int))) with ⟨hn,h2⟩ | ⟨k,t,hk,hR,hj,h2⟩
 ·rw [h2]
  have hall : ∀ k,(hk : k < F.length) → P (F.getD k 0) ∧ (0 < k → F.getD (k - 1) 0 < F.getD k 0):=fun k hk => by
   have:=hn k hk
   split at this
   ·assumption
   ·cases this
  have eg : ∀ k,(hk : k < F.length) → F.getD k 0 = F[k]:=fun k hk => by rw [List.getD_eq_getElem?_getD,List.getElem?_eq_getElem hk]; rfl
  refine ⟨true,rfl,fun _ => ⟨fun x hx => ?_,strict_adj (fun k hk => ?_)⟩,fun _ => rfl⟩
  ·obtain ⟨k,hk,rfl⟩:=List.mem_iff_getElem.1 hx
   rw [← eg k hk]
   exact (hall k hk).1
  ·have:=(hall (k + 1) hk).2 (by omega)
   rw [eg _ hk,Nat.add_sub_cancel,eg k (by omega)] at this
   exact this
 ·rw [h2]
  have eg : ∀ k,(hk : k < F.length) → F.getD k 0 = F[k]:=fun k hk => by rw [List.getD_eq_getElem?_getD,List.getElem?_eq_getElem hk]; rfl
  have hno : ¬ (P (F.getD k 0) ∧ (0 < k → F.getD (k - 1) 0 < F.getD k 0)):=fun h => by rw [if_pos h] at hR; cases hR
  rw [if_neg hno] at hR
  cases hR
  refine ⟨false,rfl,fun h => (by cases h),fun ⟨a,b⟩ => (hno ⟨?_,fun h0 => ?_⟩).elim⟩
  ·rw [eg k hk]; exact a _ (List.getElem_mem hk)
  ·rw [eg k hk,eg (k - 1) (by omega)]
   exact List.pairwise_iff_getElem.1 b (k - 1) k (by omega) hk (by omega)
theorem isFrom_eq {l : TL} {F : List Int} (hn : l.fNo.length < 1000000000) (hl : F.length < 1000000000) : ∃ b,recall_isFrom l F = some b ∧ (b = true ↔ IsFrom l F):=by
 obtain ⟨b,h1,h2⟩:=increasing_eq hl (so:=fun x6 => recall_isFrom_1 x6 l) (fun x => 0 ≤ nodeI l x) (fun x hx => by
  unfold recall_isFrom_1
  rw [nodeOf_eq hn]
  rfl)
 unfold recall_isFrom
 by_cases h0 : 0 < F.length
 ·rw [ite_t (by omega),h1]
  refine ⟨b,rfl,h2.trans ?_⟩
  exact ⟨fun ⟨a,c⟩ => ⟨h0,c,fun x hx => nodeI_nonneg.1 (a x hx)⟩,fun ⟨_,c,a⟩ => ⟨fun x hx => nodeI_nonneg.2 (a x hx),c⟩⟩
 ·rw [ite_f (by omega)]
  exact ⟨false,rfl,fun h => (by cases h),fun h => absurd h.1 h0⟩
theorem IsFrom.len {l : TL} (h : Small l) {F : List Int} (hf : IsFrom l F) : F.length ≤ 12:=by
 have:=nodup_len hf.2.1.nodup hf.2.2
 have:=h.n12
 unfold IDs at *
 rw [List.length_map] at *
 omega
theorem asked_eq {l : TL} {F : List Int} (hl : F.length < 1000000000) : ∃ e,recall_asked l F = some e ∧ (CheckS l ≠ 0 → e = CheckS l) ∧ (CheckS l = 0 → ¬ IsFrom l F → e = 1) ∧ (CheckS l = 0 → IsFrom l F → e = 0):=by
 unfold recall_asked
 rw [Check_eq,oB]
 by_cases h0 : CheckS l = 0
 ·have hn : l.fNo.length < 1000000000:=by have:=(CheckS_0.1 h0).nn; omega
  obtain ⟨b,h1,h2⟩:=isFrom_eq (l:=l) (F:=F) hn hl
  rw [if_neg (by simp [h0]),h1,oB]
  cases b with
  | true => exact ⟨0,rfl,fun h => absurd h0 h,fun _ h => absurd (h2.1 rfl) h,fun _ _ => rfl⟩
  | false => exact ⟨1,rfl,fun h => absurd h0 h,fun _ _ => rfl,fun _ h => by have:=h2.2 h; cases this⟩
 ·rw [if_pos (by simp [h0])]
  exact ⟨_,rfl,fun _ => rfl,fun h => absurd h h0,fun h => absurd h h0⟩
noncomputable def askS (l : TL) (F : List Int) : Int:=@ite _ (CheckS l = 0) (inferInstance) (@ite _ (IsFrom l F) (Classical.propDecidable _) 0 1) (CheckS l)
theorem asked_S {l : TL} {F : List Int} (hl : F.length < 1000000000) : recall_asked l F = some (askS l F):=by
 obtain ⟨e,h1,h2,h3,h4⟩:=asked_eq (l:=l) hl
 rw [h1]
 unfold askS
 by_cases h0 : CheckS l = 0
 ·rw [if_pos h0]
  by_cases hf : IsFrom l F
  ·rw [if_pos hf,h4 h0 hf]
  ·rw [if_neg hf,h3 h0 hf]
 ·rw [if_neg h0,h2 h0]
theorem askS_0 {l : TL} {F : List Int} : askS l F = 0 ↔ OkL l ∧ IsFrom l F:=by
 unfold askS
 rw [← CheckS_0]
 by_cases h0 : CheckS l = 0
 ·rw [if_pos h0]
  by_cases hf : IsFrom l F
  ·rw [if_pos hf]; simp [h0,hf]
  ·rw [if_neg hf]; simp [hf]
 ·rw [if_neg h0]; simp [h0]
theorem ask0 {l : TL} (h : Small l) {F : List Int} (hf : IsFrom l F) : recall_asked l F = some 0:=by
 have:=hf.len h
 rw [asked_S (by omega),askS_0.2 ⟨h.ok,hf⟩]
theorem Surely_ok {l : TL} (h : Small l) {F : List Int} (hf : IsFrom l F) : ∃ L,recall_Surely l F = some (L,0) ∧ StrictI L ∧ ∀ q,q ∈ L ↔ SureP l F q:=by
 obtain ⟨m,h1,h2,h3⟩:=sure_eq h hf.2.2 (hf.len h)
 refine ⟨listedV m,?_,(listedV_spec m).1,fun q => by rw [(listedV_spec m).2,h2.get]⟩
 unfold recall_Surely
 rw [ask0 h hf,oB,if_neg (by simp),h1,oB,listed_eq h (fun p hp => (h2.key p hp).1) h3]
 rfl
theorem Possibly_ok {l : TL} (h : Small l) {F : List Int} (hf : IsFrom l F) : ∃ L,recall_Possibly l F = some (L,0) ∧ StrictI L ∧ ∀ q,q ∈ L ↔ PossP l F q:=by
 obtain ⟨m,h1,h2,h3⟩:=possible_eq h hf.2.2 (hf.len h)
 refine ⟨listedV m,?_,(listedV_spec m).1,fun q => by rw [(listedV_spec m).2,h2.get]⟩
 unfold recall_Possibly
 rw [ask0 h hf,oB,if_neg (by simp),h1,oB,listed_eq h (fun p hp => (h2.key p hp).1) h3]
 rfl
noncomputable def cm (l : TL) (F : List Int) (q : Int) (c : List Int) : Bool:=@decide (Comes (EC l c) F q) (Classical.propDecidable _)
theorem cm_iff {l : TL} {F : List Int} {q : Int} {c : List Int} : cm l F q c = true ↔ Comes (EC l c) F q:=by unfold cm; simp
theorem among_eq {L : List Int} (hl : L.length < 1000000000) (n : Int) : calxlaw09_among L n = some (decide (n ∈ L)):=by
 unfold calxlaw09_among
 have hrun:=loop_search (body:=calxlaw09_among_l1 L n) (fun k => (false,(k : Int))) L.length (fun k => if L.getD k 0 = n then some (Sum.inl (true,(k : Int))) else none) (t0:=.inr (false,(L.length : Int))) (fun k hk => by
  unfold calxlaw09_among_l1; dsimp only
  have eg : L.getD k 0 = L[k]:=by rw [List.getD_eq_getElem?_getD,List.getElem?_eq_getElem hk]; rfl
  rw [ite_t (by omega),gPo (by omega),rdL_nat hk,eg,w64_succ (by omega)]
  by_cases e : L[k] = n <;> simp [e]) (by
  unfold calxlaw09_among_l1; dsimp only
  rw [ite_f (by omega)])
 have h0 : loopO (calxlaw09_among_l1 L n) (false,0) = _:=hrun
 rw [h0,oB]
 rcases findSome_cases (R:=fun k => if L.getD k 0 = n then some (Sum.inl (true,(k : Int)) : (Bool × Int) ⊕ (Bool × Int)) else none) (n:=L.length) (.inr (false,(L.length : Int))) with ⟨hn,h2⟩ | ⟨k,t,hk,hR,hj,h2⟩
 ·rw [h2]
  have : n ∉ L:=fun hm => by
   obtain ⟨k,hk,e⟩:=List.mem_iff_getElem.1 hm
   have:=hn k hk
   rw [List.getD_eq_getElem?_getD,List.getElem?_eq_getElem hk] at this
   simp [e] at this
  simp [this]
 ·rw [h2]
  have hq : L.getD k 0 = n:=by
   by_cases hq : L.getD k 0 = n
   ·exact hq
   ·rw [if_neg hq] at hR; cases hR
  rw [if_pos hq] at hR
  cases hR
  have : n ∈ L:=by
   rw [List.getD_eq_getElem?_getD,List.getElem?_eq_getElem hk] at hq
   rw [← hq]
   exact List.getElem_mem hk
  simp [this]
theorem all_eq {L S : List Int} (hl : L.length < 1000000000) (hs : S.length < 1000000000) : calxlaw09_all L S = some (decide (∀ x ∈ S,x ∈ L)):=by
 unfold calxlaw09_all
 have hrun:=loop_search (body:=calxlaw09_all_l1 L S) (fun k => (false,(k : Int))) S.length (fun k => if S.getD k 0 ∈ L then none else some (Sum.inl (false,(k : Int)))) (t0:=.inr (false,(S.length : Int))) (fun k hk => by
  unfold calxlaw09_all_l1; dsimp only
  have eg : S.getD k 0 = S[k]:=by rw [List.getD_eq_getElem?_getD,List.getElem?_eq_getElem hk]; rfl
  rw [ite_t (by omega),gPo (by omega),rdL_nat hk,eg,w64_succ (by omega),among_eq hl,oB]
  by_cases e : S[k] ∈ L <;> simp [e]) (by
  unfold calxlaw09_all_l1; dsimp only
  rw [ite_f (by omega)])
 have h0 : loopO (calxlaw09_all_l1 L S) (false,0) = _:=hrun
 rw [h0,oB]
 rcases findSome_cases (R:=fun k => if S.getD k 0 ∈ L then none else some (Sum.inl (false,(k : Int)) : (Bool × Int) ⊕ (Bool × Int))) (n:=S.length) (.inr (false,(S.length : Int))) with ⟨hn,h2⟩ | ⟨k,t,hk,hR,hj,h2⟩
 ·rw [h2]
  have : ∀ x ∈ S,x ∈ L:=fun x hx => by
   obtain ⟨k,hk,rfl⟩:=List.mem_iff_getElem.1 hx
   have:=hn k hk
   rw [List.getD_eq_getElem?_getD,List.getElem?_eq_getElem hk] at this
   split at this
   ·assumption
   ·cases this
  rw [decide_eq_true this]
 ·rw [h2]
  have hq : S.getD k 0 ∉ L:=fun hq => by rw [if_pos hq] at hR; cases hR
  rw [if_neg hq] at hR
  cases hR
  have : ¬ ∀ x ∈ S,x ∈ L:=fun hh => hq (by rw [List.getD_eq_getElem?_getD,List.getElem?_eq_getElem hk]; exact hh _ (List.getElem_mem hk))
  rw [decide_eq_false this]
theorem few_eq {l : TL} (hl : l.fC.length ≤ 9223372036854775807) : ∃ b,calxlaw09_few l = some b ∧ (b = true → OkL l → Small l):=by
 unfold calxlaw09_few
 have key : ∃ t,loopO (calxlaw09_few_l1 l) (false,1,0) = some t ∧ ((∃ x,t = .inl (false,x)) ∨ ∃ x,t = .inr x):=by
  refine loopO_inv (body:=calxlaw09_few_l1 l) (fun s => s.1 = false ∧ 0 ≤ s.2.1 ∧ s.2.1 ≤ 10000 ∧ 0 ≤ s.2.2 ∧ s.2.2 ≤ (l.fC.length : Int)) (fun s t => (∃ x,t = .inl (false,x)) ∨ ∃ x,t = .inr x) (fun s => ((l.fC.length : Int) - s.2.2).toNat) (fun s hs => ?_) _ ⟨rfl,by decide,by decide,by decide,by dsimp only; omega⟩
  obtain ⟨b,n,i⟩:=s
  obtain ⟨h1,h2,h3,h4,h5⟩:=hs
  dsimp only at h1 h2 h3 h4 h5 ⊢
  subst h1
  unfold calxlaw09_few_l1; dsimp only
  by_cases hi : i < (l.fC.length : Int)
  ·rw [ite_t hi,gPo ⟨h4,hi⟩]
   by_cases h6 : 6 < (((rdL l.fC i).fO.length : Nat) : Int)
   ·rw [ite_t h6]
    exact .inr ⟨_,rfl,.inl ⟨_,rfl⟩⟩
   ·rw [ite_f h6]
    have hm0 : 0 ≤ n * (max 1 (((rdL l.fC i).fO.length : Nat) : Int)):=Int.mul_nonneg h2 (by omega)
    have hm1 : n * (max 1 (((rdL l.fC i).fO.length : Nat) : Int)) ≤ 10000 * 6:=Int.mul_le_mul h3 (by omega) (by omega) (by omega)
    rw [w64_id (x:=n * (max 1 (((rdL l.fC i).fO.length : Nat) : Int))) (by omega) (by omega),w64_id (x:=i + 1) (by omega) (by omega)]
    refine .inl ⟨_,rfl,⟨rfl,?_,?_,?_,?_⟩,?_,fun t ht => ht⟩ <;> dsimp only <;> omega
  ·rw [ite_f hi]
   exact .inr ⟨_,rfl,.inr ⟨_,rfl⟩⟩
 obtain ⟨t,h1,h2⟩:=key
 rw [h1,oB]
 rcases h2 with ⟨x,rfl⟩ | ⟨x,rfl⟩
 ·exact ⟨false,rfl,fun h => (by cases h)⟩
 ·refine ⟨_,rfl,fun h hok => ?_⟩
  have hn:=hok.nn
  have hc:=hok.nc
  simp only [Bool.and_eq_true,Bool.or_eq_true,decide_eq_true_eq] at h
  exact ⟨hok,by omega,by omega⟩
theorem head_true : calxlaw09_head = some true:=calxlaw09_head_le 100 _ (by kernel_rfl)
def pick (l : TL) (c : List Int) (i : Nat) : TH:=(oO l i).getD (c.getD i 0).toNat default
theorem mem_EC {l : TL} {c : List Int} (hc : c ∈ sCs l) {h : TH} : h ∈ EC l c ↔ ∃ i,i < l.fC.length ∧ pick l c i = h:=by
 unfold EC Ed
 rw [mem_edges]
 have hm:=(mem_Cs.1 hc).2
 constructor
 ·rintro ⟨i,k,hi,hk,hs,e⟩
  refine ⟨i,hi,?_⟩
  unfold sC at hs
  rw [rdL_getD] at hs
  have : c.getD i 0 = (k : Int):=by simpa using hs
  unfold pick
  rw [this]
  exact e
 ·rintro ⟨i,hi,e⟩
  obtain ⟨h1,h2⟩:=hm i hi
  refine ⟨i,(c.getD i 0).toNat,hi,by omega,?_,e⟩
  unfold sC
  rw [rdL_getD,Int.toNat_of_nonneg h1]
  exact beq_self_eq_true _
structure Sub (m l : TL) : Prop where
 len : m.fC.length = l.fC.length
 into : ∀ c ∈ sCs m,∃ d ∈ sCs l,∀ i,i < l.fC.length → pick m c i = pick l d i
theorem EC_pick {m l : TL} (hlen : m.fC.length = l.fC.length) {c d : List Int} (hc : c ∈ sCs m) (hd : d ∈ sCs l) (h : ∀ i,i < l.fC.length → pick m c i = pick l d i) (F : List Int) (q : Int) : Comes (EC m c) F q ↔ Comes (EC l d) F q:=by
 refine ⟨Comes.mono (fun x hx => ?_) (fun x hx => hx),Comes.mono (fun x hx => ?_) (fun x hx => hx)⟩
 ·obtain ⟨i,hi,e⟩:=(mem_EC hc).1 hx
  exact (mem_EC hd).2 ⟨i,by omega,by rw [← h i (by omega)]; exact e⟩
 ·obtain ⟨i,hi,e⟩:=(mem_EC hd).1 hx
  exact (mem_EC hc).2 ⟨i,by omega,by rw [h i hi]; exact e⟩
theorem Sub.sure {m l : TL} (h : Sub m l) {F : List Int} {q : Int} (hs : SureP l F q) : SureP m F q:=fun c hc => by
 obtain ⟨d,hd,he⟩:=h.into c hc
 exact (EC_pick h.len hc hd he F q).2 (hs d hd)
theorem Sub.poss {m l : TL} (h : Sub m l) {F : List Int} {q : Int} (hs : PossP m F q) : PossP l F q:=by
 obtain ⟨c,hc,hq⟩:=hs
 obtain ⟨d,hd,he⟩:=h.into c hc
 exact ⟨d,hd,(EC_pick h.len hc hd he F q).1 hq⟩
theorem CloneHop_eq {s : List TH} (h : s.length ≤ 1000000000) : slices_Clone_Hop_Hop s = some s:=by
 unfold slices_Clone_Hop_Hop
 rw [gPo (by omega)]; rfl
theorem copied_eq {l : TL} (hn : l.fNo.length ≤ 1000000000) (hc : l.fC.length ≤ 1000000000) (ho : ∀ c ∈ l.fC,c.fO.length ≤ 1000000000) : recall_copied l = some l:=by
 unfold recall_copied slices_Clone_Node_Node slices_Clone_Claim_Claim
 rw [gPo (by omega),gPo (by omega),oB,oB]
 simp only [List.nil_append]
 have hrun:=loop_run (body:=recall_copied_l1 l.fC) (fun k => ((k : Int),l.fC)) l.fC.length (t:=((l.fC.length : Int),l.fC)) (fun k hk => by
  unfold recall_copied_l1; dsimp only
  rw [ite_t (by omega),gPo (by omega),rdL_nat hk,CloneHop_eq (ho _ (List.getElem_mem hk)),oB,gPo (by omega),w64_succ (by omega),Int.toNat_natCast]
  have : l.fC.set k (TC.mk l.fC[k].fID l.fC[k].fO) = l.fC:=by
   rw [TClaim_eta]; exact List.set_getElem_self hk
  rw [this]) (by
  unfold recall_copied_l1; dsimp only
  rw [ite_f (by omega)])
 have e0 : loopO (recall_copied_l1 l.fC) (0,l.fC) = _:=hrun
 rw [e0]
 rfl
theorem OkL.copied {l : TL} (h : OkL l) : recall_copied l = some l:=copied_eq (by have:=h.nn; omega) (by have:=h.nc; omega) (fun c hc => by have:=(h.claims c hc).2.1.2; omega)
theorem strict_small {l : TL} (h : Small l) {L : List Int} (hs : StrictI L) (hm : ∀ x ∈ L,x ∈ IDs l) : L.length ≤ 12:=by
 have:=nodup_len hs.nodup hm
 have:=h.n12
 unfold IDs at *
 rw [List.length_map] at *
 omega
theorem Comes_id {l : TL} (h : OkL l) {F : List Int} (hF : ∀ x ∈ F,x ∈ IDs l) {s : Nat → Nat → Bool} {q : Int} (hq : Comes (Ed l s) F q) : q ∈ IDs l:=by
 cases hq with
 | base hx => exact hF _ hx
 | step _ hx => exact (edge_ok h (Nat.le_refl _) hx).2.1
theorem PossP.id {l : TL} (h : OkL l) {F : List Int} (hF : ∀ x ∈ F,x ∈ IDs l) {q : Int} (hq : PossP l F q) : q ∈ IDs l:=by
 obtain ⟨c,_,h2⟩:=hq
 exact Comes_id h hF h2
theorem SureP.poss {l : TL} (h : OkL l) {F : List Int} {q : Int} (hq : SureP l F q) : PossP l F q:=⟨_,Cs_zero h,hq _ (Cs_zero h)⟩
structure Two (l : TL) (F A B : List Int) : Prop where
 sur : recall_Surely l F = some (A,0)
 pos : recall_Possibly l F = some (B,0)
 a : ∀ q,q ∈ A ↔ SureP l F q
 b : ∀ q,q ∈ B ↔ PossP l F q
 sa : StrictI A
 sb : StrictI B
 la : A.length ≤ 12
 lb : B.length ≤ 12
theorem two {l : TL} (h : Small l) {F : List Int} (hf : IsFrom l F) : ∃ A B,Two l F A B:=by
 obtain ⟨A,a1,a2,a3⟩:=Surely_ok h hf
 obtain ⟨B,b1,b2,b3⟩:=Possibly_ok h hf
 exact ⟨A,B,a1,b1,a3,b3,a2,b2,strict_small h a2 (fun x hx => (((a3 x).1 hx).poss h.ok).id h.ok hf.2.2),strict_small h b2 (fun x hx => ((b3 x).1 hx).id h.ok hf.2.2)⟩
end Go.Proofs.YtbblpokfbmekfaaGreat
namespace Go.Proofs.YtbblpokfbmekfaaGreat
theorem has_eq {L : List Int} (hl : L.length < 1000000000) (n : Int) : ref09_has L n = some (decide (n ∈ L)):=by
 unfold ref09_has
 have hrun:=loop_search (body:=ref09_has_l1 L n) (fun k => (false,(k : Int))) L.length (fun k => if L.getD k 0 = n then some (Sum.inl (true,(k : Int))) else none) (t0:=.inr (false,(L.length : Int))) (fun k hk => by
  unfold ref09_has_l1; dsimp only
  have eg : L.getD k 0 = L[k]:=by rw [List.getD_eq_getElem?_getD,List.getElem?_eq_getElem hk]; rfl
  rw [ite_t (by omega),gPo (by omega),rdL_nat hk,eg,w64_succ (by omega)]
  by_cases e : L[k] = n <;> simp [e]) (by
  unfold ref09_has_l1; dsimp only
  rw [ite_f (by omega)])
 have h0 : loopO (ref09_has_l1 L n) (false,0) = _:=hrun
 rw [h0,oB]
 rcases findSome_cases (R:=fun k => if L.getD k 0 = n then some (Sum.inl (true,(k : Int)) : (Bool × Int) ⊕ (Bool × Int)) else none) (n:=L.length) (.inr (false,(L.length : Int))) with ⟨hn,h2⟩ | ⟨k,t,hk,hR,hj,h2⟩
 ·rw [h2]
  have : n ∉ L:=fun hm => by
   obtain ⟨k,hk,e⟩:=List.mem_iff_getElem.1 hm
   have:=hn k hk
   rw [List.getD_eq_getElem?_getD,List.getElem?_eq_getElem hk] at this
   simp [e] at this
  simp [this]
 ·rw [h2]
  have hq : L.getD k 0 = n:=by
   by_cases hq : L.getD k 0 = n
   ·exact hq
   ·rw [if_neg hq] at hR; cases hR
  rw [if_pos hq] at hR
  cases hR
  have : n ∈ L:=by
   rw [List.getD_eq_getElem?_getD,List.getElem?_eq_getElem hk] at hq
   rw [← hq]
   exact List.getElem_mem hk
  simp [this]
theorem nodeI_at {l : TL} (h : OkL l) {k : Nat} (hk : k < l.fNo.length) : nodeI l (l.fNo[k]).fID = (k : Int):=idxI_at h.nd hk
theorem nodeI_k {l : TL} {q : Int} (hq : q ∈ IDs l) : ∃ k,∃ h : k < l.fNo.length,nodeI l q = (k : Int) ∧ (l.fNo[k]).fID = q:=by
 have h0:=nodeI_nonneg.2 hq
 obtain ⟨k,hk⟩:=Int.eq_ofNat_of_zero_le h0
 have hlt : k < l.fNo.length:=by have:=idxI_lt_len l.fNo (fun n => n.fID == q); unfold nodeI at hk; omega
 refine ⟨k,hlt,hk,?_⟩
 have:=idxI_get (l:=l.fNo) (q:=fun n => n.fID == q) (by unfold nodeI at h0; exact h0)
 unfold nodeI at hk
 rw [hk,rdL_nat hlt] at this
 simpa using this
structure HoldsB (l : TL) (X : List Bool) (P : Int → Prop) : Prop where
 len : X.length = l.fNo.length
 iff : ∀ k,(hk : k < l.fNo.length) → (rdL X (k : Int) = true ↔ P (l.fNo[k]).fID)
theorem HoldsB.at {l : TL} {X : List Bool} {P : Int → Prop} (h : HoldsB l X P) {q : Int} (hq : q ∈ IDs l) : rdL X (nodeI l q) = true ↔ P q:=by
 obtain ⟨k,hk,e1,e2⟩:=nodeI_k hq
 rw [e1,h.iff k hk,e2]
theorem put_eq {L : List Int} (hl : L.length ≤ 1000000) (hs : StrictI L) {n : Int} (hn : n ∉ L) : ∃ R,ref09_put L n = some R ∧ StrictI R ∧ (∀ q,q ∈ R ↔ q = n ∨ q ∈ L) ∧ R.length = L.length + 1:=by
 unfold ref09_put
 have key : ∃ t,loopO (ref09_put_l1 L n) ((L.length : Nat) : Int) = some t ∧ ∃ k : Nat,t = (k : Int) ∧ k ≤ L.length ∧ (∀ j,(hj : j < L.length) → k ≤ j → n < L[j]) ∧ (∀ h0 : 0 < k,(h1 : k ≤ L.length) → L[k - 1]'(by omega) ≤ n):=by
  refine loopO_inv (body:=ref09_put_l1 L n) (fun s => ∃ k : Nat,s = (k : Int) ∧ k ≤ L.length ∧ ∀ j,(hj : j < L.length) → k ≤ j → n < L[j]) (fun s t => ∃ k : Nat,t = (k : Int) ∧ k ≤ L.length ∧ (∀ j,(hj : j < L.length) → k ≤ j → n < L[j]) ∧ (∀ h0 : 0 < k,(h1 : k ≤ L.length) → L[k - 1]'(by omega) ≤ n)) (fun s => s.toNat) (fun s hs => ?_) _ ⟨L.length,rfl,Nat.le_refl _,fun j hj h => by omega⟩
  obtain ⟨k,rfl,i2,i3⟩:=hs
  unfold ref09_put_l1
  by_cases h0 : 0 < k
  ·have ew : w64 ((k : Int) - 1) = ((k - 1 : Nat) : Int):=by rw [w64_id (by omega) (by omega)]; omega
   have hlt : k - 1 < L.length:=by omega
   rw [ite_t (by omega),ew,gPo (by omega),rdL_nat hlt,oB]
   by_cases hc : n < L[k - 1]
   ·rw [if_pos (decide_eq_true hc)]
    refine .inl ⟨_,rfl,⟨k - 1,rfl,by omega,fun j hj h => ?_⟩,by omega,fun t ht => ht⟩
    by_cases e : j = k - 1
    ·subst e; exact hc
    ·exact i3 j hj (by omega)
   ·rw [if_neg (by simp [hc])]
    exact .inr ⟨_,rfl,k,rfl,i2,i3,fun _ _ => by omega⟩
  ·rw [ite_f (by omega),oB,if_neg (by simp)]
   exact .inr ⟨_,rfl,k,rfl,i2,i3,fun h => absurd h h0⟩
 obtain ⟨t,t1,k,rfl,k2,k3,k4⟩:=key
 rw [t1,oB,gPo (by omega),Int.toNat_natCast,gPo (by omega),gPo (by omega),gPo (by omega),gPo (by omega)]
 refine ⟨_,rfl,?_,fun q => ?_,?_⟩
 ·rw [List.nil_append,List.append_assoc]
  unfold StrictI at hs ⊢
  have hpw:=List.pairwise_iff_getElem.1 hs
  rw [List.pairwise_append]
  refine ⟨hs.sublist (List.take_sublist _ _),?_,fun a ha b hb => ?_⟩
  ·rw [List.singleton_append,List.pairwise_cons]
   refine ⟨fun b hb => ?_,hs.sublist (List.drop_sublist _ _)⟩
   obtain ⟨j,hj,rfl⟩:=List.mem_iff_getElem.1 hb
   rw [List.getElem_drop]
   rw [List.length_drop] at hj
   exact k3 _ (by omega) (by omega)
  ·obtain ⟨j,hj,rfl⟩:=List.mem_take_iff_getElem.1 ha
   have hlt : L[j]'(by omega) < n:=by
    have h1:=k4 (by omega) k2
    have hne : L[j]'(by omega) ≠ n:=fun e => hn (e ▸ List.getElem_mem _)
    by_cases e : j = k - 1
    ·subst e; omega
    ·have:=hpw j (k - 1) (by omega) (by omega) (by omega)
     omega
   rw [List.singleton_append] at hb
   rcases List.mem_cons.1 hb with rfl | hb
   ·exact hlt
   ·obtain ⟨i,hi,rfl⟩:=List.mem_iff_getElem.1 hb
    rw [List.getElem_drop]
    rw [List.length_drop] at hi
    have:=k3 (k + i) (by omega) (by omega)
    omega
 ·rw [List.nil_append,List.append_assoc,List.mem_append,List.mem_append,List.mem_singleton]
  have hsplit:=List.take_append_drop k L
  have : q ∈ L ↔ q ∈ L.take k ∨ q ∈ L.drop k:=by
   rw [← List.mem_append,hsplit]
  rw [this]
  exact ⟨fun h => by rcases h with h | h | h; exact .inr (.inl h); exact .inl h; exact .inr (.inr h),fun h => by rcases h with h | h | h; exact .inr (.inl h); exact .inl h; exact .inr (.inr h)⟩
 ·simp
  omega
theorem putLoop {l : TL} (h : OkL l) (P : Nat → Prop) [∀ k,Decidable (P k)] {body : (Int × List Int) → Option ((Int × List Int) ⊕ (Int × List Int))} (hb : ∀ k,(hk : k < l.fNo.length) → ∀ L : List Int,body ((k : Int),L) = if P k then (ref09_put L (l.fNo[k]).fID).bind fun y => some (.inl (((k + 1 : Nat) : Int),y)) else some (.inl (((k + 1 : Nat) : Int),L))) (hs : ∀ L : List Int,body ((l.fNo.length : Int),L) = some (.inr ((l.fNo.length : Int),L))) :
  ∃ t,loopO body (0,[]) = some t ∧ StrictI t.2 ∧ (∀ q,q ∈ t.2 ↔ ∃ k,∃ hk : k < l.fNo.length,P k ∧ (l.fNo[k]).fID = q) ∧ t.2.length ≤ l.fNo.length:=by
 have hnn:=h.nn
 refine loopO_inv (body:=body) (fun s => ∃ k : Nat,s.1 = (k : Int) ∧ k ≤ l.fNo.length ∧ StrictI s.2 ∧ (∀ q,q ∈ s.2 ↔ ∃ j,∃ hj : j < l.fNo.length,j < k ∧ P j ∧ (l.fNo[j]).fID = q) ∧ s.2.length ≤ k) (fun s t => StrictI t.2 ∧ (∀ q,q ∈ t.2 ↔ ∃ k,∃ hk : k < l.fNo.length,P k ∧ (l.fNo[k]).fID = q) ∧ t.2.length ≤ l.fNo.length) (fun s => ((l.fNo.length : Int) - s.1).toNat) (fun s hs' => ?_) _ ⟨0,rfl,by omega,List.Pairwise.nil,fun q => by simp,by simp⟩
 obtain ⟨ki,L⟩:=s
 obtain ⟨k,i1,i2,i3,i4,i5⟩:=hs'
 dsimp only at i1 i3 i4 i5 ⊢
 subst i1
 by_cases hk : k < l.fNo.length
 ·rw [hb k hk L]
  by_cases hP : P k
  ·have hnot : (l.fNo[k]).fID ∉ L:=fun hm => by
    obtain ⟨j,hj,hjk,_,e⟩:=(i4 _).1 hm
    have a1:=nodeI_at h hj
    have a2:=nodeI_at h hk
    rw [e,a2] at a1
    omega
   obtain ⟨R,r1,r2,r3,r4⟩:=put_eq (by omega) i3 hnot
   rw [if_pos hP,r1,oB]
   refine .inl ⟨_,rfl,⟨k + 1,rfl,by omega,r2,fun q => ?_,by dsimp only; omega⟩,by dsimp only; omega,fun t ht => ht⟩
   dsimp only
   rw [r3,i4]
   constructor
   ·rintro (rfl | ⟨j,hj,a,b⟩)
    ·exact ⟨k,hk,by omega,hP,rfl⟩
    ·exact ⟨j,hj,by omega,b⟩
   ·rintro ⟨j,hj,a,b,e⟩
    by_cases ej : j = k
    ·subst ej; exact .inl e.symm
    ·exact .inr ⟨j,hj,by omega,b,e⟩
  ·rw [if_neg hP]
   refine .inl ⟨_,rfl,⟨k + 1,rfl,by omega,i3,fun q => ?_,by dsimp only; omega⟩,by dsimp only; omega,fun t ht => ht⟩
   dsimp only
   rw [i4]
   constructor
   ·rintro ⟨j,hj,a,b⟩
    exact ⟨j,hj,by omega,b⟩
   ·rintro ⟨j,hj,a,b,e⟩
    by_cases ej : j = k
    ·subst ej; exact absurd b hP
    ·exact ⟨j,hj,by omega,b,e⟩
 ·have e : k = l.fNo.length:=by omega
  subst e
  rw [hs L]
  refine .inr ⟨_,rfl,i3,fun q => ?_,i5⟩
  dsimp only
  rw [i4]
  exact ⟨fun ⟨j,hj,_,b⟩ => ⟨j,hj,b⟩,fun ⟨j,hj,b⟩ => ⟨j,hj,hj,b⟩⟩
def caseAt (l : TL) (c : List Int) (k : Nat) : Prop:=0 ≤ c.getD k 0 ∧ c.getD k 0 ≤ ((oO l k).length : Int) - 1
instance (l : TL) (c : List Int) (k : Nat) : Decidable (caseAt l c k):=by unfold caseAt; infer_instance
theorem case_ret {l : TL} {c : List Int} (he : c.length = l.fC.length) : (match ((List.range c.length).findSome? fun k => if caseAt l c k then none else some (Sum.inl (false,(k : Int)) : (Bool × Int) ⊕ (Bool × Int))).getD (.inr (false,(c.length : Int))) with | .inl u => some u.1 | .inr _ => some true) = some (decide (c ∈ sCs l)):=by
 rcases findSome_cases (R:=fun k => if caseAt l c k then none else some (Sum.inl (false,(k : Int)) : (Bool × Int) ⊕ (Bool × Int))) (n:=c.length) (.inr (false,(c.length : Int))) with ⟨hn,h2⟩ | ⟨k,t,hk,hR,hj,h2⟩
 ·rw [h2]
  have : c ∈ sCs l:=mem_Cs.2 ⟨he,fun i hi => by
   have:=hn i (by omega)
   split at this
   ·rename_i hh
    unfold caseAt at hh
    omega
   ·cases this⟩
  rw [decide_eq_true this]
 ·rw [h2]
  have hq : ¬ caseAt l c k:=fun hq => by rw [if_pos hq] at hR; cases hR
  rw [if_neg hq] at hR
  cases hR
  have : c ∉ sCs l:=fun hm => hq (by
   have:=(mem_Cs.1 hm).2 k (by omega)
   unfold caseAt
   omega)
  rw [decide_eq_false this]
theorem isCase_eq {l : TL} (hc : OkL l) {c : List Int} : recall_isCase l c = some (decide (c ∈ sCs l)):=by
 have hnc:=hc.nc
 unfold recall_isCase
 by_cases he : c.length = l.fC.length
 ·rw [if_neg (by simp [he])]
  have hrun:=loop_search (body:=recall_isCase_l1 l c) (fun k => (false,(k : Int))) c.length (fun k => if caseAt l c k then none else some (Sum.inl (false,(k : Int)))) (t0:=.inr (false,(c.length : Int))) (fun k hk => by
   have ho : (rdL l.fC (k : Int)).fO = oO l k:=by rw [rdL_nat (by omega)]; unfold oO; rw [getD_lt (by omega)]
   have hle:=(optsOf_ok hc (i:=k) (by omega)).1
   have eg : rdL c (k : Int) = c.getD k 0:=rdL_getD c k
   unfold recall_isCase_l1; dsimp only
   rw [ite_t (by omega),gPo (by omega),gPo (by omega),within_eq,oB,ho,eg,w64_id (by omega) (by omega),w64_succ (by omega)]
   by_cases e : caseAt l c k
   ·have e' : 0 ≤ c.getD k 0 ∧ c.getD k 0 ≤ ((oO l k).length : Int) - 1:=e
    rw [if_pos e,decide_eq_true e',if_neg (by simp)]
   ·have e' : ¬ (0 ≤ c.getD k 0 ∧ c.getD k 0 ≤ ((oO l k).length : Int) - 1):=e
    rw [if_neg e,decide_eq_false e',if_pos (by rfl)]) (by
   unfold recall_isCase_l1; dsimp only
   rw [ite_f (by omega)])
  have h0 : loopO (recall_isCase_l1 l c) (false,0) = _:=hrun
  rw [h0,oB]
  exact case_ret he
 ·rw [if_pos (by simp; omega)]
  have : c ∉ sCs l:=fun hm => he (mem_Cs.1 hm).1
  rw [decide_eq_false this]
def cidI (l : TL) (i : Nat) : Int:=(l.fC.getD i default).fID
def sX (l : TL) (c : List Int) (x : Int → Bool) : Nat → Nat → Bool:=fun i k => sC c i k && !(x (cidI l i))
def EX' (l : TL) (c : List Int) (x : Int → Bool) : List TH:=Ed l (sX l c x)
def Open (l : TL) (F : List Int) (to : Int) (x : Int → Bool) : Prop:=∃ c ∈ sCs l,Comes (EX' l c x) F to
theorem mem_EX {l : TL} {c : List Int} (hc : c ∈ sCs l) {x : Int → Bool} {h : TH} : h ∈ EX' l c x ↔ ∃ i,i < l.fC.length ∧ x (cidI l i) = false ∧ pick l c i = h:=by
 unfold EX' Ed sX
 rw [mem_edges]
 have hm:=(mem_Cs.1 hc).2
 constructor
 ·rintro ⟨i,k,hi,hk,hs,e⟩
  rw [Bool.and_eq_true] at hs
  refine ⟨i,hi,by simpa using hs.2,?_⟩
  have hs1:=hs.1
  unfold sC at hs1
  rw [rdL_getD] at hs1
  have : c.getD i 0 = (k : Int):=by simpa using hs1
  unfold pick
  rw [this]
  exact e
 ·rintro ⟨i,hi,hx,e⟩
  obtain ⟨h1,h2⟩:=hm i hi
  refine ⟨i,(c.getD i 0).toNat,hi,by omega,?_,e⟩
  unfold sC
  rw [rdL_getD,Int.toNat_of_nonneg h1,beq_self_eq_true,hx]
  rfl
theorem Open.mono {l : TL} {F : List Int} {to : Int} {x y : Int → Bool} (h : ∀ q,y q = true → x q = true) (ho : Open l F to x) : Open l F to y:=by
 obtain ⟨c,hc,hq⟩:=ho
 refine ⟨c,hc,Comes.mono (fun e he => ?_) (fun z hz => hz) hq⟩
 obtain ⟨i,hi,hx,e⟩:=(mem_EX hc).1 he
 refine (mem_EX hc).2 ⟨i,hi,?_,e⟩
 cases hy : y (cidI l i)
 ·rfl
 ·rw [h _ hy] at hx; cases hx
theorem foldO_find {S α : Type} {f : S → α → Option (S ⊕ Bool)} {s : S} : ∀ {xs : List α},(∀ x ∈ xs,∃ b : Bool,f s x = if b = true then some (.inr true) else some (.inl s)) → (foldO f xs s = some (.inl s) ∧ ∀ x ∈ xs,f s x = some (.inl s)) ∨ (foldO f xs s = some (.inr true) ∧ ∃ x ∈ xs,f s x = some (.inr true))
 | [],_ => .inl ⟨rfl,fun x hx => by cases hx⟩
 | x :: xs,h => by
  obtain ⟨b,hb⟩:=h x (by simp)
  cases b with
  | true =>
   rw [if_pos rfl] at hb
   refine .inr ⟨?_,x,by simp,hb⟩
   unfold foldO
   rw [hb]
  | false =>
   rw [if_neg (by simp)] at hb
   rcases foldO_find (f:=f) (s:=s) (xs:=xs) (fun y hy => h y (by simp [hy])) with ⟨a,c⟩ | ⟨a,y,hy,c⟩
   ·refine .inl ⟨?_,fun y hy => ?_⟩
    ·unfold foldO; rw [hb]; exact a
    ·rcases List.mem_cons.1 hy with rfl | hy
     ·exact hb
     ·exact c y hy
   ·refine .inr ⟨?_,y,by simp [hy],c⟩
    unfold foldO; rw [hb]; exact a
theorem isCut_eq {l : TL} (h : Small l) {F : List Int} (hf : IsFrom l F) {to : Int} (ht : to ∈ IDs l) (m : List (Int × Bool)) : ∃ b,recall_isCut l F to m = some b ∧ (b = true ↔ ¬ Open l F to (mgetV false m)):=by
 have hso : ∀ i k : Nat,i < l.fC.length → k < (oO l i).length → recall_isCut_1 (i : Int) (k : Int) m l = some (!(mgetV false m (cidI l i))):=fun i k hi hk => by
  have hid:=(h.ok.claims _ (List.getElem_mem hi)).1
  have e : (rdL l.fC (i : Int)).fID = cidI l i:=by rw [rdL_nat hi]; unfold cidI; rw [getD_lt hi]
  have hr : rngB (rdL l.fC (i : Int)).fID = true:=by rw [rdL_nat hi]; exact rngB_i (by omega) (by omega)
  unfold recall_isCut_1
  rw [gPo (by omega),gPo hr,e]
 obtain ⟨r,r1,r2,r3⟩:=reach_eq h hf.2.2 (by have:=hf.len h; omega) (p2:=fun x3 x4 => recall_isCut_1 x3 x4 m l) (s:=fun i k => !(mgetV false m (cidI l i))) hso
 have hfold:=foldO_find (f:=recall_maybe_r1 l F to (fun x3 x4 => recall_isCut_1 x3 x4 m l)) (s:=false) (xs:=sCs l)
 have hstep : ∀ c ∈ sCs l,∃ b : Bool,recall_maybe_r1 l F to (fun x3 x4 => recall_isCut_1 x3 x4 m l) false c = (if b = true then some (.inr true) else some (.inl false)) ∧ (b = true ↔ Comes (EX' l c (mgetV false m)) F to):=fun c hc => by
  obtain ⟨q,q1,q2,q3⟩:=reach_eq h hf.2.2 (by have:=hf.len h; omega) (p2:=fun x y => recall_maybe_1 x y c (fun x3 x4 => recall_isCut_1 x3 x4 m l)) (s:=sX l c (mgetV false m)) (fun i k hi hk => by
   unfold recall_maybe_1 sX sC
   rw [gPo (by rw [(mem_Cs.1 hc).1]; omega)]
   by_cases e : (rdL c (i : Int) == (k : Int)) = true
   ·rw [if_pos e,e]
    have hso' : (fun x3 x4 => recall_isCut_1 x3 x4 m l) (i : Int) (k : Int) = _:=hso i k hi hk
    rw [hso']
    rfl
   ·rw [if_neg e]
    have e' : (rdL c (i : Int) == (k : Int)) = false:=by simpa using e
    rw [e']; rfl)
  refine ⟨mgetV false q to,?_,q2.get to⟩
  unfold recall_maybe_r1
  rw [q1,oB,gPo (id_rngB h.ok ht)]
 have hsub : ∀ c ∈ sCs l,Comes (EX' l c (mgetV false m)) F to → Comes (Ed l (fun i k => !(mgetV false m (cidI l i)))) F to:=fun c hc hq => by
  refine Comes.mono (fun x hx => ?_) (fun z hz => hz) hq
  unfold EX' Ed at hx
  obtain ⟨i,k,hi,hk,hs,e⟩:=mem_edges.1 hx
  unfold sX at hs
  rw [Bool.and_eq_true] at hs
  exact mem_edges.2 ⟨i,k,hi,hk,hs.2,e⟩
 unfold recall_isCut recall_maybe recall_cases
 rw [r1,oB,gPo (id_rngB h.ok ht)]
 by_cases hr : mgetV false r to = true
 ·rw [if_neg (by rw [hr]; simp),oB,gPo (Cs_ok h.ok)]
  rcases hfold (fun c hc => by obtain ⟨b,b1,_⟩:=hstep c hc; exact ⟨b,b1⟩) with ⟨a,c⟩ | ⟨a,x,hx,c⟩
  ·rw [a]
   refine ⟨true,rfl,fun _ => ?_,fun _ => rfl⟩
   rintro ⟨d,hd,hq⟩
   obtain ⟨b,b1,b2⟩:=hstep d hd
   rw [c d hd,b2.2 hq] at b1
   cases b1
  ·rw [a]
   refine ⟨false,rfl,fun h => (by cases h),fun hno => ?_⟩
   exfalso
   obtain ⟨b,b1,b2⟩:=hstep x hx
   rw [c] at b1
   cases b with
   | true => exact hno ⟨x,hx,b2.1 rfl⟩
   | false => cases b1
 ·have hr' : mgetV false r to = false:=by simpa using hr
  rw [if_pos (by rw [hr']; rfl)]
  refine ⟨true,rfl,fun _ => ?_,fun _ => rfl⟩
  rintro ⟨c,hc,hq⟩
  exact hr ((r2.get to).2 (hsub c hc hq))
def CIDs (l : TL) : List Int:=l.fC.map (·.fID)
theorem cid_rngB {l : TL} (h : OkL l) {x : Int} (hx : x ∈ CIDs l) : rngB x = true:=by
 obtain ⟨c,hc,rfl⟩:=List.mem_map.1 hx
 have:=(h.claims c hc).1
 exact rngB_i (by omega) (by omega)
theorem bool_decb {P Q : Prop} [Decidable P] [Decidable Q] (h : P ↔ Q) : decide P = decide Q:=by
 by_cases hp : P
 ·rw [decide_eq_true hp,decide_eq_true (h.1 hp)]
 ·rw [decide_eq_false hp,decide_eq_false (fun hq => hp (h.2 hq))]
theorem IndexInt_eq {s : List Int} (hl : s.length < 1000000000) (v : Int) : slices_Index_int_int s v = some (idxI s (fun x => v == x)):=by
 unfold slices_Index_int_int
 have:=loop_search (body:=slices_Index_int_int_l1 s v) (fun k => ((0 : Int),(k : Int))) s.length (fun k => if (v == s.getD k default) = true then some (Sum.inl ((k : Int),(k : Int))) else none) (t0:=.inr (0,(s.length : Int))) (fun k hk => by
  unfold slices_Index_int_int_l1; dsimp only
  rw [ite_t (by omega),gPo (by omega),rdL_nat hk,getD_lt hk,w64_succ (by omega)]
  cases (v == s[k]) <;> rfl) (by
  unfold slices_Index_int_int_l1; dsimp only
  rw [ite_f (by omega)])
 have h0 : loopO (slices_Index_int_int_l1 s v) (0,0) = _:=this
 rw [h0,oB]
 exact idxI_ret s (fun x => v == x)
theorem Contains_eq {s : List Int} (hl : s.length < 1000000000) (v : Int) : slices_Contains_int_int s v = some (decide (v ∈ s)):=by
 unfold slices_Contains_int_int
 rw [IndexInt_eq hl,oB]
 refine congrArg some (bool_decb ?_)
 rw [idxI_nonneg]
 simp
theorem askedTo_ok {l : TL} (h : Small l) {F : List Int} (hf : IsFrom l F) {to : Int} (ht : to ∈ IDs l) : recall_askedTo l F to = some 0:=by
 have hn : l.fNo.length < 1000000000:=by have:=h.n12; omega
 have hi : 0 ≤ nodeI l to:=nodeI_nonneg.2 ht
 unfold recall_askedTo
 rw [ask0 h hf,oB,if_neg (by simp),nodeOf_eq hn,oB,ite_f (by omega)]
structure CutOf (l : TL) (F : List Int) (to : Int) (C : List Int) : Prop where
 st : StrictI C
 sub : ∀ x ∈ C,x ∈ CIDs l
 len : C.length ≤ 12
 cut : ¬ Open l F to (fun q => decide (q ∈ C))
 min : ∀ x ∈ C,Open l F to (fun q => decide (q ∈ C ∧ q ≠ x))
theorem isLinks_eq {l : TL} (hc : l.fC.length < 1000000000) {C : List Int} (hl : C.length < 1000000000) (hs : StrictI C) (hm : ∀ x ∈ C,x ∈ CIDs l) : recall_isLinks l C = some true:=by
 obtain ⟨b,h1,h2⟩:=increasing_eq hl (so:=fun x3 => recall_isLinks_1 x3 l) (fun x => 0 ≤ linkI l x) (fun x hx => by
  unfold recall_isLinks_1
  rw [linkOf_eq hc]
  rfl)
 have : b = true:=h2.2 ⟨fun x hx => linkI_nonneg.2 (hm x hx),hs⟩
 subst this
 unfold recall_isLinks
 rw [h1]
 rfl
theorem CheckCut_eq {l : TL} (h : Small l) {F : List Int} (hf : IsFrom l F) {to : Int} (ht : to ∈ IDs l) {C : List Int} (hs : StrictI C) (hm : ∀ x ∈ C,x ∈ CIDs l) (hl : C.length ≤ 12) : ∃ e,recall_CheckCut l F to C = some e ∧ (¬ Open l F to (fun q => decide (q ∈ C)) → e = 0) ∧ (Open l F to (fun q => decide (q ∈ C)) → e = 8):=by
 unfold recall_CheckCut
 rw [askedTo_ok h hf ht,oB,if_neg (by simp),isLinks_eq (by have:=h.c12; omega) (by omega) hs hm,oB,if_neg (by simp)]
 have e3 : loopO (recall_CheckCut_l1 C) (0,[]) = some ((C.length : Int),addAll [] C):=addLoop (fun k hk => by
  unfold recall_CheckCut_l1; dsimp only
  rw [ite_t (by omega),gPo (by omega),rdL_nat hk,gPo ⟨cid_rngB h.ok (hm _ (List.getElem_mem hk)),by rw [addAll_len,List.length_take]; simp; omega⟩,w64_succ (by omega)]) (by
  unfold recall_CheckCut_l1; dsimp only
  rw [ite_f (by omega)])
 obtain ⟨b,b1,b2⟩:=isCut_eq h hf ht (addAll [] C)
 have hfun : mgetV false (addAll [] C) = (fun q => decide (q ∈ C)):=funext fun q => by
  rw [Bool.eq_iff_iff,addAll_get]
  simp [mgetV]
 rw [hfun] at b2
 rw [e3,oB,b1,oB]
 cases b with
 | true => exact ⟨0,rfl,fun _ => rfl,fun h => absurd h (b2.1 rfl)⟩
 | false => exact ⟨8,rfl,fun h => (by have:=b2.2 h; cases this),fun _ => rfl⟩
theorem foldO_first {S T α : Type} {f : S → α → Option (S ⊕ T)} {s : S} (g : α → Bool) (t : α → T) : ∀ {xs : List α},(∀ x ∈ xs,f s x = if g x = true then some (.inr (t x)) else some (.inl s)) → (foldO f xs s = some (.inl s) ∧ ∀ x ∈ xs,g x = false) ∨ ∃ x ∈ xs,g x = true ∧ foldO f xs s = some (.inr (t x))
 | [],_ => .inl ⟨rfl,fun x hx => by cases hx⟩
 | x :: xs,h => by
  have hx:=h x (by simp)
  cases hg : g x with
  | true =>
   rw [hg,if_pos rfl] at hx
   refine .inr ⟨x,by simp,hg,?_⟩
   unfold foldO
   rw [hx]
  | false =>
   rw [hg,if_neg (by simp)] at hx
   rcases foldO_first (f:=f) (s:=s) g t (xs:=xs) (fun y hy => h y (by simp [hy])) with ⟨a,c⟩ | ⟨y,hy,c,a⟩
   ·refine .inl ⟨?_,fun y hy => ?_⟩
    ·unfold foldO; rw [hx]; exact a
    ·rcases List.mem_cons.1 hy with rfl | hy
     ·exact hg
     ·exact c y hy
   ·refine .inr ⟨y,by simp [hy],c,?_⟩
    unfold foldO; rw [hx]; exact a
theorem find_eq {l : TL} (h : Small l) {F : List Int} (hf : IsFrom l F) {to : Int} (ht : to ∈ IDs l) (is : Bool) : (recall_find l F to is = some ([],false) ∧ ∀ c ∈ sCs l,cm l F to c ≠ is) ∨ ∃ c ∈ sCs l,cm l F to c = is ∧ recall_find l F to is = some (c,true):=by
 have hfl:=hf.len h
 have hc12:=h.c12
 unfold recall_find recall_cases
 rw [oB,gPo (Cs_ok h.ok)]
 rcases foldO_first (f:=recall_find_r1 l F to is) (s:=(false,[])) (fun c => cm l F to c == is) (fun c => (true,c)) (xs:=sCs l) (fun c hc => by
  obtain ⟨m,m1,m2,m3⟩:=reachC_eq h hf.2.2 hfl hc
  have hcl:=(mem_Cs.1 hc).1
  have e : mgetV false m to = cm l F to c:=by rw [Bool.eq_iff_iff,m2.get,cm_iff]
  unfold recall_find_r1 recall_inCase slices_Clone_int_int
  rw [oB,m1,oB,gPo (id_rngB h.ok ht),e,gPo (by omega)]
  rfl) with ⟨a,b⟩ | ⟨c,hc,b,a⟩
 ·rw [a]
  refine .inl ⟨rfl,fun c hc e => ?_⟩
  have:=b c hc
  rw [e] at this
  simp at this
 ·rw [a]
  exact .inr ⟨c,hc,by simpa using b,rfl⟩
theorem linkI_lt (l : TL) (id : Int) : linkI l id < (l.fC.length : Int):=idxI_lt_len _ _
def hopT (l : TL) (c : List Int) (id : Int) : TH:=pick l c (linkI l id).toNat
def StepOk (l : TL) (F c R : List Int) (k : Nat) : Prop:=(0 ≤ linkI l (R.getD k 0) ∧ R.getD k 0 ∉ R.take k) ∧ (if k = 0 then (hopT l c (R.getD k 0)).fFrom ∈ F else (hopT l c (R.getD k 0)).fFrom = (hopT l c (R.getD (k - 1) 0)).fTo)
instance (l : TL) (F c R : List Int) (k : Nat) : Decidable (StepOk l F c R k):=by unfold StepOk; infer_instance
def atT (l : TL) (c R : List Int) (k : Nat) : Int:=if k = 0 then 0 else (hopT l c (R.getD (k - 1) 0)).fTo
def LeadsP (l : TL) (F : List Int) (to : Int) (c R : List Int) : Prop:=c ∈ sCs l ∧ if R.length = 0 then to ∈ F else (∀ k,k < R.length → StepOk l F c R k) ∧ atT l c R R.length = to
theorem hopT_at {l : TL} {c : List Int} (hc : c ∈ sCs l) {id : Int} (h0 : 0 ≤ linkI l id) : ∃ i : Nat,linkI l id = (i : Int) ∧ i < l.fC.length ∧ hopT l c id = pick l c i ∧ (0 ≤ c.getD i 0 ∧ c.getD i 0 < ((oO l i).length : Int)) ∧ (rdL l.fC (i : Int)).fO = oO l i ∧ rdL c (i : Int) = c.getD i 0 ∧ rdL (oO l i) (c.getD i 0) = hopT l c id:=by
 obtain ⟨hcl,hcr⟩:=mem_Cs.1 hc
 obtain ⟨i,hi⟩:=Int.eq_ofNat_of_zero_le h0
 have hlt : i < l.fC.length:=by have:=linkI_lt l id; omega
 have e : hopT l c id = pick l c i:=by unfold hopT; rw [hi]; rfl
 exact ⟨i,hi,hlt,e,hcr i hlt,by rw [rdL_nat hlt]; unfold oO; rw [getD_lt hlt],rdL_getD _ i,e.symm ▸ rfl⟩
theorem getD0 {L : List Int} {k : Nat} (h : k < L.length) : L.getD k 0 = L[k]:=by rw [List.getD_eq_getElem?_getD,List.getElem?_eq_getElem h]; rfl
theorem steps_iff {l : TL} {F c R : List Int} {to : Int} (h0 : R.length ≠ 0) {T : Type} (f : Nat → T) (n : Nat) (hn : n = R.length) : (∀ k,k < n → (if StepOk l F c R k then none else some (f k)) = none) ↔ ∀ k,k < R.length → StepOk l F c R k:=by
 subst hn
 refine ⟨fun h k hk => ?_,fun h k hk => if_pos (h k hk)⟩
 have:=h k hk
 split at this
 ·assumption
 ·cases this
theorem leads_iff {l : TL} (h : Small l) {F : List Int} (hFl : F.length ≤ 1000) (to : Int) {t : TTrace} (ht : t.fC.length ≤ 1000) : ∃ b,recall_leads l F to t = some b ∧ (b = true ↔ LeadsP l F to t.fCase t.fC):=by
 have hc12:=h.c12
 unfold recall_leads LeadsP
 rw [isCase_eq h.ok,oB]
 by_cases hc : t.fCase ∈ sCs l
 ·obtain ⟨hcl,hcr⟩:=mem_Cs.1 hc
  rw [decide_eq_true hc,if_neg (by simp)]
  by_cases h0 : t.fC.length = 0
  ·rw [if_pos (by simp [h0]),Contains_eq (by omega),oB,if_pos h0]
   exact ⟨_,rfl,by simp [hc]⟩
  ·rw [if_neg (by simp; intro e; exact h0 (by rw [e]; rfl)),if_neg h0]
   have hrun:=loop_search (body:=recall_leads_l1 l F t) (fun k => (false,atT l t.fCase t.fC k,(k : Int))) t.fC.length (fun k => if StepOk l F t.fCase t.fC k then none else some (.inl (false,atT l t.fCase t.fC k,(k : Int)))) (t0:=.inr (false,atT l t.fCase t.fC t.fC.length,(t.fC.length : Int))) (fun k hk => by
    unfold recall_leads_l1; dsimp only
    have eg : t.fC.getD k 0 = t.fC[k]:=getD0 hk
    rw [ite_t (by omega),gPo (by omega),rdL_nat hk,linkOf_eq (by omega),oB,Int.toNat_natCast]
    by_cases hneg : linkI l t.fC[k] < 0
    ·rw [ite_t hneg,oB,if_pos rfl,if_neg (fun h => by have:=h.1.1; rw [eg] at this; omega)]
    ·obtain ⟨i,hi,hlt,e1,⟨r1,r2⟩,ho,ec,ep⟩:=hopT_at hc (id:=t.fC[k]) (by omega)
     rw [ite_f hneg,gPo (by omega),Contains_eq (by rw [List.length_take]; omega),oB,oB]
     by_cases hd : t.fC[k] ∈ t.fC.take k
     ·rw [if_pos (by simp [hd]),if_neg (fun h => h.1.2 (by rw [eg]; exact hd))]
     ·rw [if_neg (by simp [hd]),hi,gPo (by omega),gPo (by omega),ho,ec,gPo ⟨r1,r2⟩,ep,w64_succ (by omega)]
      have base : 0 ≤ linkI l (t.fC.getD k 0) ∧ t.fC.getD k 0 ∉ t.fC.take k:=by rw [eg]; exact ⟨by omega,hd⟩
      by_cases hk0 : k = 0
      ·subst hk0
       rw [if_pos (by rfl),Contains_eq (by omega),oB,oB]
       by_cases hf : (hopT l t.fCase t.fC[0]).fFrom ∈ F
       ·rw [if_neg (by simp [hf]),if_pos ⟨base,by rw [if_pos rfl,eg]; exact hf⟩]
        unfold atT
        rw [if_neg (by omega),Nat.add_sub_cancel,eg]
       ·rw [if_pos (by simp [hf]),if_neg (fun h => hf (by have:=h.2; rw [if_pos rfl,eg] at this; exact this))]
      ·rw [if_neg (by simp; omega),oB]
       have ea : atT l t.fCase t.fC k = (hopT l t.fCase (t.fC.getD (k - 1) 0)).fTo:=by unfold atT; rw [if_neg hk0]
       have ea2 : atT l t.fCase t.fC (k + 1) = (hopT l t.fCase t.fC[k]).fTo:=by unfold atT; rw [if_neg (by omega),Nat.add_sub_cancel,eg]
       by_cases hf : (hopT l t.fCase t.fC[k]).fFrom = atT l t.fCase t.fC k
       ·rw [if_neg (by simp [hf]),if_pos ⟨base,by rw [if_neg hk0,eg,← ea]; exact hf⟩,ea2]
       ·rw [if_pos (by simp [hf]; omega),if_neg (fun h => hf (by have:=h.2; rw [if_neg hk0,eg,← ea] at this; exact this))]) (by
    unfold recall_leads_l1; dsimp only
    rw [ite_f (by omega)])
   have h00 : loopO (recall_leads_l1 l F t) (false,0,0) = _:=hrun
   rw [h00,oB]
   rcases findSome_cases (R:=fun k => if StepOk l F t.fCase t.fC k then none else some (Sum.inl (false,atT l t.fCase t.fC k,(k : Int)) : (Bool × Int × Int) ⊕ (Bool × Int × Int))) (n:=t.fC.length) (.inr (false,atT l t.fCase t.fC t.fC.length,(t.fC.length : Int))) with ⟨hn,h2⟩ | ⟨k,u,hk,hR,hj,h2⟩
   ·rw [h2]
    have hall:=(steps_iff (to:=to) h0 _ _ rfl).1 hn
    refine ⟨_,rfl,?_⟩
    dsimp only
    rw [beq_iff_eq]
    exact ⟨fun e => ⟨hc,hall,e⟩,fun e => e.2.2⟩
   ·rw [h2]
    have hno : ¬ StepOk l F t.fCase t.fC k:=fun h => by rw [if_pos h] at hR; cases hR
    rw [if_neg hno] at hR
    cases hR
    exact ⟨false,rfl,fun h => (by cases h),fun h => absurd (h.2.1 k hk) hno⟩
 ·rw [decide_eq_false hc,if_pos (by rfl)]
  exact ⟨false,rfl,fun h => (by cases h),fun h => absurd h.1 hc⟩
theorem LeadsP.comes {l : TL} {F : List Int} {to : Int} {c R : List Int} (h : LeadsP l F to c R) {E : List TH} (hE : ∀ id ∈ R,0 ≤ linkI l id → hopT l c id ∈ E) : Comes E F to:=by
 obtain ⟨hc,h⟩:=h
 by_cases h0 : R.length = 0
 ·rw [if_pos h0] at h
  exact .base h
 ·rw [if_neg h0] at h
  obtain ⟨hs,ha⟩:=h
  have key : ∀ k,k < R.length → Comes E F (hopT l c (R.getD k 0)).fTo:=by
   intro k
   induction k with
   | zero =>
    intro hk
    obtain ⟨⟨a,b⟩,d⟩:=hs 0 hk
    rw [if_pos rfl] at d
    exact .step (.base d) (hE _ (by rw [getD0 hk]; exact List.getElem_mem hk) a)
   | succ k ih =>
    intro hk
    obtain ⟨⟨a,b⟩,d⟩:=hs (k + 1) hk
    rw [if_neg (by omega),Nat.add_sub_cancel] at d
    have:=ih (by omega)
    rw [← d] at this
    exact .step this (hE _ (by rw [getD0 hk]; exact List.getElem_mem hk) a)
  have:=key (R.length - 1) (by omega)
  unfold atT at ha
  rw [if_neg h0] at ha
  rw [← ha]
  exact this
theorem hopT_EC {l : TL} {c : List Int} (hc : c ∈ sCs l) {id : Int} (h0 : 0 ≤ linkI l id) : hopT l c id ∈ EC l c:=by
 obtain ⟨i,hi,hlt,e,_⟩:=hopT_at hc h0
 exact (mem_EC hc).2 ⟨i,hlt,e.symm⟩
theorem LeadsP.reached {l : TL} {F : List Int} {to : Int} {c R : List Int} (h : LeadsP l F to c R) : Comes (EC l c) F to:=h.comes (fun id _ h0 => hopT_EC h.1 h0)
inductive Ch (l : TL) (c : List Int) : Int → List Int → Int → Prop
 | nil (a : Int) : Ch l c a [] a
 | cons {id : Int} {R : List Int} {to : Int} : 0 ≤ linkI l id → Ch l c (hopT l c id).fTo R to → Ch l c (hopT l c id).fFrom (id :: R) to
theorem Ch.lead {l : TL} {c R : List Int} {a to : Int} (h : Ch l c a R to) : (∀ k,k < R.length → 0 ≤ linkI l (R.getD k 0) ∧ (hopT l c (R.getD k 0)).fFrom = if k = 0 then a else (hopT l c (R.getD (k - 1) 0)).fTo) ∧ (if R.length = 0 then a = to else (hopT l c (R.getD (R.length - 1) 0)).fTo = to):=by
 induction h with
 | nil a => exact ⟨fun k hk => by simp at hk,rfl⟩
 | @cons id R to h0 _ ih =>
  refine ⟨fun k hk => ?_,?_⟩
  ·cases k with
   | zero => exact ⟨h0,rfl⟩
   | succ k =>
    have:=ih.1 k (by simpa using hk)
    refine ⟨this.1,?_⟩
    rw [if_neg (by omega),Nat.add_sub_cancel]
    cases k with
    | zero => rw [if_pos rfl] at this; exact this.2
    | succ k => rw [if_neg (by omega),Nat.add_sub_cancel] at this; exact this.2
  ·rw [if_neg (by simp)]
   have h2:=ih.2
   by_cases hr : R.length = 0
   ·have : R = []:=List.eq_nil_of_length_eq_zero hr
    subst this
    exact h2
   ·rw [if_neg hr] at h2
    rw [← h2]
    obtain ⟨n,hn⟩ : ∃ n,R.length = n + 1:=⟨R.length - 1,by omega⟩
    rw [List.length_cons,hn]
    rfl
theorem notin_take {R : List Int} (h : R.Nodup) {k : Nat} (hk : k < R.length) : R.getD k 0 ∉ R.take k:=by
 rw [getD0 hk]
 intro hm
 have e : R = R.take k ++ R[k] :: R.drop (k + 1):=by rw [← List.drop_eq_getElem_cons hk,List.take_append_drop]
 rw [e,List.nodup_append] at h
 exact h.2.2 _ hm _ List.mem_cons_self rfl
theorem Ch.leads {l : TL} {F c R : List Int} {a to : Int} (hc : c ∈ sCs l) (h : Ch l c a R to) (hn : R.Nodup) (ha : a ∈ F) : LeadsP l F to c R:=by
 obtain ⟨h1,h2⟩:=h.lead
 refine ⟨hc,?_⟩
 by_cases h0 : R.length = 0
 ·rw [if_pos h0] at h2 ⊢
  rw [← h2]; exact ha
 ·rw [if_neg h0] at h2 ⊢
  refine ⟨fun k hk => ⟨⟨(h1 k hk).1,notin_take hn hk⟩,?_⟩,?_⟩
  ·have:=(h1 k hk).2
   by_cases hk0 : k = 0
   ·rw [if_pos hk0] at this ⊢
    rw [this]; exact ha
   ·rw [if_neg hk0] at this ⊢
    exact this
  ·unfold atT
   rw [if_neg h0]
   exact h2
theorem lv_rg {l : TL} (h : OkL l) {q : Int} (hq : q ∈ IDs l) : 0 ≤ lvI l q:=by
 unfold lvI
 exact (h.nodes _ (idxI_mem (nodeI_nonneg.2 hq))).2.1.1
theorem linkI_at {l : TL} (h : OkL l) {i : Nat} (hi : i < l.fC.length) : linkI l (l.fC[i]).fID = (i : Int):=idxI_at h.cd hi
theorem rdL_set {X : List Int} {j : Nat} (hj : j < X.length) (v : Int) (k : Nat) : rdL (X.set j v) (k : Int) = if k = j then v else rdL X (k : Int):=by
 unfold rdL
 rw [Int.toNat_natCast,List.getD_eq_getElem?_getD,List.getElem?_set]
 by_cases e : j = k
 ·subst e; simp [hj]
 ·rw [if_neg e,if_neg (fun h => e h.symm),List.getD_eq_getElem?_getD]
theorem Reverse_eq {L : List Int} (hl : L.length ≤ 1000) : slices_Reverse_int_int L = some L.reverse:=by
 unfold slices_Reverse_int_int
 have e0 : w64 (((L.length : Nat) : Int) - 1) = (L.length : Int) - 1:=w64_id (by omega) (by omega)
 have key : ∃ u,loopO (slices_Reverse_int_int_l1 L) (0,(L.length : Int) - 1,L) = some u ∧ u.2.2.length = L.length ∧ ∀ p : Nat,p < L.length → rdL u.2.2 (p : Int) = rdL L ((L.length - 1 - p : Nat) : Int):=by
  refine loopO_inv (body:=slices_Reverse_int_int_l1 L) (fun s => ∃ i : Nat,s.1 = (i : Int) ∧ s.2.1 = (L.length : Int) - 1 - (i : Int) ∧ 2 * i ≤ L.length ∧ s.2.2.length = L.length ∧ ∀ p : Nat,p < L.length → rdL s.2.2 (p : Int) = if p < i ∨ L.length < p + i + 1 then rdL L ((L.length - 1 - p : Nat) : Int) else rdL L (p : Int)) (fun s u => u.2.2.length = L.length ∧ ∀ p : Nat,p < L.length → rdL u.2.2 (p : Int) = rdL L ((L.length - 1 - p : Nat) : Int)) (fun s => ((L.length : Int) - s.1).toNat) (fun s hs => ?_) _ ⟨0,rfl,by dsimp only; omega,by omega,rfl,fun p hp => by rw [if_neg (by omega)]⟩
  obtain ⟨a,b,X⟩:=s
  obtain ⟨i,i1,i2,i3,i4,i5⟩:=hs
  dsimp only at i1 i2 i4 i5 ⊢
  subst i1 i2
  unfold slices_Reverse_int_int_l1; dsimp only
  by_cases hc : (i : Int) < (L.length : Int) - 1 - (i : Int)
  ·obtain ⟨j,hj⟩ : ∃ j : Nat,j = L.length - 1 - i:=⟨_,rfl⟩
   have hji : (L.length : Int) - 1 - (i : Int) = (j : Int):=by omega
   rw [ite_t hc,hji,gPo (by omega),gPo (by omega),gPo (by omega),gPo (by omega),w64_succ (by omega),w64_id (x:=(j : Int) - 1) (by omega) (by omega),Int.toNat_natCast,Int.toNat_natCast]
   have ri:=i5 i (by omega)
   have rj:=i5 j (by omega)
   rw [if_neg (by omega)] at ri rj
   refine .inl ⟨_,rfl,⟨i + 1,rfl,by dsimp only; omega,by omega,by dsimp only; rw [List.length_set,List.length_set]; exact i4,fun p hp => ?_⟩,by dsimp only; omega,fun u hu => hu⟩
   dsimp only
   rw [rdL_set (by rw [List.length_set]; omega),rdL_set (by omega),ri,rj]
   by_cases e1 : p = j
   ·subst e1
    rw [if_pos rfl,if_pos (by omega),show L.length - 1 - p = i by omega]
   ·rw [if_neg e1]
    by_cases e2 : p = i
    ·subst e2
     rw [if_pos rfl,if_pos (by omega),show L.length - 1 - p = j by omega]
    ·rw [if_neg e2,i5 p hp]
     by_cases e3 : p < i ∨ L.length < p + i + 1
     ·rw [if_pos e3,if_pos (by omega)]
     ·rw [if_neg e3,if_neg (by omega)]
  ·rw [ite_f hc]
   refine .inr ⟨_,rfl,i4,fun p hp => ?_⟩
   dsimp only
   rw [i5 p hp]
   by_cases e3 : p < i ∨ L.length < p + i + 1
   ·rw [if_pos e3]
   ·rw [if_neg e3,show L.length - 1 - p = p by omega]
 obtain ⟨u,u1,u2,u3⟩:=key
 rw [e0,u1,oB]
 refine congrArg some (List.ext_getElem (by rw [u2,List.length_reverse]) (fun p h1 h2 => ?_))
 have h3:=u3 p (by omega)
 rw [rdL_nat h1,rdL_nat (by omega)] at h3
 rw [h3,List.getElem_reverse]
theorem walk_eq {l : TL} (h : Small l) {F : List Int} (hf : IsFrom l F) {to : Int} {c : List Int} (hc : c ∈ sCs l) (hq : Comes (EC l c) F to) : ∃ R,recall_walk l F to c = some R ∧ LeadsP l F to c R ∧ R.length ≤ 12:=by
 have hfl:=hf.len h
 have hc12:=h.c12
 obtain ⟨hcl,hcr⟩:=mem_Cs.1 hc
 obtain ⟨m,m1,m2,m3⟩:=reachC_eq h hf.2.2 hfl hc
 have hRl : ∀ R : List Int,R.Nodup → (∀ id ∈ R,0 ≤ linkI l id) → R.length ≤ 12:=fun R hn hm => by
  have:=nodup_len hn (l2:=l.fC.map (·.fID)) (fun x hx => linkI_nonneg.1 (hm x hx))
  rw [List.length_map] at this
  omega
 unfold recall_walk recall_inCase
 rw [oB,m1,oB]
 have key : ∃ u,loopO (recall_walk_l1 l F c m) (to,[]) = some u ∧ u.1 ∈ F ∧ Ch l c u.1 u.2.reverse to ∧ u.2.Nodup ∧ ∀ id ∈ u.2,0 ≤ linkI l id:=by
  refine loopO_inv (body:=recall_walk_l1 l F c m) (fun s => Comes (EC l c) F s.1 ∧ Ch l c s.1 s.2.reverse to ∧ s.2.Nodup ∧ ∀ id ∈ s.2,0 ≤ linkI l id ∧ lvI l s.1 < lvI l (hopT l c id).fTo) (fun s u => u.1 ∈ F ∧ Ch l c u.1 u.2.reverse to ∧ u.2.Nodup ∧ ∀ id ∈ u.2,0 ≤ linkI l id) (fun s => (lvI l s.1).toNat) (fun s hs => ?_) _ ⟨hq,.nil _,by simp,fun id hi => (by cases hi)⟩
  obtain ⟨at',out⟩:=s
  obtain ⟨i1,i2,i3,i4⟩:=hs
  dsimp only at i1 i2 i3 i4 ⊢
  unfold recall_walk_l1; dsimp only
  rw [Contains_eq (by omega),oB]
  by_cases hF : at' ∈ F
  ·rw [if_neg (by simp [hF])]
   exact .inr ⟨_,rfl,hF,i2,i3,fun id hi => (i4 id hi).1⟩
  ·have hix:=IndexClaim_eq (l:=l.fC) (f:=fun x20 => recall_walk_1 x20 c l at' m) (q:=fun x => ((hopT l c x.fID).fTo == at') && mgetV false m (hopT l c x.fID).fFrom) (by omega) (fun x hx => by
    obtain ⟨i,hi,rfl⟩:=List.mem_iff_getElem.1 hx
    obtain ⟨i',hi',hlt,e,⟨r1,r2⟩,ho,ec,ep⟩:=hopT_at hc (id:=l.fC[i].fID) (by rw [linkI_at h.ok hi]; omega)
    have : i' = i:=by rw [linkI_at h.ok hi] at hi'; omega
    subst this
    rw [rdL_nat hi] at ho
    unfold recall_walk_1
    rw [linkOf_eq (by omega),oB,linkI_at h.ok hi,gPo (by omega),ec,ho,gPo ⟨r1,r2⟩,ep]
    have hfr : rngB (hopT l c l.fC[i'].fID).fFrom = true:=by
     refine id_rngB h.ok ?_
     have:=hopT_EC hc (id:=l.fC[i'].fID) (by rw [linkI_at h.ok hi]; omega)
     exact (edge_ok h.ok (s:=sC c) (Nat.le_refl _) this).1
    by_cases e1 : (hopT l c l.fC[i'].fID).fTo = at'
    ·rw [if_pos (by simp [e1]),gPo hfr,oB]
     simp [e1]
    ·rw [if_neg (by simp [e1]),oB]
     simp [e1])
   have hex : 0 ≤ idxI l.fC (fun x => ((hopT l c x.fID).fTo == at') && mgetV false m (hopT l c x.fID).fFrom):=by
    refine idxI_nonneg.2 ?_
    cases i1 with
    | base hx => exact absurd hx hF
    | @step e hcm hh =>
     obtain ⟨i,hi,rfl⟩:=(mem_EC hc).1 hh
     refine ⟨l.fC[i],List.getElem_mem hi,?_⟩
     have e : hopT l c l.fC[i].fID = pick l c i:=by unfold hopT; rw [linkI_at h.ok hi]; rfl
     rw [e,Bool.and_eq_true]
     exact ⟨by simp,(m2.get _).2 hcm⟩
   have hget:=idxI_get hex
   have hlt:=idxI_lt_len l.fC (fun x => ((hopT l c x.fID).fTo == at') && mgetV false m (hopT l c x.fID).fFrom)
   obtain ⟨i,hi⟩:=Int.eq_ofNat_of_zero_le hex
   rw [hi] at hget hlt
   have hil : i < l.fC.length:=by omega
   rw [rdL_nat hil,Bool.and_eq_true,m2.get] at hget
   obtain ⟨g1,g2⟩:=hget
   have g1' : (hopT l c l.fC[i].fID).fTo = at':=by simpa using g1
   have hl0 : 0 ≤ linkI l l.fC[i].fID:=by rw [linkI_at h.ok hil]; omega
   obtain ⟨i',hi',_,e,⟨r1,r2⟩,ho,ec,ep⟩:=hopT_at hc hl0
   have : i' = i:=by rw [linkI_at h.ok hil] at hi'; omega
   subst this
   have hE:=edge_ok h.ok (s:=sC c) (Nat.le_refl _) (hopT_EC hc hl0)
   have hol:=hRl out i3 (fun id hid => (i4 id hid).1)
   rw [if_pos (by simp [hF]),hix,oB,hi,gPo (by omega),gPo (by omega),gPo (by omega),gPo (by omega),ho,ec,gPo ⟨r1,r2⟩,ep,rdL_nat hil]
   have hlv:=lv_rg h.ok hE.1
   have hlt2:=hE.2.2
   rw [g1'] at hlt2
   refine .inl ⟨_,rfl,⟨g2,?_,?_,fun id hid => ?_⟩,?_,fun u hu => hu⟩
   ·dsimp only
    rw [List.reverse_append]
    exact .cons hl0 (by rw [g1']; exact i2)
   ·dsimp only
    rw [List.nodup_append]
    refine ⟨i3,by simp,fun a ha b hb e => ?_⟩
    rw [List.mem_singleton.1 hb] at e
    subst e
    have:=(i4 _ ha).2
    rw [g1'] at this
    omega
   ·dsimp only at hid ⊢
    rcases List.mem_append.1 hid with hid | hid
    ·have:=i4 id hid
     exact ⟨this.1,by omega⟩
    ·rw [List.mem_singleton.1 hid]
     exact ⟨hl0,by rw [g1']; exact hlt2⟩
   ·dsimp only
    omega
 obtain ⟨u,u1,u2,u3,u4,u5⟩:=key
 have hul:=hRl u.2 u4 u5
 rw [u1,oB,Reverse_eq (by omega),oB]
 exact ⟨_,rfl,u3.leads hc (List.pairwise_reverse.2 (u4.imp (fun h => h.symm))) u2,by rw [List.length_reverse]; exact hul⟩
theorem askedTo_err {l : TL} {F : List Int} (hl : F.length ≤ 1000) (h : askS l F ≠ 0) (to : Int) : recall_askedTo l F to = some (askS l F):=by
 unfold recall_askedTo
 rw [asked_S (by omega),oB,if_pos (by simp [h])]
theorem askedTo_none {l : TL} (h : Small l) {F : List Int} (hf : IsFrom l F) {to : Int} (ht : to ∉ IDs l) : recall_askedTo l F to = some 5:=by
 unfold recall_askedTo
 have hn : l.fNo.length < 1000000000:=by have:=h.n12; omega
 have hi : ¬ 0 ≤ nodeI l to:=fun hh => ht (nodeI_nonneg.1 hh)
 rw [ask0 h hf,oB,if_neg (by simp),nodeOf_eq hn,oB,ite_t (by omega)]
theorem to_err {l : TL} {F : List Int} {to e : Int} (h : recall_askedTo l F to = some e) (he : e ≠ 0) : recall_Way l F to = some (⟨[],[]⟩,e) ∧ recall_Clear l F to = some ([],e) ∧ (∀ t,recall_CheckWay l F to t = some e) ∧ ∀ c,recall_CheckClear l F to c = some e:=by
 refine ⟨?_,?_,fun t => ?_,fun c => ?_⟩
 ·unfold recall_Way
  rw [h,oB,if_pos (by simp [he])]
 ·unfold recall_Clear
  rw [h,oB,if_pos (by simp [he])]
 ·unfold recall_CheckWay
  rw [h,oB,if_pos (by simp [he])]
 ·unfold recall_CheckClear
  rw [h,oB,if_pos (by simp [he])]
theorem CheckWay_ok {l : TL} (h : Small l) {F : List Int} (hf : IsFrom l F) {to : Int} (ht : to ∈ IDs l) {t : TTrace} (htl : t.fC.length ≤ 1000) : ∃ v,recall_CheckWay l F to t = some v ∧ (v = 0 ↔ LeadsP l F to t.fCase t.fC):=by
 have hfl:=hf.len h
 obtain ⟨b,b1,b2⟩:=leads_iff h (F:=F) (by omega) to htl
 unfold recall_CheckWay
 rw [askedTo_ok h hf ht,oB,if_neg (by simp),b1,oB]
 cases b with
 | true => exact ⟨0,rfl,fun _ => b2.1 rfl,fun _ => rfl⟩
 | false => exact ⟨8,rfl,fun h => (by cases h),fun h => (by have:=b2.2 h; cases this)⟩
theorem Way_ok {l : TL} (h : Small l) {F : List Int} (hf : IsFrom l F) {to : Int} (ht : to ∈ IDs l) : (recall_Way l F to = some (⟨[],[]⟩,5) ∧ ¬ PossP l F to) ∨ ∃ t,recall_Way l F to = some (t,0) ∧ LeadsP l F to t.fCase t.fC ∧ t.fC.length ≤ 12:=by
 unfold recall_Way
 rw [askedTo_ok h hf ht,oB,if_neg (by simp)]
 rcases find_eq h hf ht true with ⟨a,b⟩ | ⟨c,hc,b,a⟩
 ·rw [a,oB,if_pos (by rfl)]
  exact .inl ⟨rfl,fun ⟨c,hc,hq⟩ => b c hc (cm_iff.2 hq)⟩
 ·obtain ⟨R,r1,r2,r3⟩:=walk_eq h hf hc (cm_iff.1 b)
  rw [a,oB,if_neg (by simp),r1,oB]
  exact .inr ⟨⟨c,R⟩,rfl,r2,r3⟩
theorem Reach_ok {l : TL} (h : Small l) {F : List Int} (hf : IsFrom l F) {c : List Int} (hc : c ∈ sCs l) : ∃ L,recall_Reach l F c = some (L,0) ∧ (∀ q,q ∈ L ↔ Comes (EC l c) F q) ∧ L.length ≤ 12:=by
 have hfl:=hf.len h
 obtain ⟨m,m1,m2,m3⟩:=reachC_eq h hf.2.2 hfl hc
 unfold recall_Reach recall_inCase
 rw [ask0 h hf,oB,if_neg (by simp),isCase_eq h.ok,decide_eq_true hc,oB,if_neg (by simp),oB,m1,oB,listed_eq h (fun p hp => (m2.key p hp).1) (by omega)]
 have hm:=fun q => ((listedV_spec m).2 q).trans (m2.get q)
 refine ⟨listedV m,rfl,hm,?_⟩
 have:=nodup_len (listedV_spec m).1.nodup (l2:=IDs l) (fun q hq => Comes_id h.ok hf.2.2 ((hm q).1 hq))
 have:=h.n12
 unfold IDs at *
 rw [List.length_map] at *
 omega
def ES (l : TL) (c : List Int) (s : Nat → Nat → Bool) : List TH:=Ed l (fun i k => sC c i k && s i k)
def MayP (l : TL) (F : List Int) (to : Int) (s : Nat → Nat → Bool) : Prop:=∃ c ∈ sCs l,Comes (ES l c s) F to
def vI (c : List Int) (i : Nat) : Nat:=(c.getD i 0).toNat
theorem mem_ES {l : TL} {c : List Int} (hc : c ∈ sCs l) {s : Nat → Nat → Bool} {h : TH} : h ∈ ES l c s ↔ ∃ i,i < l.fC.length ∧ s i (vI c i) = true ∧ pick l c i = h:=by
 unfold ES Ed
 rw [mem_edges]
 have hm:=(mem_Cs.1 hc).2
 constructor
 ·rintro ⟨i,k,hi,hk,hs,e⟩
  rw [Bool.and_eq_true] at hs
  have hs1:=hs.1
  unfold sC at hs1
  rw [rdL_getD] at hs1
  have hck : c.getD i 0 = (k : Int):=by simpa using hs1
  refine ⟨i,hi,?_,?_⟩
  ·unfold vI
   rw [hck]
   exact hs.2
  ·unfold pick
   rw [hck]
   exact e
 ·rintro ⟨i,hi,hx,e⟩
  obtain ⟨h1,h2⟩:=hm i hi
  refine ⟨i,(c.getD i 0).toNat,hi,by omega,?_,e⟩
  unfold sC
  rw [rdL_getD,Int.toNat_of_nonneg h1,beq_self_eq_true]
  exact hx
theorem maybe_eq {l : TL} (h : Small l) {F : List Int} (hf : IsFrom l F) {to : Int} (ht : to ∈ IDs l) {so : Int → Int → Option Bool} {s : Nat → Nat → Bool} (hso : ∀ i k : Nat,i < l.fC.length → k < (oO l i).length → so (i : Int) (k : Int) = some (s i k)) : ∃ b,recall_maybe l F to so = some b ∧ (b = true ↔ MayP l F to s):=by
 obtain ⟨r,r1,r2,r3⟩:=reach_eq h hf.2.2 (by have:=hf.len h; omega) (p2:=so) (s:=s) hso
 have hfold:=foldO_find (f:=recall_maybe_r1 l F to so) (s:=false) (xs:=sCs l)
 have hstep : ∀ c ∈ sCs l,∃ b : Bool,recall_maybe_r1 l F to so false c = (if b = true then some (.inr true) else some (.inl false)) ∧ (b = true ↔ Comes (ES l c s) F to):=fun c hc => by
  obtain ⟨q,q1,q2,q3⟩:=reach_eq h hf.2.2 (by have:=hf.len h; omega) (p2:=fun x y => recall_maybe_1 x y c so) (s:=fun i k => sC c i k && s i k) (fun i k hi hk => by
   unfold recall_maybe_1 sC
   rw [gPo (by rw [(mem_Cs.1 hc).1]; omega)]
   by_cases e : (rdL c (i : Int) == (k : Int)) = true
   ·rw [if_pos e,e,hso i k hi hk]
    rfl
   ·rw [if_neg e]
    have e' : (rdL c (i : Int) == (k : Int)) = false:=by simpa using e
    rw [e']; rfl)
  refine ⟨mgetV false q to,?_,q2.get to⟩
  unfold recall_maybe_r1
  rw [q1,oB,gPo (id_rngB h.ok ht)]
 have hsub : ∀ c ∈ sCs l,Comes (ES l c s) F to → Comes (Ed l s) F to:=fun c hc hq => by
  refine Comes.mono (fun x hx => ?_) (fun z hz => hz) hq
  unfold ES Ed at hx
  obtain ⟨i,k,hi,hk,hs,e⟩:=mem_edges.1 hx
  rw [Bool.and_eq_true] at hs
  exact mem_edges.2 ⟨i,k,hi,hk,hs.2,e⟩
 unfold recall_maybe recall_cases
 rw [r1,oB,gPo (id_rngB h.ok ht)]
 by_cases hr : mgetV false r to = true
 ·rw [if_neg (by rw [hr]; simp),oB,gPo (Cs_ok h.ok)]
  rcases hfold (fun c hc => by obtain ⟨b,b1,_⟩:=hstep c hc; exact ⟨b,b1⟩) with ⟨a,c⟩ | ⟨a,x,hx,c⟩
  ·rw [a]
   refine ⟨false,rfl,fun h => (by cases h),?_⟩
   rintro ⟨d,hd,hq⟩
   obtain ⟨b,b1,b2⟩:=hstep d hd
   rw [c d hd,b2.2 hq] at b1
   cases b1
  ·rw [a]
   refine ⟨true,rfl,fun _ => ?_,fun _ => rfl⟩
   obtain ⟨b,b1,b2⟩:=hstep x hx
   rw [c] at b1
   cases b with
   | true => exact ⟨x,hx,b2.1 rfl⟩
   | false => cases b1
 ·have hr' : mgetV false r to = false:=by simpa using hr
  rw [if_pos (by rw [hr']; rfl)]
  refine ⟨false,rfl,fun h => (by cases h),?_⟩
  rintro ⟨c,hc,hq⟩
  exact absurd ((r2.get to).2 (hsub c hc hq)) hr
theorem may_any {l : TL} {F : List Int} {to : Int} : MayP l F to (fun _ _ => true) ↔ PossP l F to:=by
 unfold MayP PossP
 refine ⟨fun ⟨c,hc,hq⟩ => ⟨c,hc,Comes.mono (fun x hx => ?_) (fun z hz => hz) hq⟩,fun ⟨c,hc,hq⟩ => ⟨c,hc,Comes.mono (fun x hx => ?_) (fun z hz => hz) hq⟩⟩
 ·obtain ⟨i,hi,_,e⟩:=(mem_ES hc).1 hx
  exact (mem_EC hc).2 ⟨i,hi,e⟩
 ·obtain ⟨i,hi,e⟩:=(mem_EC hc).1 hx
  exact (mem_ES hc).2 ⟨i,hi,rfl,e⟩
theorem appLoop {n : Nat} (id : Nat → Int) (P : Nat → Prop) [∀ k,Decidable (P k)] {body : (Int × List Int) → Option ((Int × List Int) ⊕ (Int × List Int))} (hb : ∀ k,k < n → ∀ L : List Int,L.length ≤ k → body ((k : Int),L) = if P k then some (.inl (((k + 1 : Nat) : Int),L ++ [id k])) else some (.inl (((k + 1 : Nat) : Int),L))) (hs : ∀ L : List Int,body ((n : Int),L) = some (.inr ((n : Int),L))) :
  loopO body (0,[]) = some ((n : Int),((List.range n).filter fun k => decide (P k)).map id):=by
 refine loop_run (body:=body) (fun k => ((k : Int),((List.range k).filter fun k => decide (P k)).map id)) n (fun k hk => ?_) (hs _)
 have hl : (((List.range k).filter fun k => decide (P k)).map id).length ≤ k:=by
  rw [List.length_map]
  have:=List.length_filter_le (fun k => decide (P k)) (List.range k)
  rw [List.length_range] at this
  exact this
 rw [hb k hk _ hl,List.range_succ,List.filter_append,List.map_append]
 by_cases hP : P k
 ·rw [if_pos hP]
  simp [hP]
 ·rw [if_neg hP]
  simp [hP]
theorem appNodup {n : Nat} {id : Nat → Int} (hid : ∀ i j,i < n → j < n → id i = id j → i = j) (P : Nat → Prop) [∀ k,Decidable (P k)] : (((List.range n).filter fun k => decide (P k)).map id).Nodup:=by
 rw [List.Nodup,List.pairwise_map]
 refine List.Pairwise.imp_of_mem (fun {a b} ha hb hne e => hne (hid a b ?_ ?_ e)) (List.Nodup.sublist (List.filter_sublist) List.nodup_range)
 ·exact List.mem_range.1 (List.mem_filter.1 ha).1
 ·exact List.mem_range.1 (List.mem_filter.1 hb).1
theorem appMem {n : Nat} {id : Nat → Int} (P : Nat → Prop) [∀ k,Decidable (P k)] {q : Int} : q ∈ ((List.range n).filter fun k => decide (P k)).map id ↔ ∃ k,k < n ∧ P k ∧ id k = q:=by
 simp only [List.mem_map,List.mem_filter,List.mem_range,decide_eq_true_eq]
 exact ⟨fun ⟨k,⟨a,b⟩,c⟩ => ⟨k,a,b,c⟩,fun ⟨k,a,b,c⟩ => ⟨k,⟨a,b⟩,c⟩⟩
theorem Sort_eq {L : List Int} (h : L.length ≤ 12) : slices_Sort_int_int L = some (srtI L):=by
 unfold slices_Sort_int_int
 rw [gPo h]
theorem cid_inj {l : TL} (h : OkL l) : ∀ i j,i < l.fC.length → j < l.fC.length → cidI l i = cidI l j → i = j:=fun i j hi hj e => by
 unfold cidI at e
 rw [getD_lt hi,getD_lt hj] at e
 have a1:=idxI_at (f:=fun x : TC => x.fID) h.cd hi
 have a2:=idxI_at (f:=fun x : TC => x.fID) h.cd hj
 rw [e,a2] at a1
 omega
def nidK (l : TL) (i : Nat) : Int:=(l.fNo.getD i default).fID
theorem nid_inj {l : TL} (h : OkL l) : ∀ i j,i < l.fNo.length → j < l.fNo.length → nidK l i = nidK l j → i = j:=fun i j hi hj e => by
 unfold nidK at e
 rw [getD_lt hi,getD_lt hj] at e
 have a1:=nodeI_at h hi
 have a2:=nodeI_at h hj
 rw [e,a2] at a1
 omega
theorem may_open {l : TL} (h : OkL l) {F : List Int} {q : Int} {i : Nat} (hi : i < l.fC.length) : MayP l F q (fun j _ => (j : Int) != (i : Int)) ↔ Open l F q (fun x => decide (x ∈ [cidI l i])):=by
 have key : ∀ j,j < l.fC.length → (((j : Int) != (i : Int)) = true ↔ decide (cidI l j ∈ [cidI l i]) = false):=fun j hj => by
  simp only [List.mem_singleton,bne_iff_ne,ne_eq,decide_eq_false_iff_not]
  constructor
  ·intro a e
   have:=cid_inj h j i hj hi e
   omega
  ·intro a e
   have : j = i:=by omega
   subst this
   exact a rfl
 unfold MayP Open
 refine ⟨fun ⟨c,hc,hq⟩ => ⟨c,hc,Comes.mono (fun x hx => ?_) (fun z hz => hz) hq⟩,fun ⟨c,hc,hq⟩ => ⟨c,hc,Comes.mono (fun x hx => ?_) (fun z hz => hz) hq⟩⟩
 ·obtain ⟨j,hj,hs,e⟩:=(mem_ES hc).1 hx
  exact (mem_EX hc).2 ⟨j,hj,(key j hj).1 hs,e⟩
 ·obtain ⟨j,hj,hs,e⟩:=(mem_EX hc).1 hx
  exact (mem_ES hc).2 ⟨j,hj,(key j hj).2 hs,e⟩
def sB (l : TL) (but : Int) : Nat → Nat → Bool:=fun i k => ((oO l i).getD k default).fTo != but
theorem sB_pick {l : TL} {c : List Int} {i : Nat} {but : Int} : sB l but i (vI c i) = ((pick l c i).fTo != but):=rfl
open Classical in
theorem Hangs_ok {l : TL} (h : Small l) {F : List Int} (hf : IsFrom l F) {to : Int} (ht : to ∈ IDs l) : (recall_Hangs l F to = some ([],5) ∧ ¬ PossP l F to) ∨ ∃ L,recall_Hangs l F to = some (L,0) ∧ PossP l F to ∧ L.length ≤ 12 ∧ ∀ q ∈ L,∃ i,i < l.fC.length ∧ ¬ MayP l F to (fun j _ => (j : Int) != (i : Int)) ∧ cidI l i = q:=by
 have hc12:=h.c12
 unfold recall_Hangs
 rw [askedTo_ok h hf ht,oB,if_neg (by simp)]
 obtain ⟨b,b1,b2⟩:=maybe_eq h hf ht (so:=fun x5 x6 => recall_anyOption x5 x6) (s:=fun _ _ => true) (fun i k _ _ => rfl)
 rw [may_any] at b2
 rw [b1,oB]
 by_cases hp : PossP l F to
 ·rw [b2.2 hp,if_neg (by simp)]
  have hl1:=appLoop (n:=l.fC.length) (cidI l) (fun i => ¬ MayP l F to (fun j _ => (j : Int) != (i : Int))) (body:=recall_Hangs_l1 l F to) (fun k hk L hL => by
   obtain ⟨m,m1,m2⟩:=maybe_eq h hf ht (so:=fun x18 x19 => recall_Hangs_1 x18 x19 (k : Int)) (s:=fun j _ => (j : Int) != (k : Int)) (fun i j _ _ => rfl)
   unfold recall_Hangs_l1; dsimp only
   rw [ite_t (by omega),gPo (by omega),m1,oB,w64_succ (by omega),rdL_nat hk]
   have hcid : cidI l k = l.fC[k].fID:=by unfold cidI; rw [getD_lt hk]
   by_cases hm : MayP l F to (fun j _ => (j : Int) != (k : Int))
   ·rw [m2.2 hm,if_neg (by simp),if_neg (fun h => h hm)]
   ·have : m = false:=by
     cases hh : m
     ·rfl
     ·exact absurd (m2.1 hh) hm
    rw [this,if_pos (by rfl),gPo (by omega),if_pos hm,hcid]) (fun L => by
   unfold recall_Hangs_l1; dsimp only
   rw [ite_f (by omega)])
  have hnd:=appNodup (n:=l.fC.length) (id:=cidI l) (cid_inj h.ok) (fun i => ¬ MayP l F to (fun j _ => (j : Int) != (i : Int)))
  have hmm:=fun q => appMem (n:=l.fC.length) (id:=cidI l) (fun i => ¬ MayP l F to (fun j _ => (j : Int) != (i : Int))) (q:=q)
  generalize ((List.range l.fC.length).filter fun k : Nat => decide (¬ MayP l F to (fun j _ => (j : Int) != (k : Int)))).map (cidI l) = R at hl1 hnd hmm
  have hRl : R.length ≤ 12:=by
   have:=nodup_len hnd (l2:=CIDs l) (fun x hx => by
    obtain ⟨k,hk,_,e⟩:=(hmm x).1 hx
    unfold cidI at e
    rw [getD_lt hk] at e
    exact List.mem_map.2 ⟨_,List.getElem_mem hk,e⟩)
   unfold CIDs at this
   rw [List.length_map] at this
   omega
  rw [hl1,oB]
  dsimp only
  rw [Sort_eq hRl]
  exact .inr ⟨srtI R,rfl,hp,by rw [srtI_len]; exact hRl,fun q hq => (hmm q).1 (srtI_mem.1 hq)⟩
 ·have hb : b = false:=by
   cases hh : b
   ·rfl
   ·exact absurd (b2.1 hh) hp
  rw [hb,if_pos (by rfl)]
  exact .inl ⟨rfl,hp⟩
open Classical in
theorem Gates_ok {l : TL} (h : Small l) {F : List Int} (hf : IsFrom l F) {to : Int} (ht : to ∈ IDs l) : (recall_Gates l F to = some ([],5) ∧ ¬ PossP l F to) ∨ ∃ L,recall_Gates l F to = some (L,0) ∧ PossP l F to ∧ L.length ≤ 12 ∧ ∀ q ∈ L,¬ MayP l F to (sB l q):=by
 have h12:=h.n12
 have hfl:=hf.len h
 unfold recall_Gates
 rw [askedTo_ok h hf ht,oB,if_neg (by simp)]
 obtain ⟨b,b1,b2⟩:=maybe_eq h hf ht (so:=fun x5 x6 => recall_anyOption x5 x6) (s:=fun _ _ => true) (fun i k _ _ => rfl)
 rw [may_any] at b2
 rw [b1,oB]
 by_cases hp : PossP l F to
 ·rw [b2.2 hp,if_neg (by simp)]
  have hl1:=appLoop (n:=l.fNo.length) (nidK l) (fun k => ¬ (nidK l k = to ∨ nidK l k ∈ F) ∧ ¬ MayP l F to (sB l (nidK l k))) (body:=recall_Gates_l1 l F to) (fun k hk L hL => by
   have hnk : (l.fNo[k]).fID = nidK l k:=by unfold nidK; rw [getD_lt hk]
   obtain ⟨m,m1,m2⟩:=maybe_eq h hf ht (so:=fun x21 x22 => recall_Gates_1 x21 x22 l (TN.mk (l.fNo[k]).fID (l.fNo[k]).fLevel (l.fNo[k]).fCost)) (s:=sB l (nidK l k)) (fun i j hi hj => by
    have ho : (rdL l.fC (i : Int)).fO = oO l i:=by rw [rdL_nat hi]; unfold oO; rw [getD_lt hi]
    unfold recall_Gates_1 sB
    rw [gPo (by omega),ho,gPo (by omega),rdL_nat hj,getD_lt hj,← hnk])
   unfold recall_Gates_l1; dsimp only
   rw [ite_t (by omega),gPo (by omega),rdL_nat hk,Contains_eq (by omega),oB,m1,oB,w64_succ (by omega),hnk]
   by_cases h1 : nidK l k = to
   ·rw [if_pos (by simp [h1]),oB,if_pos rfl,if_neg (fun h => h.1 (.inl h1))]
   ·rw [if_neg (by simp [h1]),oB]
    by_cases h2 : nidK l k ∈ F
    ·rw [if_pos (by simp [h2]),if_neg (fun h => h.1 (.inr h2))]
    ·rw [if_neg (by simp [h2])]
     by_cases hm : MayP l F to (sB l (nidK l k))
     ·rw [m2.2 hm,if_neg (by simp),if_neg (fun h => h.2 hm)]
     ·have : m = false:=by
       cases hh : m
       ·rfl
       ·exact absurd (m2.1 hh) hm
      rw [this,if_pos (by rfl),gPo (by omega),if_pos ⟨fun h => h.elim h1 h2,hm⟩]) (fun L => by
   unfold recall_Gates_l1; dsimp only
   rw [ite_f (by omega)])
  have hnd:=appNodup (n:=l.fNo.length) (id:=nidK l) (nid_inj h.ok) (fun k => ¬ (nidK l k = to ∨ nidK l k ∈ F) ∧ ¬ MayP l F to (sB l (nidK l k)))
  have hmm:=fun q => appMem (n:=l.fNo.length) (id:=nidK l) (fun k => ¬ (nidK l k = to ∨ nidK l k ∈ F) ∧ ¬ MayP l F to (sB l (nidK l k))) (q:=q)
  generalize ((List.range l.fNo.length).filter fun k : Nat => decide (¬ (nidK l k = to ∨ nidK l k ∈ F) ∧ ¬ MayP l F to (sB l (nidK l k)))).map (nidK l) = R at hl1 hnd hmm
  have hRl : R.length ≤ 12:=by
   have:=nodup_len hnd (l2:=IDs l) (fun x hx => by
    obtain ⟨k,hk,_,e⟩:=(hmm x).1 hx
    unfold nidK at e
    rw [getD_lt hk] at e
    exact List.mem_map.2 ⟨_,List.getElem_mem hk,e⟩)
   unfold IDs at this
   rw [List.length_map] at this
   omega
  rw [hl1,oB]
  dsimp only
  rw [Sort_eq hRl]
  exact .inr ⟨srtI R,rfl,hp,by rw [srtI_len]; exact hRl,fun q hq => by
   obtain ⟨k,_,⟨_,hm⟩,e⟩:=(hmm q).1 (srtI_mem.1 hq)
   rw [← e]; exact hm⟩
 ·have hb : b = false:=by
   cases hh : b
   ·rfl
   ·exact absurd (b2.1 hh) hp
  rw [hb,if_pos (by rfl)]
  exact .inl ⟨rfl,hp⟩
theorem comes_but {l : TL} {F : List Int} {c : List Int} (hc : c ∈ sCs l) {n : Int} (hn : ¬ Comes (EC l c) F n) {q : Int} (hq : Comes (EC l c) F q) : Comes (ES l c (sB l n)) F q:=by
 induction hq with
 | base hx => exact .base hx
 | @step e hcm hh ih =>
  obtain ⟨i,hi,rfl⟩:=(mem_EC hc).1 hh
  refine .step ih ((mem_ES hc).2 ⟨i,hi,?_,rfl⟩)
  rw [sB_pick,bne_iff_ne]
  intro e
  exact hn (e ▸ .step hcm hh)
theorem hanging_ok {l : TL} (h : Small l) {F : List Int} (hf : IsFrom l F) {to : Int} {t : TTrace} (htl : t.fC.length ≤ 1000) (hL : LeadsP l F to t.fCase t.fC) {A B : List Int} (hAl : A.length ≤ 12) (hBl : B.length ≤ 12) (hA : ∀ q ∈ A,∃ i,i < l.fC.length ∧ ¬ MayP l F to (fun j _ => (j : Int) != (i : Int)) ∧ cidI l i = q) (hB : ∀ q ∈ B,¬ MayP l F to (sB l q)) : calxlaw09_hanging l F t A B = some true:=by
 obtain ⟨L,l1,l2,l3⟩:=Reach_ok h hf hL.1
 have e1 : ∀ x ∈ A,x ∈ t.fC:=fun x hx => by
  obtain ⟨i,hi,hm,e⟩:=hA x hx
  refine Classical.byContradiction fun hno => hm ⟨_,hL.1,hL.comes (fun id hid h0 => ?_)⟩
  obtain ⟨j,hj,hlt,ej,_⟩:=hopT_at hL.1 h0
  refine (mem_ES hL.1).2 ⟨j,hlt,?_,ej.symm⟩
  rw [bne_iff_ne]
  intro ij
  have : j = i:=by omega
  subst this
  refine hno ?_
  have hg:=idxI_get h0
  change (rdL l.fC (linkI l id)).fID == id at hg
  rw [hj,rdL_nat hlt] at hg
  rw [← e]
  unfold cidI
  rw [getD_lt hlt,eq_of_beq hg]
  exact hid
 have e2 : ∀ x ∈ B,x ∈ L:=fun x hx => by
  refine (l2 x).2 (Classical.byContradiction fun hno => hB x hx ⟨_,hL.1,comes_but hL.1 hno hL.reached⟩)
 unfold calxlaw09_hanging
 rw [l1,oB,if_pos (by rfl),all_eq (by omega) (by omega),decide_eq_true e1,oB,oB,if_pos rfl]
 dsimp only
 rw [all_eq (by omega) (by omega),decide_eq_true e2]
 rfl
theorem hang_loop {l : TL} (h : Small l) {F : List Int} (hf : IsFrom l F) {to : Int} (ht : to ∈ IDs l) {A : List Int} (hAl : A.length ≤ 12) (hA : ∀ q ∈ A,∃ i,i < l.fC.length ∧ ¬ MayP l F to (fun j _ => (j : Int) != (i : Int)) ∧ cidI l i = q) (e : Int) : loopO (calxlaw09_RecallHanging_l1 l F to (A,e)) (false,0) = some (.inr (false,(A.length : Int))):=by
 refine loop_run (body:=calxlaw09_RecallHanging_l1 l F to (A,e)) (fun k => (false,(k : Int))) A.length (fun k hk => ?_) ?_
 ·unfold calxlaw09_RecallHanging_l1; dsimp only
  obtain ⟨i,hi,hm,e⟩:=hA _ (List.getElem_mem hk)
  have hid : A[k] ∈ CIDs l:=by
   rw [← e]
   unfold cidI CIDs
   rw [getD_lt hi]
   exact List.mem_map.2 ⟨_,List.getElem_mem hi,rfl⟩
  obtain ⟨v,v1,v2,v3⟩:=CheckCut_eq h hf ht (C:=[A[k]]) (by unfold StrictI; simp) (fun x hx => by rw [List.mem_singleton.1 hx]; exact hid) (by simp)
  have hv:=v2 (fun ho => hm ((may_open h.ok hi).2 (by rw [e]; exact ho)))
  rw [ite_t (by omega),gPo (by omega),rdL_nat hk,v1,hv,oB,if_neg (by simp),w64_succ (by omega)]
 ·unfold calxlaw09_RecallHanging_l1; dsimp only
  rw [ite_f (by omega)]
theorem RecallHanging_true (p0 : TL) (p1 : List Int) (p2 : Int) (p3 : TTrace) (h0 : TLineage_rg p0) (h1 : Rg_list Rg_i64 p1) (h2 : Rg_i64 p2) (h3 : TTrace_rg p3) : calxlaw09_RecallHanging p0 p1 p2 p3 = some true:=by
 unfold calxlaw09_RecallHanging
 obtain ⟨b,hb,hfew⟩:=few_eq h0.2.1
 rw [head_true,oB,hb,oB]
 by_cases hg : b = true ∧ p1.length ≤ 30 ∧ p3.fCase.length ≤ 100 ∧ p3.fC.length ≤ 100
 ·obtain ⟨rfl,hl,hl3,hl4⟩:=hg
  rw [if_neg (by simp; omega)]
  have herr : ∀ e,recall_askedTo p0 p1 p2 = some e → e ≠ 0 → recall_Hangs p0 p1 p2 = some ([],e) ∧ recall_Gates p0 p1 p2 = some ([],e):=fun e h he => by
   constructor
   ·unfold recall_Hangs
    rw [h,oB,if_pos (by simp [he])]
   ·unfold recall_Gates
    rw [h,oB,if_pos (by simp [he])]
  have hbad : ∀ e,recall_askedTo p0 p1 p2 = some e → e ≠ 0 → ((recall_Hangs p0 p1 p2).bind fun y11 => ((recall_Gates p0 p1 p2).bind fun y17 => ((recall_Way p0 p1 p2).bind fun y23 => (if ((y11.2 != y17.2) || (y11.2 != y23.2)) = true then some false else (if (y11.2 != 0) = true then some true else ((recall_CheckWay p0 p1 p2 p3).bind fun y37 => ((if (y37 == 0) = true then ((calxlaw09_hanging p0 p1 p3 y11.1 y17.1).bind fun y61 => some ((!y61))) else (some (false))).bind fun b40 => ((if b40 = true then (some (true)) else ((calxlaw09_hanging p0 p1 y23.1 y11.1 y17.1).bind fun y59 => some ((!y59)))).bind fun b43 => (if b43 = true then some false else ((loopO (calxlaw09_RecallHanging_l1 p0 p1 p2 y11) (false,0)).bind fun u48 => match u48 with | (.inl u57) => some u57.1 | (.inr u58) => some true)))))))))) = some true:=fun e h he => by
   obtain ⟨r1,r2,r3,r4⟩:=to_err h he
   obtain ⟨s1,s2⟩:=herr e h he
   rw [s1,s2,r1]
   simp [he]
  by_cases ha : askS p0 p1 = 0
  ·obtain ⟨hok,hf⟩:=askS_0.1 ha
   have hs:=hfew rfl hok
   by_cases ht : p2 ∈ IDs p0
   ·rcases Hangs_ok hs hf ht with ⟨a,a1⟩ | ⟨A,a,a1,a2,a3⟩
    ·rcases Gates_ok hs hf ht with ⟨g,g1⟩ | ⟨B,g,g1,g2,g3⟩
     ·rcases Way_ok hs hf ht with ⟨w,w1⟩ | ⟨X,w,w1,w2⟩
      ·rw [a,g,w]
       rfl
      ·exact absurd ⟨_,w1.1,w1.reached⟩ a1
     ·exact absurd g1 a1
    ·rcases Gates_ok hs hf ht with ⟨g,g1⟩ | ⟨B,g,g1,g2,g3⟩
     ·exact absurd a1 g1
     ·rcases Way_ok hs hf ht with ⟨w,w1⟩ | ⟨X,w,w1,w2⟩
      ·exact absurd a1 w1
      ·obtain ⟨v,v1,v2⟩:=CheckWay_ok hs hf ht (t:=p3) (by omega)
       have hX:=hanging_ok hs hf (t:=X) (by omega) w1 a2 g2 a3 g3
       have b40 : (if (v == 0) = true then ((calxlaw09_hanging p0 p1 p3 A B).bind fun y61 => some ((!y61))) else (some (false))) = some false:=by
        by_cases hv : v = 0
        ·rw [if_pos (by simp [hv]),hanging_ok hs hf (t:=p3) (by omega) (v2.1 hv) a2 g2 a3 g3]
         rfl
        ·rw [if_neg (by simp [hv])]
       rw [a,g,w]
       dsimp only [oB]
       rw [if_neg (by simp),if_neg (by simp),v1,oB,b40,oB,if_neg (by simp),hX,oB,oB,if_neg (by simp),hang_loop hs hf ht a2 a3]
       rfl
   ·exact hbad 5 (askedTo_none hs hf ht) (by decide)
  ·exact hbad _ (askedTo_err (by omega) ha p2) ha
 ·rw [if_pos]
  cases b
  ·rfl
  ·rcases Nat.lt_or_ge 30 p1.length with h | h
   ·simp; omega
   ·rcases Nat.lt_or_ge 100 p3.fCase.length with k1 | k1
    ·simp; omega
    ·rcases Nat.lt_or_ge 100 p3.fC.length with k2 | k2
     ·simp; omega
     ·exact absurd ⟨rfl,h,k1,k2⟩ hg
end Go.Proofs.YtbblpokfbmekfaaGreat
