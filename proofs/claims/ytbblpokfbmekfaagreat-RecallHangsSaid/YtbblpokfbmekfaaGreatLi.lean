import Derived.Test.YtbblpokfbmekfaaGreatLh
set_option linter.unusedVariables false
namespace Go.Proofs.YtbblpokfbmekfaaGreat
def sB (l : TL) (but : Int) : Nat → Nat → Bool:=fun i k => ((oO l i).getD k default).fTo != but
theorem passed_eq {l : TL} (h : Small l) {F : List Int} (hF : ∀ x ∈ F,x ∈ IDs l) (hFl : F.length ≤ 1000) {c : List Int} (hc : c ∈ sCs l) (but : Int) {to : Int} (hto : to ∈ IDs l) : ∃ b,ref09_passed l F to but c = some b ∧ (b = true ↔ Comes (ES l c (sB l but)) F to):=by
 have h12:=h.n12
 have hc12:=h.c12
 obtain ⟨hcl,hcr⟩:=mem_Cs.1 hc
 have hE : ∀ x ∈ EC l c,x.fFrom ∈ IDs l ∧ x.fTo ∈ IDs l:=fun x hx => by
  have:=edge_ok h.ok (s:=sC c) (Nat.le_refl l.fC.length) (x:=x) hx
  exact ⟨this.1,this.2.1⟩
 unfold ref09_passed
 rw [gPo (by omega),Int.toNat_natCast]
 have e1 : loopO (ref09_passed_l1 l F) (0,List.replicate l.fNo.length false) = some ((l.fNo.length : Int),(List.range l.fNo.length).map fun k => decide ((l.fNo.getD k default).fID ∈ F)):=by
  have:=loop_run (body:=ref09_passed_l1 l F) (fun k => ((k : Int),mapB l.fNo.length (fun k => decide ((l.fNo.getD k default).fID ∈ F)) k false)) l.fNo.length (t:=((l.fNo.length : Int),mapB l.fNo.length (fun k => decide ((l.fNo.getD k default).fID ∈ F)) l.fNo.length false)) (fun k hk => by
   unfold ref09_passed_l1; dsimp only
   rw [ite_t (by omega),gPo (by omega),rdL_nat hk,has_eq (by omega),oB,Int.toNat_natCast,gPo (by omega),w64_succ (by omega),Int.toNat_natCast]
   have:=mapB_step hk (fun k => decide ((l.fNo.getD k default).fID ∈ F)) false
   rw [getD_lt hk] at this
   rw [this]) (by
   unfold ref09_passed_l1; dsimp only
   rw [ite_f (by omega)])
  rw [mapB_full] at this
  have h0:=mapB_zero l.fNo.length (fun k => decide ((l.fNo.getD k default).fID ∈ F)) false
  rw [← h0]
  exact this
 rw [e1,oB]
 dsimp only
 generalize hX0 : (List.range l.fNo.length).map (fun k => decide ((l.fNo.getD k default).fID ∈ F)) = X0
 have hX0l : X0.length = l.fNo.length:=by subst hX0; simp
 have hX0g : ∀ k,(hk : k < l.fNo.length) → (rdL X0 (k : Int) = true ↔ (l.fNo[k]).fID ∈ F):=fun k hk => by
  subst hX0
  rw [rdL_map hk,getD_lt hk]
  simp
 -- one round
 have round : ∀ Y : List Bool,Y.length = l.fNo.length → (∀ k,(hk : k < l.fNo.length) → rdL Y (k : Int) = true → Comes (ES l c (sB l but)) F (l.fNo[k]).fID) → ∃ t,loopO (ref09_passed_l3 l but c) (false,0,Y) = some t ∧ t.2.2.length = l.fNo.length ∧ (∀ k,(hk : k < l.fNo.length) → rdL t.2.2 (k : Int) = true → Comes (ES l c (sB l but)) F (l.fNo[k]).fID) ∧ (∀ k : Nat,rdL Y (k : Int) = true → rdL t.2.2 (k : Int) = true) ∧ ((t.1 = false ∧ t.2.2 = Y ∧ ∀ i,i < l.fC.length → (pick l c i).fTo ≠ but → rdL Y (nodeI l (pick l c i).fFrom) = true → rdL Y (nodeI l (pick l c i).fTo) = true) ∨ (t.1 = true ∧ t.2.2.count false < Y.count false)):=by
  intro Y hYl hYs
  refine loopO_inv (body:=ref09_passed_l3 l but c) (fun s => ∃ i : Nat,s.2.1 = (i : Int) ∧ i ≤ l.fC.length ∧ s.2.2.length = l.fNo.length ∧ (∀ k,(hk : k < l.fNo.length) → rdL s.2.2 (k : Int) = true → Comes (ES l c (sB l but)) F (l.fNo[k]).fID) ∧ (∀ k : Nat,rdL Y (k : Int) = true → rdL s.2.2 (k : Int) = true) ∧ ((s.1 = false ∧ s.2.2 = Y ∧ ∀ j,j < i → (pick l c j).fTo ≠ but → rdL Y (nodeI l (pick l c j).fFrom) = true → rdL Y (nodeI l (pick l c j).fTo) = true) ∨ (s.1 = true ∧ s.2.2.count false < Y.count false))) (fun s t => t.2.2.length = l.fNo.length ∧ (∀ k,(hk : k < l.fNo.length) → rdL t.2.2 (k : Int) = true → Comes (ES l c (sB l but)) F (l.fNo[k]).fID) ∧ (∀ k : Nat,rdL Y (k : Int) = true → rdL t.2.2 (k : Int) = true) ∧ ((t.1 = false ∧ t.2.2 = Y ∧ ∀ i,i < l.fC.length → (pick l c i).fTo ≠ but → rdL Y (nodeI l (pick l c i).fFrom) = true → rdL Y (nodeI l (pick l c i).fTo) = true) ∨ (t.1 = true ∧ t.2.2.count false < Y.count false))) (fun s => ((l.fC.length : Int) - s.2.1).toNat) (fun s hs => ?_) _ ⟨0,rfl,by omega,hYl,hYs,fun k hk => hk,.inl ⟨rfl,rfl,fun j hj => by omega⟩⟩
  obtain ⟨ag,ii,X⟩:=s
  obtain ⟨i,i1,i2,i3,i4,i5,i6⟩:=hs
  dsimp only at i1 i3 i4 i5 i6 ⊢
  subst i1
  unfold ref09_passed_l3; dsimp only
  by_cases hi : i < l.fC.length
  ·obtain ⟨r1,r2⟩:=hcr i hi
   have eo : (rdL l.fC (i : Int)).fO = oO l i:=by rw [rdL_nat hi]; unfold oO; rw [getD_lt hi]
   have ec : rdL c (i : Int) = c.getD i 0:=rdL_getD c i
   have ep : rdL (oO l i) (c.getD i 0) = pick l c i:=by
    unfold pick rdL
    rfl
   have hin : pick l c i ∈ EC l c:=(mem_EC hc).2 ⟨i,hi,rfl⟩
   obtain ⟨m1,m2⟩:=hE _ hin
   obtain ⟨a,ha,ea,ia⟩:=nodeI_k m1
   obtain ⟨b,hb,eb,ib⟩:=nodeI_k m2
   rw [ite_t (by omega),gPo (by omega),gPo (by omega),eo,ec,gPo ⟨r1,r2⟩,ep,rNode_eq (by omega),oB,rNode_eq (by omega),oB,Int.toNat_natCast,ea,eb,w64_succ (by omega),Int.toNat_natCast]
   by_cases hbut : (pick l c i).fTo = but
   ·rw [if_neg (by simp [hbut]),oB,if_neg (by simp),oB,if_neg (by simp)]
    refine .inl ⟨_,rfl,⟨i + 1,rfl,by omega,i3,i4,i5,?_⟩,by dsimp only; omega,fun t ht => ht⟩
    rcases i6 with ⟨z1,z2,z3⟩ | z
    ·refine .inl ⟨z1,z2,fun j hj => ?_⟩
     by_cases e : j = i
     ·subst e; intro hne; exact absurd hbut hne
     ·exact z3 j (by omega)
    ·exact .inr z
   rw [if_pos (by simp [hbut]),gPo (by omega),oB]
   by_cases hxa : rdL X (a : Int) = true
   ·rw [if_pos hxa,gPo (by omega),oB]
    by_cases hxb : rdL X (b : Int) = true
    ·rw [if_neg (by simp [hxb])]
     refine .inl ⟨_,rfl,⟨i + 1,rfl,by omega,i3,i4,i5,?_⟩,by dsimp only; omega,fun t ht => ht⟩
     rcases i6 with ⟨z1,z2,z3⟩ | z
     ·refine .inl ⟨z1,z2,fun j hj => ?_⟩
      by_cases e : j = i
      ·subst e; rw [ea,eb]; intro _ _; rw [← z2]; exact hxb
      ·exact z3 j (by omega)
     ·exact .inr z
    ·have hxb' : rdL X (b : Int) = false:=by simpa using hxb
     rw [if_pos (by simp [hxb']),gPo (by omega)]
     have hbl : b < X.length:=by omega
     have hbx : X[b] = false:=by rw [← rdL_nat hbl]; exact hxb'
     refine .inl ⟨_,rfl,⟨i + 1,rfl,by omega,by dsimp only; rw [List.length_set]; exact i3,fun k hk hg => ?_,fun k hk => ?_,.inr ⟨rfl,?_⟩⟩,by dsimp only; omega,fun t ht => ht⟩
     ·dsimp only at hg
      rw [setB hbl] at hg
      by_cases e : k = b
      ·subst e
       rw [ib]
       refine .step ?_ ((mem_ES hc).2 ⟨i,hi,by unfold sB vI; simpa [pick] using hbut,rfl⟩)
       rw [← ia]
       exact i4 a ha hxa
      ·rw [if_neg e] at hg
       exact i4 k hk hg
     ·dsimp only
      rw [setB hbl]
      by_cases e : k = b
      ·rw [if_pos e]
      ·rw [if_neg e]; exact i5 k hk
     ·dsimp only
      have hcs : (X.set b true).count false < X.count false:=by
       have hp : 0 < X.count false:=List.count_pos_iff.2 (by rw [← hbx]; exact List.getElem_mem hbl)
       rw [List.count_set hbl,hbx]
       simp
       omega
      rcases i6 with ⟨z1,z2,z3⟩ | z
      ·rw [z2] at hcs; rw [z2]; exact hcs
      ·omega
   ·rw [if_neg hxa,oB,if_neg (by simp)]
    refine .inl ⟨_,rfl,⟨i + 1,rfl,by omega,i3,i4,i5,?_⟩,by dsimp only; omega,fun t ht => ht⟩
    rcases i6 with ⟨z1,z2,z3⟩ | z
    ·refine .inl ⟨z1,z2,fun j hj => ?_⟩
     by_cases e : j = i
     ·subst e; rw [ea]; intro _ hh; rw [← z2] at hh; exact absurd hh hxa
     ·exact z3 j (by omega)
    ·exact .inr z
  ·rw [ite_f (by omega)]
   refine .inr ⟨_,rfl,i3,i4,i5,?_⟩
   rcases i6 with ⟨z1,z2,z3⟩ | z
   ·exact .inl ⟨z1,z2,fun j hj => z3 j (by omega)⟩
   ·exact .inr z
 have fin : ∃ t,loopO (ref09_passed_l2 l but c) (true,X0) = some t ∧ t.2.length = l.fNo.length ∧ (∀ k,(hk : k < l.fNo.length) → rdL t.2 (k : Int) = true → Comes (ES l c (sB l but)) F (l.fNo[k]).fID) ∧ (∀ k : Nat,rdL X0 (k : Int) = true → rdL t.2 (k : Int) = true) ∧ ∀ i,i < l.fC.length → (pick l c i).fTo ≠ but → rdL t.2 (nodeI l (pick l c i).fFrom) = true → rdL t.2 (nodeI l (pick l c i).fTo) = true:=by
  refine loopO_inv (body:=ref09_passed_l2 l but c) (fun s => s.2.length = l.fNo.length ∧ (∀ k,(hk : k < l.fNo.length) → rdL s.2 (k : Int) = true → Comes (ES l c (sB l but)) F (l.fNo[k]).fID) ∧ (∀ k : Nat,rdL X0 (k : Int) = true → rdL s.2 (k : Int) = true) ∧ (s.1 = false → ∀ i,i < l.fC.length → (pick l c i).fTo ≠ but → rdL s.2 (nodeI l (pick l c i).fFrom) = true → rdL s.2 (nodeI l (pick l c i).fTo) = true)) (fun s t => t.2.length = l.fNo.length ∧ (∀ k,(hk : k < l.fNo.length) → rdL t.2 (k : Int) = true → Comes (ES l c (sB l but)) F (l.fNo[k]).fID) ∧ (∀ k : Nat,rdL X0 (k : Int) = true → rdL t.2 (k : Int) = true) ∧ ∀ i,i < l.fC.length → (pick l c i).fTo ≠ but → rdL t.2 (nodeI l (pick l c i).fFrom) = true → rdL t.2 (nodeI l (pick l c i).fTo) = true) (fun s => 2 * s.2.count false + (if s.1 = true then 1 else 0)) (fun s hs => ?_) _ ⟨hX0l,fun k hk hg => .base ((hX0g k hk).1 hg),fun k hk => hk,fun hf => by cases hf⟩
  obtain ⟨ag,X⟩:=s
  obtain ⟨i1,i2,i3,i4⟩:=hs
  dsimp only at i1 i2 i3 i4 ⊢
  unfold ref09_passed_l2; dsimp only
  cases ag with
  | false =>
   rw [if_neg (by simp)]
   exact .inr ⟨_,rfl,i1,i2,i3,i4 rfl⟩
  | true =>
   rw [if_pos rfl]
   obtain ⟨t,t1,t2,t3,t4,t5⟩:=round X i1 i2
   rw [t1,oB]
   rcases t5 with ⟨z1,z2,z3⟩ | ⟨z1,z2⟩
   ·refine .inl ⟨_,rfl,⟨t2,t3,fun k hk => t4 k (i3 k hk),fun _ => by dsimp only; rw [z2]; exact z3⟩,?_,fun t ht => ht⟩
    dsimp only
    rw [z1,z2]
    simp
   ·refine .inl ⟨_,rfl,⟨t2,t3,fun k hk => t4 k (i3 k hk),fun hf => ?_⟩,?_,fun t ht => ht⟩
    ·dsimp only at hf; rw [z1] at hf; cases hf
    ·dsimp only
     rw [z1]
     simp
     omega
 obtain ⟨t,t1,t2,t3,t4,t5⟩:=fin
 have key : ∀ q,Comes (ES l c (sB l but)) F q → rdL t.2 (nodeI l q) = true:=by
  intro q hq
  induction hq with
  | base hx =>
   obtain ⟨j,hj,e1,e2⟩:=nodeI_k (hF _ hx)
   rw [e1]
   exact t4 j ((hX0g j hj).2 (by rw [e2]; exact hx))
  | @step x _ hx ih =>
   obtain ⟨i,hi,hs,e⟩:=(mem_ES hc).1 hx
   have hne : (pick l c i).fTo ≠ but:=by
    have : (pick l c i).fTo != but:=hs
    simpa using this
   have:=t5 i hi hne
   rw [e] at this
   exact this ih
 obtain ⟨k,hk,ek,ik⟩:=nodeI_k hto
 rw [t1,oB,rNode_eq (by omega),oB,gPo (by omega),ek]
 refine ⟨_,rfl,fun hg => ?_,fun hq => ?_⟩
 ·rw [← ik]
  exact t3 k hk hg
 ·rw [← ek]
  exact key _ hq
theorem may_num {l : TL} (h : OkL l) {F : List Int} {to : Int} {s : Nat → Nat → Bool} : MayP l F to s ↔ ∃ m,m < (sCs l).length ∧ Comes (ES l (numS (sKs l) m) s) F to:=by
 refine ⟨fun ⟨c,hc,hq⟩ => ?_,fun ⟨m,_,hq⟩ => ⟨_,num_mem h m,hq⟩⟩
 obtain ⟨m,hm,rfl⟩:=num_onto hc
 exact ⟨m,hm,hq⟩
theorem gates_loop {l : TL} (h : Small l) {F : List Int} (hf : IsFrom l F) {to : Int} (ht : to ∈ IDs l) {k : Nat} (hk : k < l.fNo.length) (s49 : Int × List Int) (e49 : s49.1 = (k : Int)) : ∃ t,loopO (ref09_Gates_l2 l F to s49) (false,0) = some t ∧ (t.1 = true ↔ MayP l F to (sB l (nidK l k))):=by
 have hlen:=Cs_len h.ok
 have hfl:=hf.len h
 have hnk : (rdL l.fNo s49.1).fID = nidK l k:=by rw [e49,rdL_nat hk]; unfold nidK; rw [getD_lt hk]
 rw [may_num h.ok]
 refine loopO_inv (body:=ref09_Gates_l2 l F to s49) (fun s => ∃ n : Nat,s.2 = (n : Int) ∧ n ≤ (sCs l).length ∧ (s.1 = true → ∃ m,m < (sCs l).length ∧ Comes (ES l (numS (sKs l) m) (sB l (nidK l k))) F to) ∧ (s.1 = false → ∀ m,m < n → ¬ Comes (ES l (numS (sKs l) m) (sB l (nidK l k))) F to)) (fun s t => (t.1 = true ↔ ∃ m,m < (sCs l).length ∧ Comes (ES l (numS (sKs l) m) (sB l (nidK l k))) F to)) (fun s => (((sCs l).length : Int) - s.2).toNat) (fun s hs => ?_) _ ⟨0,rfl,by omega,fun h => (by cases h),fun _ m hm => by omega⟩
 obtain ⟨b,ni⟩:=s
 obtain ⟨n,i1,i2,i3,i4⟩:=hs
 dsimp only at i1 i3 i4 ⊢
 subst i1
 unfold ref09_Gates_l2; dsimp only
 rw [rcnt h.ok,oB]
 by_cases hc : n < (sCs l).length ∧ b = false
 ·obtain ⟨hn,rfl⟩:=hc
  obtain ⟨v,v1,v2⟩:=passed_eq h hf.2.2 (by omega) (num_mem h.ok n) (nidK l k) ht
  rw [if_pos (by simp; omega),numbered_eq h.ok n (by omega),oB,hnk,v1,oB,w64_succ (by omega)]
  refine .inl ⟨_,rfl,⟨n + 1,rfl,by omega,fun hv => ⟨n,hn,v2.1 hv⟩,fun hv m hm => ?_⟩,by dsimp only; omega,fun t ht => ht⟩
  dsimp only at hv
  by_cases e : m = n
  ·subst e
   intro hq
   rw [v2.2 hq] at hv
   cases hv
  ·exact i4 rfl m (by omega)
 ·have hcond : (decide ((n : Int) < ((sCs l).length : Int)) && !b) = false:=by
   cases b with
   | true => simp
   | false =>
    have : ¬ n < (sCs l).length:=fun h => hc ⟨h,rfl⟩
    rw [decide_eq_false (by omega)]
    rfl
  rw [if_neg (by rw [hcond]; simp)]
  refine .inr ⟨_,rfl,i3,fun ⟨m,hm,hq⟩ => ?_⟩
  cases hb : b with
  | true => rfl
  | false =>
   have hge : ¬ n < (sCs l).length:=fun h => hc ⟨h,hb⟩
   exact absurd hq (i4 hb m (by omega))
open Classical in
theorem Gates_both {l : TL} (hfew : OkL l → Small l) {F : List Int} (hl : F.length ≤ 30) (to : Int) : ∃ L e,recall_Gates l F to = some (L,e) ∧ ref09_Gates l F to = some ⟨L,e⟩ ∧ L.length ≤ 12:=by
 obtain ⟨e,e1,e2,e3⟩:=To_both (l:=l) (F:=F) (by omega) to
 unfold recall_Gates ref09_Gates
 rw [e1,e2,oB,oB]
 by_cases he : e = 0
 ·obtain ⟨hok,hf,ht⟩:=e3.1 he
  have hs:=hfew hok
  have h12:=hs.n12
  subst he
  obtain ⟨b,b1,b2⟩:=maybe_eq hs hf ht (so:=fun x5 x6 => recall_anyOption x5 x6) (s:=fun _ _ => true) (fun i k _ _ => rfl)
  obtain ⟨b',b1',b2'⟩:=Possible_eq hs hf ht
  rw [may_any] at b2
  have h00 : ((0 : Int) == 0) = true:=rfl
  rw [if_neg (by simp),b1,oB,h00,if_pos (rfl : true = true),b1',oB,oB]
  by_cases hp : PossP l F to
  ·rw [b2.2 hp,b2'.2 hp,if_neg (by simp),if_neg (by simp),if_neg (by simp)]
   have hl1:=appLoop (n:=l.fNo.length) (nidK l) (fun k => ¬ (nidK l k = to ∨ nidK l k ∈ F) ∧ ¬ MayP l F to (sB l (nidK l k))) (body:=recall_Gates_l1 l F to) (fun k hk L hL => by
    have hnk : (l.fNo[k]).fID = nidK l k:=by unfold nidK; rw [getD_lt hk]
    obtain ⟨m,m1,m2⟩:=maybe_eq hs hf ht (so:=fun x21 x22 => recall_Gates_1 x21 x22 l (TN.mk (l.fNo[k]).fID (l.fNo[k]).fLevel (l.fNo[k]).fCost)) (s:=sB l (nidK l k)) (fun i j hi hj => by
     have ho : (rdL l.fC (i : Int)).fO = oO l i:=by rw [rdL_nat hi]; unfold oO; rw [getD_lt hi]
     unfold recall_Gates_1 sB
     rw [gPo (by omega),ho,gPo (by omega),rdL_nat hj,getD_lt hj,← hnk])
    unfold recall_Gates_l1; dsimp only
    rw [ite_t (by omega),gPo (by omega),rdL_nat hk,Contains_eq (by omega),oB,m1,oB,w64_succ (by omega),hnk]
    by_cases h1 : nidK l k = to
    ·rw [if_pos (by simp [h1]),oB,if_pos rfl,if_neg (fun h => h.1 (.inl h1))]
    ·rw [if_neg (by simp [h1]),oB]
     by_cases h2 : nidK l k ∈ F
     ·rw [if_pos (by simp [h2]),if_neg (fun h => h.1 (.inr h2))]
     ·rw [if_neg (by simp [h2])]
      by_cases hm : MayP l F to (sB l (nidK l k))
      ·rw [m2.2 hm,if_neg (by simp),if_neg (fun h => h.2 hm)]
      ·have : m = false:=by
        cases hh : m
        ·rfl
        ·exact absurd (m2.1 hh) hm
       rw [this,if_pos (by rfl),gPo (by omega),if_pos ⟨fun h => h.elim h1 h2,hm⟩]) (fun L => by
    unfold recall_Gates_l1; dsimp only
    rw [ite_f (by omega)])
   have hnd:=appNodup (n:=l.fNo.length) (id:=nidK l) (nid_inj hok) (fun k => ¬ (nidK l k = to ∨ nidK l k ∈ F) ∧ ¬ MayP l F to (sB l (nidK l k)))
   have hmm:=fun q => appMem (n:=l.fNo.length) (id:=nidK l) (fun k => ¬ (nidK l k = to ∨ nidK l k ∈ F) ∧ ¬ MayP l F to (sB l (nidK l k))) (q:=q)
   generalize ((List.range l.fNo.length).filter fun k : Nat => decide (¬ (nidK l k = to ∨ nidK l k ∈ F) ∧ ¬ MayP l F to (sB l (nidK l k)))).map (nidK l) = R at hl1 hnd hmm
   have hRl : R.length ≤ 12:=by
    have:=nodup_len hnd (l2:=IDs l) (fun x hx => by
     obtain ⟨k,hk,_,e⟩:=(hmm x).1 hx
     unfold nidK at e
     rw [getD_lt hk] at e
     exact List.mem_map.2 ⟨_,List.getElem_mem hk,e⟩)
    unfold IDs at this
    rw [List.length_map] at this
    omega
   rw [hl1,oB]
   dsimp only
   rw [Sort_eq hRl]
   obtain ⟨t,t1,t2,t3⟩:=putLoopG (n:=l.fNo.length) (by omega) (nidK l) (nid_inj hok) (fun k => ¬ (nidK l k = to ∨ nidK l k ∈ F) ∧ ¬ MayP l F to (sB l (nidK l k))) (body:=ref09_Gates_l1 l F to) (fun k hk L => by
    have hnk : (l.fNo[k]).fID = nidK l k:=by unfold nidK; rw [getD_lt hk]
    obtain ⟨g,g1,g2⟩:=gates_loop hs hf ht hk ((k : Int),L) rfl
    unfold ref09_Gates_l1; dsimp only
    rw [ite_t (by omega),gPo (by omega),rdL_nat hk,has_eq (by omega),oB,g1,oB,w64_succ (by omega),hnk]
    by_cases h1 : nidK l k = to
    ·rw [if_pos (by simp [h1]),oB,if_pos rfl,if_neg (fun h => h.1 (.inl h1))]
    ·rw [if_neg (by simp [h1]),oB]
     by_cases h2 : nidK l k ∈ F
     ·rw [if_pos (by simp [h2]),if_neg (fun h => h.1 (.inr h2))]
     ·rw [if_neg (by simp [h2])]
      by_cases hm : MayP l F to (sB l (nidK l k))
      ·rw [g2.2 hm,if_neg (by simp),if_neg (fun h => h.2 hm)]
      ·have : g.1 = false:=by
        cases hh : g.1
        ·rfl
        ·exact absurd (g2.1 hh) hm
       rw [this,if_pos (by rfl),if_pos ⟨fun h => h.elim h1 h2,hm⟩]) (fun L => by
    unfold ref09_Gates_l1; dsimp only
    rw [ite_f (by omega)])
   rw [t1]
   have e : t.2 = srtI R:=strictI_unique t2 (srt_strict hnd) (fun q => by rw [t3,srtI_mem,hmm])
   exact ⟨srtI R,0,rfl,by rw [← e]; rfl,by rw [srtI_len]; exact hRl⟩
  ·have hb : b = false:=by
    cases hh : b
    ·rfl
    ·exact absurd (b2.1 hh) hp
   have hb' : b' = false:=by
    cases hh : b'
    ·rfl
    ·exact absurd (b2'.1 hh) hp
   rw [hb,hb',if_pos (by rfl),if_pos (by rfl)]
   exact ⟨[],5,rfl,rfl,by simp⟩
 ·rw [if_pos (by simp [he]),if_neg (by simp [he]),oB,if_neg (by simp),if_pos (by simp [he])]
  exact ⟨[],e,rfl,rfl,by simp⟩
theorem numS_inj : ∀ (ks : List Nat) (n m : Nat),n < prodN ks → m < prodN ks → numS ks n = numS ks m → n = m
 | [],n,m,hn,hm,_ => by simp [prodN] at hn hm; omega
 | k :: ks,n,m,hn,hm,e => by
  have hn' : n < k * prodN ks:=hn
  have hm' : m < k * prodN ks:=hm
  simp only [numS,List.cons.injEq] at e
  obtain ⟨e1,e2⟩:=e
  have e1' : n % k = m % k:=by omega
  have:=numS_inj ks (n / k) (m / k) (Nat.div_lt_of_lt_mul hn') (Nat.div_lt_of_lt_mul hm') e2
  rw [← Nat.div_add_mod n k,← Nat.div_add_mod m k,this,e1']
theorem num_perm {l : TL} (h : OkL l) : ((List.range (sCs l).length).map (numS (sKs l))).Perm (sCs l):=by
 refine perm_of_mem ?_ (allC_nodup _) (fun c => ⟨fun hc => ?_,fun hc => ?_⟩)
 ·have hl : (sCs l).length = prodN (sKs l):=allC_len _
  rw [List.Nodup,List.pairwise_map]
  refine List.Pairwise.imp_of_mem (fun {a b} ha hb hne e => hne ?_) List.nodup_range
  exact numS_inj _ a b (by have:=List.mem_range.1 ha; omega) (by have:=List.mem_range.1 hb; omega) e
 ·obtain ⟨m,_,rfl⟩:=List.mem_map.1 hc
  exact num_mem h m
 ·obtain ⟨m,hm,e⟩:=num_onto hc
  exact List.mem_map.2 ⟨m,List.mem_range.2 hm,e⟩
noncomputable def cntM (l : TL) (F : List Int) (to : Int) (n : Nat) : Nat:=(List.range n).countP fun m => cm l F to (numS (sKs l) m)
theorem cntM_all {l : TL} (h : OkL l) (F : List Int) (to : Int) : cntM l F to (sCs l).length = cntT l F to:=by
 unfold cntM cntT
 rw [← (num_perm h).countP_eq,List.countP_map]
 rfl
theorem gcd_loop2 (a b : Nat) : ∃ u,loopO ref09_Share_l2 ((a : Int),(b : Int)) = some u ∧ u.1 = ((Nat.gcd a b : Nat) : Int):=by
 refine loopO_inv (body:=ref09_Share_l2) (fun s => 0 ≤ s.1 ∧ 0 ≤ s.2 ∧ Nat.gcd s.1.toNat s.2.toNat = Nat.gcd a b) (fun s t => t.1 = ((Nat.gcd a b : Nat) : Int)) (fun s => s.2.toNat) (fun s hs => ?_) _ ⟨by omega,by omega,by simp⟩
 obtain ⟨x,y⟩:=s
 obtain ⟨h1,h2,h3⟩:=hs
 dsimp only at h1 h2 h3 ⊢
 obtain ⟨x,rfl⟩:=Int.eq_ofNat_of_zero_le h1
 obtain ⟨y,rfl⟩:=Int.eq_ofNat_of_zero_le h2
 simp only [Int.toNat_natCast] at h3 ⊢
 unfold ref09_Share_l2; dsimp only
 by_cases hy : 0 < y
 ·refine .inl ⟨((y : Int),((x % y : Nat) : Int)),?_,⟨by omega,by omega,?_⟩,?_,fun t ht => ht⟩
  ·rw [if_pos (by simp; omega),gPo (by omega)]
   rfl
  ·simp only [Int.toNat_natCast]
   rw [← h3,Nat.gcd_comm,← Nat.gcd_rec,Nat.gcd_comm]
  ·simp only [Int.toNat_natCast]
   exact Nat.mod_lt _ hy
 ·have : y = 0:=by omega
  subst this
  refine .inr ⟨((x : Int),0),by rw [if_neg (by simp)]; rfl,?_⟩
  dsimp only
  rw [← h3,Nat.gcd_zero_right]
theorem Share_both {l : TL} (hfew : OkL l → Small l) {F : List Int} (hl : F.length ≤ 30) (to : Int) : ∃ r,recall_Share l F to = some r ∧ ref09_Share l F to = some r:=by
 obtain ⟨e,e1,e2,e3⟩:=To_both (l:=l) (F:=F) (by omega) to
 by_cases he : e = 0
 ·obtain ⟨hok,hf,ht⟩:=e3.1 he
  have hs:=hfew hok
  have hfl:=hf.len hs
  have h12:=hs.n12
  have hlen:=Cs_len hok
  have hpos:=Cs_pos hok
  have hle:=cntT_le l F to
  refine ⟨_,Share_ok hs hf ht,?_⟩
  unfold ref09_Share
  rw [e2,oB,if_neg (by simp [he])]
  have hl1 : ∃ u,loopO (ref09_Share_l1 l F to) (0,0) = some u ∧ u.1 = ((cntT l F to : Nat) : Int):=by
   rw [← cntM_all hok]
   refine loopO_inv (body:=ref09_Share_l1 l F to) (fun s => ∃ n : Nat,s.2 = (n : Int) ∧ n ≤ (sCs l).length ∧ s.1 = ((cntM l F to n : Nat) : Int)) (fun s u => u.1 = ((cntM l F to (sCs l).length : Nat) : Int)) (fun s => (((sCs l).length : Int) - s.2).toNat) (fun s hs' => ?_) _ ⟨0,rfl,by omega,rfl⟩
   obtain ⟨a,ni⟩:=s
   obtain ⟨n,i1,i2,i3⟩:=hs'
   dsimp only at i1 i3 ⊢
   subst i1 i3
   unfold ref09_Share_l1; dsimp only
   rw [rcnt hok,oB]
   by_cases hn : n < (sCs l).length
   ·obtain ⟨X,x1,x2⟩:=reached_eq hs hf.2.2 (by omega) (num_mem hok n)
    have hxl:=x2.len
    have hi : 0 ≤ nodeI l to:=nodeI_nonneg.2 ht
    have hi2 : nodeI l to < (l.fNo.length : Int):=idxI_lt_len _ _
    have hcm : cntM l F to n ≤ n:=by
     unfold cntM
     have:=List.countP_le_length (p:=fun m => cm l F to (numS (sKs l) m)) (l:=List.range n)
     rw [List.length_range] at this
     exact this
    have hstep : cntM l F to (n + 1) = cntM l F to n + if cm l F to (numS (sKs l) n) = true then 1 else 0:=by
     unfold cntM
     rw [List.range_succ,List.countP_append,List.countP_singleton]
    rw [ite_t (by omega),numbered_eq hok n (by omega),oB,x1,oB,rNode_eq (by omega),oB,gPo (by omega),w64_succ (by omega),w64_succ (by omega)]
    by_cases hq : Comes (EC l (numS (sKs l) n)) F to
    ·rw [if_pos ((x2.at ht).2 hq)]
     rw [if_pos (cm_iff.2 hq)] at hstep
     exact .inl ⟨_,rfl,⟨n + 1,rfl,by omega,by rw [hstep]⟩,by dsimp only; omega,fun t ht => ht⟩
    ·rw [if_neg (fun h => hq ((x2.at ht).1 h))]
     rw [if_neg (fun h => hq (cm_iff.1 h))] at hstep
     exact .inl ⟨_,rfl,⟨n + 1,rfl,by omega,by rw [hstep]; rfl⟩,by dsimp only; omega,fun t ht => ht⟩
   ·rw [ite_f (by omega)]
    have e : n = (sCs l).length:=by omega
    subst e
    exact .inr ⟨_,rfl,rfl⟩
  obtain ⟨u,u1,u2⟩:=hl1
  obtain ⟨v,v1,v2⟩:=gcd_loop2 (cntT l F to) (sCs l).length
  have hg : 0 < Nat.gcd (cntT l F to) (sCs l).length:=Nat.gcd_pos_of_pos_right _ hpos
  have d1 : cntT l F to / Nat.gcd (cntT l F to) (sCs l).length ≤ cntT l F to:=Nat.div_le_self _ _
  have d2 : (sCs l).length / Nat.gcd (cntT l F to) (sCs l).length ≤ (sCs l).length:=Nat.div_le_self _ _
  rw [u1,oB,rcnt hok,oB,u2,v1,oB,v2,gPo (by omega),oB,gPo (by omega),← Int.ofNat_tdiv,← Int.ofNat_tdiv,w64_nat (by omega),w64_nat (by omega)]
 ·refine ⟨(⟨0,0⟩,e),?_,?_⟩
  ·unfold recall_Share
   rw [e1,oB,if_pos (by simp [he])]
  ·unfold ref09_Share
   rw [e2,oB,if_pos (by simp [he])]
theorem RecallHangs_true (p0 : TL) (p1 : List Int) (p2 : Int) (h0 : TLineage_rg p0) (h1 : Rg_list Rg_i64 p1) (h2 : Rg_i64 p2) : calxlaw09_RecallHangs p0 p1 p2 = some true:=by
 unfold calxlaw09_RecallHangs
 obtain ⟨b,hb,hfew⟩:=few_eq h0.2.1
 rw [head_true,oB,hb,oB]
 by_cases hg : b = true ∧ p1.length ≤ 30
 ·obtain ⟨rfl,hl⟩:=hg
  rw [if_neg (by simp; omega)]
  obtain ⟨A,e,a1,a2,a3⟩:=Hangs_both (hfew rfl) (F:=p1) hl p2
  obtain ⟨B,e',b1,b2,b3⟩:=Gates_both (hfew rfl) (F:=p1) hl p2
  obtain ⟨r,r1,r2⟩:=Share_both (hfew rfl) (F:=p1) hl p2
  rw [a1,oB,a2,oB,b1,oB,b2,oB,r1,oB,r2,oB]
  dsimp only
  rw [SameInts_eq A (by omega),oB,if_pos rfl,SameInts_eq B (by omega)]
  simp
 ·have : ((!b) || decide (30 < ((p1.length : Nat) : Int))) = true:=by
   cases b
   ·rfl
   ·rcases Nat.lt_or_ge 30 p1.length with h | h
    ·simp; omega
    ·exact absurd ⟨rfl,h⟩ hg
  rw [if_pos this]
end Go.Proofs.YtbblpokfbmekfaaGreat
