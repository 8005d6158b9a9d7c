import Derived.Test.YthndghnkebboaaaGreatYe
import Derived.Test.YthndghnkebboaaaGreatP
import Derived.KernelRfl
set_option linter.unusedSimpArgs false
set_option linter.unusedVariables false
namespace Go.Proofs.YthndghnkebboaaaGreat
open Classical
theorem oz {s : List Int} (hl : s.length < 1000000) {f : Int → Option Bool} (q : Int → Bool) (h : ∀ x ∈ s,f x = some (q x)) : bz s f = some (s.filter fun x => !q x):=by
 unfold bz
 rw [qI (by omega) h,oB]
 rcases iP s q with ⟨ha,h2⟩ | ⟨k0,hk0,hq0,hb,h2⟩
 ·rw [h2,if_pos (by rfl)]
  refine congrArg some ?_
  exact (List.filter_eq_self.2 (fun x hx => by rw [ha x hx]; rfl)).symm
 ·rw [h2,if_neg (by simp),bc (by omega)]
  have key : ∃ t,aO (bB s f) ((k0 : Int),((k0 + 1 : Nat) : Int),s) = some t ∧ ∃ i : Nat,t.1 = (i : Int) ∧ i ≤ s.length ∧ t.2.2.take i = s.filter fun x => !q x:=by
   refine dQ (body:=bB s f) (fun st => ∃ i j : Nat,st.1 = (i : Int) ∧ st.2.1 = (j : Int) ∧ i < j ∧ j ≤ s.length ∧ st.2.2.length = s.length ∧ st.2.2.take i = (s.take j).filter (fun x => !q x) ∧ st.2.2.drop j = s.drop j) (fun st t => ∃ i : Nat,t.1 = (i : Int) ∧ i ≤ s.length ∧ t.2.2.take i = s.filter fun x => !q x) (fun st => ((s.length : Int) - st.2.1).toNat) (fun st hst => ?_) _ ⟨k0,k0 + 1,rfl,rfl,by omega,by omega,rfl,?_,rfl⟩
   ·obtain ⟨a,b,xs⟩:=st
    obtain ⟨i,j,i1,i2,i3,i4,i5,i6,i7⟩:=hst
    dsimp only at i1 i2 i5 i6 i7 ⊢
    subst i1 i2
    unfold bB; dsimp only
    by_cases hj : j < s.length
    ·have hx : xs[j]'(by omega) = s[j]:=by
      have e1:=congrArg (fun z => z[0]?) i7
      simp only [List.getElem?_drop,Nat.add_zero] at e1
      rw [List.getElem?_eq_getElem (by omega),List.getElem?_eq_getElem hj] at e1
      exact Option.some.inj e1
     have hd : xs.drop (j + 1) = s.drop (j + 1):=by rw [← List.drop_drop,i7,List.drop_drop]
     rw [fJ (by omega),gPo (by omega),cg (by omega : j < xs.length),hx,h _ (List.getElem_mem hj),oB,bc (k:=j) (by omega)]
     cases hqj : q s[j] with
     | true =>
      rw [if_neg (by simp)]
      refine .inl ⟨_,rfl,⟨i,j + 1,rfl,rfl,by omega,by omega,i5,?_,hd⟩,by dsimp only; omega,fun t ht => ht⟩
      dsimp only
      rw [List.take_succ_eq_append_getElem hj,List.filter_append,i6]
      simp [hqj]
     | false =>
      rw [if_pos (by rfl),gPo (by omega),bc (by omega),Int.toNat_natCast]
      refine .inl ⟨_,rfl,⟨i + 1,j + 1,rfl,rfl,by omega,by omega,by dsimp only; rw [List.length_set]; exact i5,?_,?_⟩,by dsimp only; omega,fun t ht => ht⟩
      ·dsimp only
       rw [List.take_succ_eq_append_getElem hj,List.filter_append,← i6,List.take_succ_eq_append_getElem (by rw [List.length_set]; omega),List.take_set_of_le (Nat.le_refl _),List.getElem_set_self]
       simp [hqj]
      ·dsimp only
       rw [List.drop_set_of_lt (by omega)]
       exact hd
    ·have ej : j = s.length:=by omega
     rw [en (by omega)]
     refine .inr ⟨_,rfl,i,rfl,by omega,?_⟩
     dsimp only
     rw [i6,ej,List.take_length]
   ·dsimp only
    rw [List.take_succ_eq_append_getElem hk0,List.filter_append]
    have : ((s.take k0).filter fun x => !q x) = s.take k0:=List.filter_eq_self.2 (fun x hx => by
     obtain ⟨j,hj,rfl⟩:=List.mem_take_iff_getElem.1 hx
     rw [hb j (by omega)]
     rfl)
    rw [this]
    simp [hq0]
  obtain ⟨t,t1,i,t2,t3,t4⟩:=key
  rw [t1,oB,t2,gPo (by omega),gPo (by omega),Int.toNat_natCast,t4]
structure IdsOk (y : TY) (ids : List Int) : Prop where
 known : ∀ x ∈ ids,0 ≤ bL y x
 strict : StrictI ids
theorem IdsOk.sub {y : TY} {a b : List Int} (h : IdsOk y a) (hs : b.Sublist a) : IdsOk y b:=⟨fun x hx => h.known x (hs.subset hx),List.Pairwise.sublist hs h.strict⟩
theorem oT (y : TY) (id : Int) : bL y id < (y.fR.length : Int):=nn _ _
theorem oX {y : TY} {id : Int} (h : 0 ≤ bL y id) : (rdL y.fR (bL y id)).fID = id:=beq_iff_eq.1 (oG (q:=fun n : TO => n.fID == id) h)
theorem IdsOk.nodup {y : TY} {ids : List Int} (h : IdsOk y ids) : ids.Nodup:=List.Pairwise.imp (fun {a b} (h : a < b) => by omega) h.strict
theorem IdsOk.nums {y : TY} {ids : List Int} (h : IdsOk y ids) : Nums y.fR.length (ids.map (bL y)):=by
 refine ⟨fun x hx => ?_,?_⟩
 ·obtain ⟨i,hi,rfl⟩:=List.mem_map.1 hx
  have h1:=h.known i hi
  have h2:=oT y i
  exact ⟨(bL y i).toNat,by omega,by omega⟩
 ·refine List.pairwise_map.2 (List.Pairwise.imp_of_mem (fun {a b} ha hb (hab : a < b) e => ?_) h.strict)
  have h1:=oX (h.known a ha)
  have h2:=oX (h.known b hb)
  rw [e,h2] at h1
  omega
def Mt (y : TY) (ids : List Int) : Prop:=Matchable (Su y) fun x => (x : Int) ∈ ids.map (bL y)
theorem Mt.sub {y : TY} {a b : List Int} (h : Mt y a) (hs : ∀ x ∈ b,x ∈ a) : Mt y b:=Matchable.sub h fun x hx => by
 obtain ⟨i,hi,e⟩:=List.mem_map.1 hx
 exact List.mem_map.2 ⟨i,hs i hi,e⟩
theorem all_eq {y : TY} (hB : y.fB.length ≤ 24) (hO : y.fR.length ≤ 1000) {ids : List Int} (h : IdsOk y ids) (hll : ids.length ≤ 1000) : j4 y ids = some (decide (Mt y ids)):=by
 have hF:=Su.fit y
 have hN:=h.nums
 have hinv:=dQ (body:=aZ ids y)
  (fun s => ∃ (k : Nat) (g : List (Int × Int)),s = (0,(k : Int),g) ∧ k ≤ ids.length ∧ OkG y.fB.length y.fR.length g ∧ g.length ≤ k * 24 ∧ Mat (Su y) (g0 g) ∧ ∀ x,Dom (g0 g) x ↔ (x : Int) ∈ (ids.take k).map (bL y))
  (fun _ out => match out with
   | .inl u => 0 ≤ u.1 ∧ ¬ Mt y ids
   | .inr _ => Mt y ids)
  (fun s => ids.length - s.2.1.toNat) (by
   rintro _ ⟨k,g,rfl,hk,hg,hgl,hM,hd⟩
   rcases Nat.lt_or_ge k ids.length with hlt | hge
   ·have hmem : ids[k] ∈ ids:=List.getElem_mem _
    have h1:=h.known _ hmem
    have h2:=oT y ids[k]
    obtain ⟨o,eo⟩ : ∃ o : Nat,bL y ids[k] = (o : Int):=⟨(bL y ids[k]).toNat,by omega⟩
    have ho : o < y.fR.length:=by omega
    have htake : (ids.take (k + 1)).map (bL y) = (ids.take k).map (bL y) ++ [(o : Int)]:=by rw [List.take_succ_eq_append_getElem hlt,List.map_append]; simp [eo]
    have hnt : ¬ (o : Int) ∈ (ids.take k).map (bL y):=fun hh => by
     have hn2 : ((ids.take (k + 1)).map (bL y)).Nodup:=hN.once.sublist ((List.take_sublist _ _).map _)
     rw [htake,List.nodup_append] at hn2
     exact hn2.2.2 _ hh _ (by simp) rfl
    have hnd : ¬ Dom (g0 g) o:=fun hh => hnt ((hd o).1 hh)
    obtain ⟨r,g',ht,hg',hgl',hcase⟩:=sy (y:=y) (by omega) hO ho hg (by omega) hM hnd
    have hbody : aZ ids y (0,(k : Int),g) = (if (!r) = true then some (.inr (.inl ((k : Int),(k : Int),g'))) else some (.inl (0,((k + 1 : Nat) : Int),g'))):=by
     unfold aZ ki; dsimp only
     rw [fJ (by omega),gPo (by omega),cg hlt,pq (by omega),oB,eo,ht,oB,oB,bc (by omega)]
    rcases hcase with ⟨rfl,hM',hd'⟩ | ⟨rfl,rfl,C,hC,hC2⟩
    ·refine .inl ⟨_,hbody,⟨k + 1,g',rfl,hlt,hg',by omega,hM',fun x => ?_⟩,by dsimp only; omega,fun t h => h⟩
     rw [hd' x,hd x,htake,List.mem_append,List.mem_singleton]
     exact or_comm.trans (or_congr Iff.rfl ⟨fun e => by rw [e],fun e => by omega⟩)
    ·refine .inr ⟨_,hbody,?_,jd hF hM hC hnd hC2 (fun x hx => ?_)⟩
     ·dsimp only; omega
     ·rcases hx with rfl | ⟨k1,_,e1⟩
      ·exact List.mem_map.2 ⟨_,hmem,eo⟩
      ·obtain ⟨i,hi,e⟩:=List.mem_map.1 ((hd x).1 ⟨k1,e1⟩)
       exact List.mem_map.2 ⟨i,List.mem_of_mem_take hi,e⟩
   ·have hke : k = ids.length:=by omega
    subst hke
    refine .inr ⟨.inr (0,((ids.length : Nat) : Int),g),?_,g0 g,hM,fun x => ?_⟩
    ·unfold aZ; dsimp only
     rw [en (by omega)]
    ·rw [hd x,List.take_length]) (0,0,[]) ⟨0,[],rfl,Nat.zero_le _,OkG.nil,by simp,by
    rw [rt]
    exact ⟨⟨fun _ _ e => (by cases e),fun _ _ _ e => (by cases e)⟩,fun x => ⟨fun ⟨k,e⟩ => (by cases e),fun h => by simp at h⟩⟩⟩
 obtain ⟨out,hr,hpost⟩:=hinv
 unfold j4 d6 bP
 rw [hr,oB]
 rcases out with u | u
 ·dsimp only at hpost ⊢
  rw [oB,oB,decide_eq_false (by have:=hpost.1; dsimp only; omega),decide_eq_false hpost.2]
 ·dsimp only at hpost ⊢
  rw [oB,oB,decide_eq_true (by dsimp only; omega),decide_eq_true hpost]
noncomputable def gF (y : TY) : List Int → List Int → List Int
 | kept,[] => kept
 | kept,x :: rest => if Mt y (kept ++ rest) then gF y (kept ++ [x]) rest else gF y kept rest
theorem nV (y : TY) (kept : List Int) (x : Int) (rest : List Int) : gF y kept (x :: rest) = if Mt y (kept ++ rest) then gF y (kept ++ [x]) rest else gF y kept rest:=by rw [gF]
theorem pL (y : TY) (kept : List Int) : gF y kept [] = kept:=by rw [gF]
theorem k7 {y : TY} : ∀ (rest kept : List Int),(gF y kept rest).Sublist (kept ++ rest)
 | [],kept => by unfold gF; rw [List.append_nil]; exact List.Sublist.refl _
 | x :: rest,kept => by
  unfold gF
  split
  ·have:=k7 (y:=y) rest (kept ++ [x])
   rw [List.append_assoc] at this
   exact this
  ·exact (k7 rest kept).trans ((List.sublist_cons_self x rest).append_left kept)
theorem rZ {kept rest : List Int} {x : Int} (hn : (kept ++ x :: rest).Nodup) : (kept ++ x :: rest).filter (fun z => !(z == x)) = kept ++ rest:=by
 rw [List.nodup_append] at hn
 obtain ⟨h1,h2,h3⟩:=hn
 rw [List.nodup_cons] at h2
 rw [List.filter_append,List.filter_cons]
 simp only [beq_self_eq_true,Bool.not_true,Bool.false_eq_true,if_false]
 rw [List.filter_eq_self.2 fun a ha => ?_,List.filter_eq_self.2 fun a ha => ?_]
 ·have : a ≠ x:=fun e => h2.1 (e ▸ ha)
  simp [this]
 ·have : a ≠ x:=fun e => h3 a ha x List.mem_cons_self e
  simp [this]
theorem pW {l : List Int} (h : l.length ≤ 1000000000) : bM l = some l:=by
 unfold bM
 rw [gPo (by omega)]
 rfl
theorem rU {y : TY} (hB : y.fB.length ≤ 24) (hO : y.fR.length ≤ 1000) {ids : List Int} (h : IdsOk y ids) (hll : ids.length ≤ 1000) : ∃ n,aO (dg y ids) (0,ids) = some (n,gF y [] ids):=by
 have hinv:=dQ (body:=dg y ids)
  (fun s => ∃ (k : Nat) (kept : List Int),s = ((k : Int),kept ++ ids.drop k) ∧ k ≤ ids.length ∧ (kept ++ ids.drop k).Sublist ids ∧ gF y kept (ids.drop k) = gF y [] ids)
  (fun _ out => out.2 = gF y [] ids)
  (fun s => ids.length - s.1.toNat) (by
   rintro _ ⟨k,kept,rfl,hk,hs,hc⟩
   rcases Nat.lt_or_ge k ids.length with hlt | hge
   ·have hdr : ids.drop k = ids[k] :: ids.drop (k + 1):=List.drop_eq_getElem_cons hlt
    have hok:=h.sub hs
    have hlen:=hs.length_le
    rw [hdr] at hok hs hc hlen ⊢
    have hs2 : (kept ++ ids.drop (k + 1)).Sublist (kept ++ ids[k] :: ids.drop (k + 1)):=(List.sublist_cons_self _ _).append_left kept
    have hlen2:=hs2.length_le
    have hdel : bz (kept ++ ids[k] :: ids.drop (k + 1)) (fun x45 => ef x45 ids[k]) = some (kept ++ ids.drop (k + 1)):=by
     rw [oz (by omega) (f:=fun x45 => ef x45 ids[k]) (fun z => z == ids[k]) (fun x _ => rfl),rZ hok.nodup]
    have hbody : dg y ids ((k : Int),kept ++ ids[k] :: ids.drop (k + 1)) = (if (!decide (Mt y (kept ++ ids.drop (k + 1)))) = true then some (.inl (((k + 1 : Nat) : Int),kept ++ ids.drop (k + 1))) else some (.inl (((k + 1 : Nat) : Int),kept ++ ids[k] :: ids.drop (k + 1)))):=by
     unfold dg; dsimp only
     rw [fJ (by omega),gPo (by omega),pW (by omega),oB,cg hlt,hdel,oB,all_eq hB hO (hok.sub hs2) (by omega),oB,bc (by omega)]
    rw [nV] at hc
    by_cases hm : Mt y (kept ++ ids.drop (k + 1))
    ·rw [if_pos hm] at hc
     rw [decide_eq_true hm,if_neg (by simp)] at hbody
     exact .inl ⟨_,hbody,⟨k + 1,kept ++ [ids[k]],by rw [List.append_assoc]; rfl,hlt,by rw [List.append_assoc]; exact hs,hc⟩,by dsimp only; omega,fun t h => h⟩
    ·rw [if_neg hm] at hc
     rw [decide_eq_false hm,if_pos (by simp)] at hbody
     exact .inl ⟨_,hbody,⟨k + 1,kept,rfl,hlt,hs2.trans hs,hc⟩,by dsimp only; omega,fun t h => h⟩
   ·have hke : k = ids.length:=by omega
    subst hke
    rw [List.drop_length] at hc ⊢
    rw [List.append_nil]
    rw [pL] at hc
    refine .inr ⟨((ids.length : Int),kept),?_,hc⟩
    unfold dg; dsimp only
    rw [en (by omega)]) (0,ids) ⟨0,[],rfl,Nat.zero_le _,by simp,by simp⟩
 obtain ⟨out,hr,hp⟩:=hinv
 exact ⟨out.1,by rw [hr,← hp]⟩
def okI (y : TY) (ids : List Int) (k : Nat) : Prop:=0 ≤ bL y (rdL ids (k : Int)) ∧ (0 < k → rdL ids ((k - 1 : Nat) : Int) < rdL ids (k : Int))
theorem oH {y : TY} {ids : List Int} : (∀ k,k < ids.length → okI y ids k) ↔ IdsOk y ids:=by
 constructor
 ·intro h
  refine ⟨fun x hx => ?_,List.pairwise_iff_getElem.2 fun i j hi hj hij => ?_⟩
  ·obtain ⟨k,hk,rfl⟩:=List.mem_iff_getElem.1 hx
   rw [← cg hk]
   exact (h k hk).1
  ·have key : ∀ d i,i + d + 1 < ids.length → rdL ids (i : Int) < rdL ids ((i + d + 1 : Nat) : Int):=by
    intro d
    induction d with
    | zero => intro i hi; exact (h (i + 1) hi).2 (by omega)
    | succ d ih =>
     intro i hi
     have h1:=ih i (by omega)
     have h2:=(h (i + d + 1 + 1) hi).2 (by omega)
     have e : i + d + 1 + 1 - 1 = i + d + 1:=by omega
     rw [e] at h2
     have e2 : i + (d + 1) + 1 = i + d + 1 + 1:=by omega
     rw [e2]
     omega
   have:=key (j - i - 1) i (by omega)
   rw [show i + (j - i - 1) + 1 = j by omega,cg hi,cg hj] at this
   exact this
 ·intro h k hk
  refine ⟨?_,fun h0 => ?_⟩
  ·rw [cg hk]; exact h.known _ (List.getElem_mem hk)
  ·rw [cg hk,cg (by omega)]
   exact List.pairwise_iff_getElem.1 h.strict _ _ _ _ (by omega)
theorem rA {y : TY} {ids : List Int} {k : Nat} (hk : k < ids.length) (hl : ids.length ≤ 1000) : ((if decide (bL y (rdL ids (k : Int)) < 0) = true then (some (true)) else ((if decide ((0 : Int) < (k : Int)) = true then (al ((0 : Int) ≤ w64 ((k : Int) - 1) ∧ w64 ((k : Int) - 1) < ((ids.length : Nat) : Int)) (some (decide ((rdL ids (k : Int)) ≤ (rdL ids (w64 ((k : Int) - 1))))))) else (some (false))).bind fun b17 => some (b17)))) = some (decide (¬ okI y ids k)):=by
 by_cases h1 : bL y (rdL ids (k : Int)) < 0
 ·rw [if_pos (decide_eq_true h1)]
  refine congrArg some (Eq.symm ?_)
  exact decide_eq_true fun h => by have:=h.1; omega
 ·rw [if_neg (by simpa using h1)]
  by_cases h2 : 0 < k
  ·have ew : w64 ((k : Int) - 1) = ((k - 1 : Nat) : Int):=by rw [iB (by omega) (by omega)]; omega
   rw [fJ (by omega),ew,gPo (by omega),oB]
   refine congrArg some (decide_eq_decide.2 ⟨fun h hh => ?_,fun h => ?_⟩)
   ·have:=hh.2 h2; omega
   ·by_cases hc : rdL ids (k : Int) ≤ rdL ids ((k - 1 : Nat) : Int)
    ·exact hc
    ·exact absurd ⟨by omega,fun _ => by omega⟩ h
  ·rw [en (by omega),oB]
   refine congrArg some (Eq.symm ?_)
   exact decide_eq_false fun h => h ⟨by omega,fun h3 => absurd h3 h2⟩
theorem sn {y : TY} (hG : Good y) {ids : List Int} (hll : ids.length ≤ 1000) : dV y ids = some (if IdsOk y ids then (if Mt y ids then ([],5) else (gF y [] ids,0)) else ([],1)):=by
 have hB:=hG.bays
 have hO:=hG.ords
 have hinv:=dQ (body:=dJ y ids)
  (fun s => ∃ k : Nat,s = (0,(k : Int)) ∧ k ≤ ids.length ∧ ∀ j,j < k → okI y ids j)
  (fun _ out => match out with
   | .inl u => u.1 = 1 ∧ ¬ IdsOk y ids
   | .inr _ => IdsOk y ids)
  (fun s => ids.length - s.2.toNat) (by
   rintro _ ⟨k,rfl,hk,hok⟩
   rcases Nat.lt_or_ge k ids.length with hlt | hge
   ·have hbody : dJ y ids (0,(k : Int)) = if decide (¬ okI y ids k) = true then some (.inr (.inl (1,(k : Int)))) else some (.inl (0,((k + 1 : Nat) : Int))):=by
     unfold dJ; dsimp only
     rw [fJ (by omega),gPo (by omega),pq (by omega),oB,rA hlt hll,oB,bc (by omega)]
    by_cases h : okI y ids k
    ·rw [if_neg (by simp [h])] at hbody
     refine .inl ⟨_,hbody,⟨k + 1,rfl,hlt,fun j hj => ?_⟩,by dsimp only; omega,fun t h => h⟩
     rcases Nat.lt_or_ge j k with h2 | h2
     ·exact hok j h2
     ·rw [show j = k by omega]; exact h
    ·rw [if_pos (by simp [h])] at hbody
     exact .inr ⟨_,hbody,rfl,fun hI => h (oH.2 hI k hlt)⟩
   ·have hke : k = ids.length:=by omega
    subst hke
    refine .inr ⟨.inr (0,(ids.length : Int)),?_,oH.1 hok⟩
    unfold dJ; dsimp only
    rw [en (by omega)]) (0,0) ⟨0,rfl,Nat.zero_le _,fun j hj => by omega⟩
 obtain ⟨out,hr,hp⟩:=hinv
 unfold dV
 rw [dz,eS.2 hG,oB,if_neg (by simp),hr,oB]
 rcases out with u | u
 ·dsimp only at hp ⊢
  rw [if_neg hp.2,hp.1]
 ·dsimp only at hp ⊢
  rw [if_pos hp,all_eq hB (by omega) hp hll,oB]
  by_cases hm : Mt y ids
  ·rw [decide_eq_true hm,if_pos rfl,if_pos hm]
  ·obtain ⟨n,hn⟩:=rU hB (by omega) hp hll
   rw [decide_eq_false hm,if_neg (by simp),if_neg hm,pW (by omega),oB,hn]
   rfl
theorem qt {y : TY} (h : jw y ≠ 0) (ids : List Int) : dV y ids = some ([],jw y):=by
 unfold dV
 rw [dz,oB,if_pos (by simpa using h)]
set_option linter.unusedSimpArgs false
theorem kM : d9 = some true:=by kernel_rfl
set_option linter.unusedSimpArgs false
theorem S1_none {y : TY} (o k : Nat) : S1 y (-1) o k ↔ Su y o k:=⟨fun h => h.1,fun h => ⟨h,by omega⟩⟩
theorem yard_eq (y : TY) : fb y = some (decide ((y.fB.length ≤ 9 ∨ 24 < y.fB.length ∧ y.fB.length ≤ 40) ∧ (y.fR.length ≤ 9 ∨ 24 < y.fR.length ∧ y.fR.length ≤ 40))):=by
 unfold fb
 refine congrArg some ?_
 rw [Bool.eq_iff_iff]
 simp only [Bool.and_eq_true,Bool.or_eq_true,decide_eq_true_eq]
 omega
set_option linter.unusedSimpArgs false
open Classical
theorem pt {y : TY} (hG : Good y) (h9 : y.fR.length < 20) {V0 : Int} (h0 : Opt (Su y) (wo y) y.fB.length V0) : ∃ l,db y (-1) (-1) = some l ∧ cl y l = some V0:=by
 obtain ⟨l,V,h1,h2,h3⟩:=q3 hG h9 (wi:=-1) (by omega)
 have:=(h3.congr S1_none (fun _ _ _ => rfl)).unique h0
 exact ⟨l,h1,by rw [h2,this]⟩
theorem sg {y : TY} (hG : Good y) (h9 : y.fR.length < 20) {V0 : Int} (h0 : Opt (Su y) (wo y) y.fB.length V0) : eJ y = some ⟨rf y V0,0⟩:=by
 obtain ⟨l,hl1,hl2⟩:=pt hG h9 h0
 unfold eJ
 rw [dm,eS.2 hG,oB,if_neg (by simp),hl1,oB,hl2,oB]
 have hp:=putLoop (n:=y.fR.length) (by omega) (oid y) (fun k => decide (p9 y V0 k)) (body:=eB y V0) (fun k hk L => by
  obtain ⟨l1,V1,h1,h2,h3⟩:=q3 hG h9 (wi:=(k : Int)) (by omega)
  have e : decide (V1 < V0) = decide (p9 y V0 k):=decide_eq_decide.2 (rJ h0 h3)
  unfold eB; dsimp only
  rw [fJ (by omega),h1,oB,h2,oB,e,gPo (by omega),eZ,bc (by omega)]
  rfl) (fun L => by
  unfold eB; dsimp only
  rw [en (by omega)])
 rw [hp,oB]
 rfl
theorem rNever_ok {y : TY} (hG : Good y) (h9 : y.fR.length < 20) {V0 : Int} (h0 : Opt (Su y) (wo y) y.fB.length V0) : fq y = some ⟨never y V0,0⟩:=by
 have hB:=hG.bays
 obtain ⟨l,hl1,hl2⟩:=pt hG h9 h0
 unfold fq
 rw [dm,eS.2 hG,oB,if_neg (by simp),hl1,oB,hl2,oB]
 have hp:=putLoop (n:=y.fR.length) (by omega) (oid y) (fun k => decide (lr y V0 k)) (body:=fa y V0) (fun k hk L => by
  have hnum : Nums y.fR.length [(k : Int)]:=⟨fun x hx => by rw [List.mem_singleton.1 hx]; exact ⟨k,rfl,hk⟩,by simp⟩
  obtain ⟨b,hb1,hb2⟩:=qW (y:=y) (by omega) (by omega) hnum (by simp)
  have hmem : ∀ x : Nat,(x : Int) ∈ [(k : Int)] ↔ x = k:=fun x => by rw [List.mem_singleton]; omega
  unfold fa; dsimp only
  rw [fJ (by omega),hb1,oB,gPo (by omega),eZ,bc (by omega),show (oat y k).fID = oid y k from rfl]
  cases b with
  | false =>
   have hno : ¬ Matchable (Su y) fun x => x = k:=fun h => by
    have:=hb2.2 (h.congr fun x => (hmem x).symm)
    cases this
   rw [if_pos (by rfl),if_pos (decide_eq_true (r8 hno V0))]
  | true =>
   have hc : Matchable (Su y) fun x => x = k:=(hb2.1 rfl).congr hmem
   obtain ⟨l1,V1,h1,h2,h3⟩:=qu hG h9 hk hc
   have e : decide (V1 < V0) = decide (lr y V0 k):=decide_eq_decide.2 (first_iff hG hk h0 h3)
   rw [if_neg (by simp),h1,oB,h2,oB,e]) (fun L => by
  unfold fa; dsimp only
  rw [en (by omega)])
 rw [hp,oB]
 rfl
theorem sJ {y : TY} (hG : Good y) {k : Nat} (hk : k < y.fB.length) : Good (wout y k):=by
 have hs : (wout y k).fB.Sublist y.fB:=by
  show (y.fB.take k ++ y.fB.drop (k + 1)).Sublist y.fB
  rw [← List.eraseIdx_eq_take_drop_succ]
  exact List.eraseIdx_sublist _ _
 have:=hG.bays
 exact ⟨by rw [mO hk]; omega,hG.ords,fun o ho => hG.bay o (hs.subset ho),hG.ord,hG.bayN.sublist (hs.map _),hG.ordN⟩
theorem Lost_eq {y : TY} (hG : Good y) (h9 : y.fR.length < 20) (id : Int) : ∃ r,gy y id = some r ∧ gc y id = some r:=by
 have hB:=hG.bays
 obtain ⟨V0,hV,h0⟩:=lE (hG.fine h9)
 obtain ⟨l,hl1,hl2⟩:=pt hG h9 h0
 unfold gy gc
 rw [dz,dm,eS.2 hG,oB,oB,if_neg (by simp),if_neg (by simp),bay_eq (by omega),rbay_eq (by omega),oB,oB]
 have hlt:=bay_lt y id
 by_cases hb : pI y id < 0
 ·rw [if_pos (decide_eq_true hb),if_pos (decide_eq_true hb)]
  exact ⟨_,rfl,rfl⟩
 ·rw [if_neg (by simpa using hb),if_neg (by simpa using hb)]
  obtain ⟨k,ek⟩ : ∃ k : Nat,pI y id = (k : Int):=⟨(pI y id).toNat,by omega⟩
  rw [ek] at hlt ⊢
  have hk : k < y.fB.length:=by omega
  have hGw:=sJ hG hk
  obtain ⟨V1,hV1,h1⟩:=lE (hGw.fine h9)
  obtain ⟨l1,hl3,hl4⟩:=pt hGw h9 h1
  rw [hV,oB,sc hk (by omega),oB,show TY.mk (wout y k).fB y.fR = wout y k from rfl,hV1,oB]
  refine ⟨_,rfl,?_⟩
  rw [bc (by omega),Int.toNat_natCast,Int.toNat_natCast,gPo (by omega),gPo (by omega),gPo (by omega),gPo (by omega),hl1,oB,hl2,oB]
  rw [show TY.mk (([] ++ y.fB.take k) ++ y.fB.drop (k + 1)) y.fR = wout y k from rfl,hl3,oB,hl4,oB]
theorem qa {y : TY} (hO : y.fR.length ≤ 1000) {ids : List Int} (hll : ids.length ≤ 1000) : ∃ l b,fV y ids = some (l,b) ∧ ((b = true ∧ IdsOk y ids ∧ l = ids.map (bL y)) ∨ (b = false ∧ ¬ IdsOk y ids)):=by
 have hinv:=dQ (body:=di y ids)
  (fun s => ∃ k : Nat,s = (false,(k : Int),(ids.take k).map (bL y)) ∧ k ≤ ids.length ∧ ∀ j,j < k → okI y ids j)
  (fun _ out => match out with
   | .inl u => u.1 = false ∧ ¬ IdsOk y ids
   | .inr u => u.2.2 = ids.map (bL y) ∧ IdsOk y ids)
  (fun s => ids.length - s.2.1.toNat) (by
   rintro _ ⟨k,rfl,hk,hok⟩
   rcases Nat.lt_or_ge k ids.length with hlt | hge
   ·have hmax : 0 < k → max 0 (w64 ((k : Int) - 1)) = ((k - 1 : Nat) : Int):=fun h => by rw [iB (by omega) (by omega)]; omega
    have hcond : ((if decide (bL y (rdL ids (k : Int)) < 0) = true then (some (true)) else ((if decide ((0 : Int) < (k : Int)) = true then (al ((0 : Int) ≤ (k : Int) ∧ (k : Int) < ((ids.length : Nat) : Int)) (al ((0 : Int) ≤ max 0 (w64 ((k : Int) - 1)) ∧ max 0 (w64 ((k : Int) - 1)) < ((ids.length : Nat) : Int)) (some (decide ((rdL ids (k : Int)) ≤ (rdL ids (max 0 (w64 ((k : Int) - 1))))))))) else (some (false))).bind fun b19 => some (b19)))) = some (decide (¬ okI y ids k)):=by
     rw [← rA hlt hll]
     by_cases h0 : 0 < k
     ·rw [hmax h0,show w64 ((k : Int) - 1) = ((k - 1 : Nat) : Int) by rw [iB (by omega) (by omega)]; omega,gPo (c:=(0 : Int) ≤ (k : Int) ∧ _) (by omega)]
     ·rw [en (p:=(0 : Int) < (k : Int)) (by omega),en (p:=(0 : Int) < (k : Int)) (by omega)]
    have hbody : di y ids (false,(k : Int),(ids.take k).map (bL y)) = if decide (¬ okI y ids k) = true then some (.inr (.inl (false,(k : Int),(ids.take k).map (bL y)))) else some (.inl (false,((k + 1 : Nat) : Int),(ids.take (k + 1)).map (bL y))):=by
     unfold di; dsimp only
     rw [fJ (by omega),gPo (by omega),rorder_eq (by omega),oB,hcond,oB,bc (by omega),gPo (by rw [List.length_map,List.length_take]; omega),List.take_succ_eq_append_getElem hlt,List.map_append,cg hlt]
     rfl
    by_cases h : okI y ids k
    ·rw [if_neg (by simp [h])] at hbody
     refine .inl ⟨_,hbody,⟨k + 1,rfl,hlt,fun j hj => ?_⟩,by dsimp only; omega,fun t h => h⟩
     rcases Nat.lt_or_ge j k with h2 | h2
     ·exact hok j h2
     ·rw [show j = k by omega]; exact h
    ·rw [if_pos (by simp [h])] at hbody
     exact .inr ⟨_,hbody,rfl,fun hI => h (oH.2 hI k hlt)⟩
   ·have hke : k = ids.length:=by omega
    subst hke
    refine .inr ⟨.inr (false,(ids.length : Int),(ids.take ids.length).map (bL y)),?_,by rw [List.take_length],oH.1 hok⟩
    unfold di; dsimp only
    rw [en (by omega)]) (false,0,[]) ⟨0,rfl,Nat.zero_le _,fun j hj => by omega⟩
 obtain ⟨out,hr,hp⟩:=hinv
 unfold fV
 rw [hr,oB]
 rcases out with u | u
 ·exact ⟨_,_,rfl,.inr hp⟩
 ·exact ⟨_,_,rfl,.inl ⟨rfl,hp.2,hp.1⟩⟩
theorem rall_eq {y : TY} (hB : y.fB.length ≤ 24) (hO : y.fR.length ≤ 1000) {ids : List Int} (h : IdsOk y ids) (hll : ids.length ≤ 1000) : d8 y (ids.map (bL y)) = some (decide (Mt y ids)):=by
 obtain ⟨b,hb1,hb2⟩:=qW (y:=y) (by omega) hO h.nums (by rw [List.length_map]; exact hll)
 rw [hb1]
 refine congrArg some ?_
 rw [Bool.eq_iff_iff,hb2,decide_eq_true_eq]
 exact Iff.rfl
theorem qb {y : TY} (hB : y.fB.length ≤ 24) (hO : y.fR.length ≤ 1000) {ids : List Int} (h : IdsOk y ids) (hll : ids.length ≤ 1000) (b0 : Bool) : ∃ u,aO (cN y) (b0,0,ids.map (bL y)) = some u ∧ u.2.2 = (gF y [] ids).map (bL y):=by
 refine dQ (body:=cN y)
  (fun s => ∃ (b : Bool) (kept rest : List Int),s = (b,(kept.length : Int),(kept ++ rest).map (bL y)) ∧ (kept ++ rest).Sublist ids ∧ gF y kept rest = gF y [] ids)
  (fun _ out => out.2.2 = (gF y [] ids).map (bL y))
  (fun s => s.2.2.length - s.2.1.toNat) (by
   rintro _ ⟨b,kept,rest,rfl,hs,hc⟩
   cases rest with
   | nil =>
    rw [pL] at hc
    rw [List.append_nil]
    refine .inr ⟨(b,(kept.length : Int),kept.map (bL y)),?_,by rw [hc]⟩
    unfold cN; dsimp only
    rw [en (by rw [List.length_map]; omega)]
   | cons x rest =>
    have hs2 : (kept ++ rest).Sublist (kept ++ x :: rest):=(List.sublist_cons_self _ _).append_left kept
    have hl1:=hs.length_le
    have hok:=h.sub hs
    rw [List.length_append,List.length_cons] at hl1
    have ht : ((kept ++ x :: rest).map (bL y)).take kept.length = kept.map (bL y):=by
     rw [List.map_append,List.take_append_of_le_length (by simp),List.take_of_length_le (by simp)]
    have hd : ((kept ++ x :: rest).map (bL y)).drop (kept.length + 1) = rest.map (bL y):=by
     rw [List.map_append,List.map_cons,← List.drop_drop,List.drop_left' (by simp)]
     rfl
    have hl : ((kept ++ x :: rest).map (bL y)).length = kept.length + (rest.length + 1):=by rw [List.length_map,List.length_append,List.length_cons]
    rw [nV] at hc
    have hbody : cN y (b,(kept.length : Int),(kept ++ x :: rest).map (bL y)) = (if decide (Mt y (kept ++ rest)) = true then some (.inl (decide (Mt y (kept ++ rest)),((kept.length + 1 : Nat) : Int),(kept ++ x :: rest).map (bL y))) else some (.inl (decide (Mt y (kept ++ rest)),(kept.length : Int),(kept ++ rest).map (bL y)))):=by
     unfold cN; dsimp only
     rw [fJ (by omega),bc (by omega),Int.toNat_natCast,Int.toNat_natCast,gPo (by omega),gPo (by omega),gPo (by omega),gPo (by omega),ht,hd,List.nil_append,← List.map_append,rall_eq hB hO (hok.sub hs2) (by rw [List.length_append]; omega),oB]
    by_cases hm : Mt y (kept ++ rest)
    ·rw [if_pos hm] at hc
     rw [if_pos (decide_eq_true hm)] at hbody
     refine .inl ⟨_,hbody,⟨_,kept ++ [x],rest,by rw [List.append_assoc,List.length_append]; rfl,by rw [List.append_assoc]; exact hs,hc⟩,?_,fun t h => h⟩
     dsimp only
     rw [hl]; omega
    ·rw [if_neg hm] at hc
     rw [if_neg (by simp [hm])] at hbody
     refine .inl ⟨_,hbody,⟨_,kept,rest,rfl,hs2.trans hs,hc⟩,?_,fun t h => h⟩
     dsimp only
     rw [hl,List.length_map,List.length_append]; omega) (b0,0,ids.map (bL y)) ⟨b0,[],ids,rfl,by simp,rfl⟩
theorem qn {y : TY} (hG : Good y) {ids : List Int} (hll : ids.length ≤ 1000) : d3 y ids = some (if IdsOk y ids then (if Mt y ids then ⟨[],5⟩ else ⟨gF y [] ids,0⟩) else ⟨[],1⟩):=by
 have hB:=hG.bays
 have hO:=hG.ords
 obtain ⟨l,b,h1,h2⟩:=qa (y:=y) (by omega) hll
 unfold d3
 rw [dm,eS.2 hG,oB,if_neg (by simp),h1,oB]
 rcases h2 with ⟨rfl,hI,rfl⟩ | ⟨rfl,hI⟩
 ·rw [if_neg (by simp),if_pos hI,rall_eq hB (by omega) hI hll,oB]
  by_cases hm : Mt y ids
  ·rw [decide_eq_true hm,if_pos rfl,if_pos hm]
  ·rw [decide_eq_false hm,if_neg (by simp),if_neg hm]
   obtain ⟨u,hu1,hu2⟩:=qb hB (by omega) hI hll false
   rw [hu1,oB]
   have hs:=k7 (y:=y) ids []
   rw [List.nil_append] at hs
   generalize gF y [] ids = L at hs hu2 ⊢
   have hIL:=hI.sub hs
   have hlen:=hs.length_le
   have hrun:=ja (body:=dk y u) (fun k => ((k : Int),L.take k)) L.length (t:=((L.length : Int),L)) (fun k hk => by
    have h3:=hIL.known _ (List.getElem_mem hk)
    have h4:=oT y L[k]
    have h5:=oX h3
    have h6 : rdL (L.map (bL y)) (k : Int) = bL y L[k]:=by
     rw [cg (by rw [List.length_map]; exact hk),List.getElem_map]
    unfold dk; dsimp only
    rw [hu2,h6,h5,List.length_map,fJ (by omega),gPo (by omega),gPo (by omega),gPo (by rw [List.length_take]; omega),bc (by omega),List.take_succ_eq_append_getElem hk]) (by
    unfold dk; dsimp only
    rw [hu2,List.length_map,en (by omega),List.take_length])
   have h7 : aO (dk y u) (0,[]) = _:=hrun
   rw [h7]
   rfl
 ·rw [if_pos (by rfl),if_neg hI]
theorem CartOrders_true (y : TY) (ids : List Int) (bay : Int) (h0 : TYard_rg y) (h1 : fS Rg_i64 ids) (h2 : Rg_i64 bay) : dH y ids bay = some true:=by
 unfold dH
 rw [yard_eq,oB]
 by_cases hg : ((!decide ((y.fB.length ≤ 9 ∨ 24 < y.fB.length ∧ y.fB.length ≤ 40) ∧ (y.fR.length ≤ 9 ∨ 24 < y.fR.length ∧ y.fR.length ≤ 40))) || decide (40 < ((ids.length : Nat) : Int))) = true
 ·rw [if_pos hg,kM]; rfl
 ·rw [if_neg hg]
  have hg2:=Bool.eq_false_iff.2 hg
  rw [Bool.or_eq_false_iff,Bool.not_eq_false',decide_eq_true_eq,decide_eq_false_iff_not] at hg2
  obtain ⟨hyd,hll⟩:=hg2
  by_cases hv : jw y = 0
  ·have hG:=eS.1 hv
   have hB:=hG.bays
   have hO:=hG.ords
   obtain ⟨V0,hV,hV0⟩:=Worth_ok hG (by omega)
   obtain ⟨r,hr1,hr2⟩:=Lost_eq hG (by omega) bay
   rw [Surely_ok hG (by omega) hV0,sg hG (by omega) hV0,Never_ok hG (by omega) hV0,rNever_ok hG (by omega) hV0,sn hG (by omega),qn hG (by omega),hr1,hr2,kM]
   have l1 : (rf y V0).length < 1000000000:=by unfold rf; rw [mN]; exact Nat.lt_of_le_of_lt (iK _ _ _) (by omega)
   have l2 : (never y V0).length < 1000000000:=by unfold never; rw [mN]; exact Nat.lt_of_le_of_lt (iK _ _ _) (by omega)
   have l3 : (gF y [] ids).length < 1000000000:=by
    have hs:=(k7 (y:=y) ids []).length_le
    rw [List.nil_append] at hs
    omega
   have hc : ∃ L e,(if IdsOk y ids then (if Mt y ids then (([] : List Int),(5 : Int)) else (gF y [] ids,0)) else ([],1)) = (L,e) ∧ (if IdsOk y ids then (if Mt y ids then TInts.mk [] 5 else ⟨gF y [] ids,0⟩) else ⟨[],1⟩) = ⟨L,e⟩ ∧ L.length < 1000000000:=by
    by_cases hI : IdsOk y ids
    ·rw [if_pos hI,if_pos hI]
     by_cases hm : Mt y ids
     ·rw [if_pos hm,if_pos hm]; exact ⟨_,_,rfl,rfl,by simp⟩
     ·rw [if_neg hm,if_neg hm]; exact ⟨_,_,rfl,rfl,l3⟩
    ·rw [if_neg hI,if_neg hI]; exact ⟨_,_,rfl,rfl,by simp⟩
   obtain ⟨L,e,hc1,hc2,hc3⟩:=hc
   rw [hc1,hc2]
   simp only [oB,jc _ l1,jc _ l2,jc _ hc3]
   simp
  ·have hE : eJ y = some ⟨[],jw y⟩:=by
    unfold eJ
    rw [dm,oB,if_pos (by simpa using hv)]
   have hE2 : fq y = some ⟨[],jw y⟩:=by
    unfold fq
    rw [dm,oB,if_pos (by simpa using hv)]
   have hE3 : d3 y ids = some ⟨[],jw y⟩:=by
    unfold d3
    rw [dm,oB,if_pos (by simpa using hv)]
   have hE4 : gc y bay = some (0,jw y):=by
    unfold gc
    rw [dm,oB,if_pos (by simpa using hv)]
   have hE5 : gy y bay = some (0,jw y):=by
    unfold gy
    rw [dz,oB,if_pos (by simpa using hv)]
   rw [so hv,Never_bad hv,qt hv,hE,hE2,hE3,hE4,hE5,kM]
   simp only [oB,jc [] (by simp)]
   simp
end Go.Proofs.YthndghnkebboaaaGreat
