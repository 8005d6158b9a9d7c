import Derived.Test.YthndghnkebboaaaGreatYn
import Derived.Test.YthndghnkebboaaaGreatP
import Derived.KernelRfl
set_option linter.unusedSimpArgs false
set_option linter.unusedVariables false
namespace Go.Proofs.YthndghnkebboaaaGreat
open Classical
theorem jv (r : TR) (f t h p : Int) : fy r f t h p = some (g8 r f t h p):=by
 unfold fy g8 inB
 rw [tQ,oB]
 by_cases hv : kP r = 0
 ·have hR:=jO.1 hv
  have hp:=hR.places
  rw [if_neg (by simp [hv]),if_neg (by simp [hv])]
  simp only [jG,mf,oB,bL (show -9223372036854775808 ≤ r.fPlaces - 1 by omega) (show r.fPlaces - 1 ≤ 9223372036854775807 by omega)]
  by_cases c1 : 0 ≤ f ∧ f ≤ r.fPlaces - 1 <;> by_cases c2 : 0 ≤ t ∧ t ≤ r.fPlaces - 1 <;> by_cases c3 : 0 ≤ h ∧ h ≤ 16384 <;> by_cases c4 : 0 ≤ p ∧ p ≤ 60 <;> simp [c1,c2,c3,c4]
 ·rw [if_pos (by simpa using hv),if_pos hv]
def rq (t : TT) (h : Int) : Int:=if h < 0 then -1 else arr t h
theorem sQ {n : Int} {t : TT} (ht : GoodT n t) {h : Int} (hh : -1 ≤ h ∧ h ≤ 16384) : gk t h = some (rq t h):=by
 unfold gk rq
 by_cases h0 : h < 0
 ·rw [if_pos (decide_eq_true h0),if_pos h0]
 ·rw [if_neg (by simpa using h0),if_neg h0,renter_eq ht.spans (by have:=ht.few; omega),oB]
  have h1:=rn ht.spans (h:=h) (by omega)
  have h2:=jS t.fK h
  have hl:=ht.long
  unfold arr pT
  by_cases hc : d5 t.fK h ≤ 16384
  ·rw [if_pos (decide_eq_true ⟨by omega,hc⟩),bL (by omega) (by omega)]
   by_cases hc2 : d5 t.fK h + t.fLong ≤ 16384
   ·rw [if_neg (by simp; omega),if_pos hc2]
   ·rw [if_pos (by simp; omega),if_neg hc2]
  ·have e : decide (0 ≤ d5 t.fK h ∧ d5 t.fK h ≤ 16384) = false:=decide_eq_false (by omega)
   rw [e,if_neg (show ¬ d5 t.fK h + t.fLong ≤ 16384 by omega)]
   rfl
def At (o : List (List Int)) (p c : Nat) : Int:=(o.getD p []).getD c 0
def Grid (n : Nat) (o : List (List Int)) : Prop:=o.length = n ∧ ∀ l ∈ o,l.length = 61
def wv (v : Int) : Nat:=if v < 0 then 16385 else v.toNat
def pot5 (o : List (List Int)) : Nat:=(o.map fun l => (l.map wv).sum).sum
def nP (o : List (List Int)) (p c : Nat) (v : Int) : List (List Int):=o.set p ((o.getD p []).set c v)
theorem Grid.row {n : Nat} {o : List (List Int)} (hG : Grid n o) {p : Nat} (hp : p < n) : (o.getD p []).length = 61:=by
 have hl : p < o.length:=by rw [hG.1]; exact hp
 rw [List.getD_eq_getElem?_getD,List.getElem?_eq_getElem hl]
 exact hG.2 _ (List.getElem_mem hl)
theorem Grid.put {n : Nat} {o : List (List Int)} (hG : Grid n o) {p c : Nat} (v : Int) (hp : p < n) : Grid n (nP o p c v):=by
 refine ⟨by unfold nP; rw [List.length_set]; exact hG.1,fun l hl => ?_⟩
 rcases List.mem_or_eq_of_mem_set hl with h | rfl
 ·exact hG.2 l h
 ·rw [List.length_set]; exact hG.row hp
theorem At_put {n : Nat} {o : List (List Int)} (hG : Grid n o) {p c : Nat} (v : Int) (hp : p < n) (hc : c ≤ 60) (p' c' : Nat) : At (nP o p c v) p' c' = if p' = p ∧ c' = c then v else At o p' c':=by
 have hl : p < o.length:=by rw [hG.1]; exact hp
 have hr:=hG.row hp
 unfold At nP
 by_cases h1 : p' = p
 ·subst h1
  have e1 : (o.set p' ((o.getD p' []).set c v)).getD p' [] = (o.getD p' []).set c v:=by rw [List.getD_eq_getElem?_getD (l:=o.set p' _),List.getElem?_set_self hl,Option.getD_some]
  rw [e1]
  by_cases h2 : c' = c
  ·subst h2
   rw [if_pos ⟨rfl,rfl⟩,List.getD_eq_getElem?_getD,List.getElem?_set_self (by omega),Option.getD_some]
  ·rw [if_neg (fun h => h2 h.2),List.getD_eq_getElem?_getD,List.getElem?_set_ne (fun e => h2 e.symm),← List.getD_eq_getElem?_getD]
 ·rw [if_neg (fun h => h1 h.1)]
  have e1 : (o.set p ((o.getD p []).set c v)).getD p' [] = o.getD p' []:=by rw [List.getD_eq_getElem?_getD (l:=o.set p _),List.getElem?_set_ne (fun e => h1 e.symm),← List.getD_eq_getElem?_getD]
  rw [e1]
theorem q6 : ∀ (l : List Nat) (i v : Nat) (h : i < l.length),(l.set i v).sum + l[i] = l.sum + v
 | x :: l,0,v,_ => by simp; omega
 | x :: l,i + 1,v,h => by
  have:=q6 l i v (by simpa using h)
  simp only [List.set_cons_succ,List.sum_cons,List.getElem_cons_succ]
  omega
theorem pot5_put {n : Nat} {o : List (List Int)} (hG : Grid n o) {p c : Nat} {v : Int} (hp : p < n) (hc : c ≤ 60) (hw : wv v < wv (At o p c)) : pot5 (nP o p c v) < pot5 o:=by
 have hl : p < o.length:=by rw [hG.1]; exact hp
 have hr:=hG.row hp
 have e0 : o.getD p [] = o[p]:=by rw [List.getD_eq_getElem?_getD,List.getElem?_eq_getElem hl]; rfl
 have hc2 : c < (o[p]).length:=by rw [← e0]; omega
 have eA : At o p c = (o[p])[c]:=by unfold At; rw [e0,List.getD_eq_getElem?_getD,List.getElem?_eq_getElem hc2]; rfl
 have s1:=q6 ((o[p]).map wv) c (wv v) (by rw [List.length_map]; exact hc2)
 have s2:=q6 (o.map fun l => (l.map wv).sum) p ((((o[p]).set c v).map wv).sum) (by rw [List.length_map]; exact hl)
 rw [List.getElem_map,← List.map_set] at s1 s2
 rw [← eA] at s1
 unfold pot5 nP
 rw [e0]
 omega
theorem sV (o : List (List Int)) (p c : Nat) : rdL (rdL o (p : Int)) (c : Int) = At o p c:=rfl
theorem nT (o : List (List Int)) (p : Nat) : rdL o (p : Int) = o.getD p []:=rfl
theorem sc {o : List (List Int)} {p c : Nat} {v : Int} (hl : p < o.length) (p' : Nat) : (nP o p c v).getD p' [] = if p' = p then (o.getD p []).set c v else o.getD p' []:=by
 unfold nP
 by_cases h1 : p' = p
 ·subst h1
  rw [if_pos rfl,List.getD_eq_getElem?_getD (l:=o.set p' _),List.getElem?_set_self hl,Option.getD_some]
 ·rw [if_neg h1,List.getD_eq_getElem?_getD (l:=o.set p _),List.getElem?_set_ne (fun e => h1 e.symm),← List.getD_eq_getElem?_getD]
theorem nA (l : List Int) (c c' : Nat) (v : Int) (hc : c < l.length) : (l.set c v).getD c' 0 = if c' = c then v else l.getD c' 0:=by
 by_cases h : c' = c
 ·subst h
  rw [if_pos rfl,List.getD_eq_getElem?_getD,List.getElem?_set_self hc,Option.getD_some]
 ·rw [if_neg h,List.getD_eq_getElem?_getD,List.getElem?_set_ne (fun e => h e.symm),← List.getD_eq_getElem?_getD]
theorem init2 {r : TR} {f h : Int} {n : Nat} (hn : r.fPlaces = (n : Int)) (hn2 : n ≤ 16) {p : Nat} (hp : p < n) {o0 oX : List (List Int)} (hl0 : o0.length = n) (hrow : (o0.getD p []).length = 61) : ∃ o,aM (dB r f h ((p : Int),oX)) (0,o0) = some (61,o) ∧ o.length = n ∧ (o.getD p []).length = 61 ∧ (∀ p',p' ≠ p → o.getD p' [] = o0.getD p' []) ∧ ∀ c,c < 61 → At o p c = if (p : Int) = f then h else -1:=by
 have hinv:=bD (body:=dB r f h ((p : Int),oX))
  (fun s => ∃ (c : Nat) (o : List (List Int)),s = ((c : Int),o) ∧ c ≤ 61 ∧ o.length = n ∧ (o.getD p []).length = 61 ∧ (∀ p',p' ≠ p → o.getD p' [] = o0.getD p' []) ∧ ∀ c',c' < c → At o p c' = if (p : Int) = f then h else -1)
  (fun _ t => ∃ o,t = (61,o) ∧ o.length = n ∧ (o.getD p []).length = 61 ∧ (∀ p',p' ≠ p → o.getD p' [] = o0.getD p' []) ∧ ∀ c,c < 61 → At o p c = if (p : Int) = f then h else -1)
  (fun s => 61 - s.1.toNat) (by
   rintro _ ⟨c,o,rfl,hc,h1,h2,h3,h4⟩
   unfold dB; dsimp only
   have htn : Int.toNat r.fPlaces = n:=by rw [hn]; rfl
   rw [htn]
   rcases Nat.lt_or_ge c 61 with hlt | hge
   ·have g1 : (0 : Int) ≤ (p : Int) ∧ (p : Int) < ((n : Nat) : Int):=by omega
    rw [gc (by omega),gPo g1,nT,gPo (by omega),bq (by omega),Int.toNat_natCast,Int.toNat_natCast]
    have e1 : o.set p ((o.getD p []).set c (-1)) = nP o p c (-1):=rfl
    rw [e1]
    have hl1 : (nP o p c (-1)).length = n:=by unfold nP; rw [List.length_set]; exact h1
    have hg1:=sc (c:=c) (v:=-1) (show p < o.length by omega)
    have hr1 : ((nP o p c (-1)).getD p []).length = 61:=by rw [hg1,if_pos rfl,List.length_set]; exact h2
    by_cases hf : (p : Int) = f
    ·rw [if_pos (by rw [beq_iff_eq]; exact hf),gPo g1,nT,gPo (by omega)]
     have e2 : (nP o p c (-1)).set p (((nP o p c (-1)).getD p []).set c h) = nP (nP o p c (-1)) p c h:=rfl
     rw [e2]
     have hg2:=sc (c:=c) (v:=h) (show p < (nP o p c (-1)).length by omega)
     refine .inl ⟨_,rfl,⟨c + 1,_,rfl,hlt,by unfold nP; rw [List.length_set]; exact hl1,by rw [hg2,if_pos rfl,List.length_set]; exact hr1,fun p' hne => by rw [hg2,if_neg hne,hg1,if_neg hne]; exact h3 p' hne,fun c' hc' => ?_⟩,by dsimp only; omega,fun t h => h⟩
     unfold At
     rw [hg2,if_pos rfl,nA _ _ _ _ (by omega),hg1,if_pos rfl,nA _ _ _ _ (by omega),if_pos hf]
     by_cases e : c' = c
     ·rw [if_pos e]
     ·rw [if_neg e,if_neg e]
      have:=h4 c' (by omega)
      rw [if_pos hf] at this
      exact this
    ·rw [if_neg (by rw [beq_iff_eq]; exact hf)]
     refine .inl ⟨_,rfl,⟨c + 1,_,rfl,hlt,hl1,hr1,fun p' hne => by rw [hg1,if_neg hne]; exact h3 p' hne,fun c' hc' => ?_⟩,by dsimp only; omega,fun t h => h⟩
     unfold At
     rw [hg1,if_pos rfl,nA _ _ _ _ (by omega),if_neg hf]
     by_cases e : c' = c
     ·rw [if_pos e]
     ·rw [if_neg e]
      have:=h4 c' (by omega)
      rw [if_neg hf] at this
      exact this
   ·have : c = 61:=by omega
    subst this
    rw [fX (by omega)]
    exact .inr ⟨_,rfl,o,rfl,h1,h2,h3,h4⟩) (0,o0) ⟨0,o0,rfl,by omega,hl0,hrow,fun _ _ => rfl,fun c hc => by omega⟩
 obtain ⟨t,ht,o,rfl,hh⟩:=hinv
 exact ⟨o,ht,hh⟩
def tp (f h : Int) (p c : Nat) : Int:=if (p : Int) = f then h else -1
theorem init1 {r : TR} {f h : Int} {n : Nat} (hn : r.fPlaces = (n : Int)) (hn2 : n ≤ 16) : ∃ o,aM (dH r f h) (0,List.replicate n []) = some (r.fPlaces,o) ∧ Grid n o ∧ ∀ p c,p < n → c < 61 → At o p c = tp f h p c:=by
 have htn : Int.toNat r.fPlaces = n:=by rw [hn]; rfl
 have hinv:=bD (body:=dH r f h)
  (fun s => ∃ (p : Nat) (o : List (List Int)),s = ((p : Int),o) ∧ p ≤ n ∧ o.length = n ∧ ∀ p',p' < p → (o.getD p' []).length = 61 ∧ ∀ c,c < 61 → At o p' c = tp f h p' c)
  (fun _ t => ∃ o,t = (r.fPlaces,o) ∧ o.length = n ∧ ∀ p',p' < n → (o.getD p' []).length = 61 ∧ ∀ c,c < 61 → At o p' c = tp f h p' c)
  (fun s => n - s.1.toNat) (by
   rintro _ ⟨p,o,rfl,hp,h1,h2⟩
   unfold dH; dsimp only
   rw [htn]
   rcases Nat.lt_or_ge p n with hlt | hge
   ·have hset : (o.set p (List.replicate (Int.toNat 61) 0)).length = n:=by rw [List.length_set]; exact h1
    have hrow : ∀ p',(o.set p (List.replicate (Int.toNat 61) (0 : Int))).getD p' [] = if p' = p then List.replicate 61 0 else o.getD p' []:=fun p' => by
     by_cases e : p' = p
     ·subst e
      rw [if_pos rfl,List.getD_eq_getElem?_getD (l:=o.set p' _),List.getElem?_set_self (by omega),Option.getD_some]
      rfl
     ·rw [if_neg e,List.getD_eq_getElem?_getD (l:=o.set p _),List.getElem?_set_ne (fun e' => e e'.symm),← List.getD_eq_getElem?_getD]
    rw [gc (by omega),gPo (by decide),gPo (by omega),Int.toNat_natCast,bq (by omega)]
    obtain ⟨o2,e2,k1,k2,k3,k4⟩:=init2 (f:=f) (h:=h) hn hn2 hlt (oX:=o) hset (by rw [hrow,if_pos rfl]; rfl)
    rw [e2,oB]
    refine .inl ⟨_,rfl,⟨p + 1,_,rfl,hlt,k1,fun p' hp' => ?_⟩,by dsimp only; omega,fun t h => h⟩
    by_cases e : p' = p
    ·subst e
     exact ⟨k2,k4⟩
    ·have:=h2 p' (by omega)
     unfold At at this ⊢
     rw [k3 p' e,hrow,if_neg e]
     exact this
   ·have : p = n:=by omega
    subst this
    rw [fX (by omega)]
    exact .inr ⟨_,rfl,o,by rw [hn],h1,h2⟩) (0,List.replicate n []) ⟨0,_,rfl,Nat.zero_le _,List.length_replicate,fun p' hp' => by omega⟩
 obtain ⟨t,ht,o,rfl,h1,h2⟩:=hinv
 refine ⟨o,ht,⟨h1,fun l hl => ?_⟩,fun p c hp hc => (h2 p hp).2 c hc⟩
 obtain ⟨i,hi,rfl⟩:=List.mem_iff_getElem.1 hl
 have:=(h2 i (by omega)).1
 rw [List.getD_eq_getElem?_getD,List.getElem?_eq_getElem hi] at this
 exact this
structure TInv (r : TR) (f h : Int) (n : Nat) (o : List (List Int)) : Prop where
 grid : Grid n o
 val : ∀ p c,p < n → c < 61 → -1 ≤ At o p c ∧ At o p c ≤ 16384
 att : ∀ p c : Nat,p < n → c < 61 → 0 ≤ At o p c → ∃ c',c' ≤ (c : Int) ∧ Tr r f h (p : Int) c' (At o p c)
 start : ∀ p c : Nat,(p : Int) = f → c < 61 → 0 ≤ At o p c ∧ At o p c ≤ h
theorem TInv.put {r : TR} {f h : Int} {n : Nat} {o : List (List Int)} (hT : TInv r f h n o) {p c : Nat} {v : Int} (hp : p < n) (hc : c < 61) (hv : 0 ≤ v ∧ v ≤ 16384) (hs : At o p c < 0 ∨ v < At o p c) (ha : ∃ c',c' ≤ (c : Int) ∧ Tr r f h (p : Int) c' v) : TInv r f h n (nP o p c v) ∧ pot5 (nP o p c v) < pot5 o:=by
 have hA:=At_put hT.grid v hp (show c ≤ 60 by omega)
 refine ⟨⟨hT.grid.put v hp,fun p' c' hp' hc' => ?_,fun p' c' hp' hc' => ?_,fun p' c' hp' hc' => ?_⟩,pot5_put hT.grid hp (by omega) ?_⟩
 ·rw [hA]
  by_cases e : p' = p ∧ c' = c
  ·rw [if_pos e]; omega
  ·rw [if_neg e]; exact hT.val p' c' hp' hc'
 ·rw [hA]
  by_cases e : p' = p ∧ c' = c
  ·rw [if_pos e,e.1,e.2]; exact fun _ => ha
  ·rw [if_neg e]; exact hT.att p' c' hp' hc'
 ·rw [hA]
  by_cases e : p' = p ∧ c' = c
  ·rw [if_pos e]
   have:=hT.start p' c' hp' hc'
   rw [e.1,e.2] at this
   omega
  ·rw [if_neg e]; exact hT.start p' c' hp' hc'
 ·have:=hT.val p c hp hc
  unfold wv
  split <;> split <;> omega
structure Prog (r : TR) (f h : Int) (n : Nat) (ch0 : Bool) (o0 : List (List Int)) (ch : Bool) (o : List (List Int)) : Prop where
 inv : TInv r f h n o
 le : pot5 o ≤ pot5 o0
 same : ch = false → ch0 = false ∧ o = o0
 less : ch = true → ch0 = true ∨ pot5 o < pot5 o0
theorem Prog.refl {r : TR} {f h : Int} {n : Nat} {ch : Bool} {o : List (List Int)} (hT : TInv r f h n o) : Prog r f h n ch o ch o:=⟨hT,Nat.le_refl _,fun e => ⟨e,rfl⟩,fun e => .inl e⟩
theorem Prog.trans {r : TR} {f h : Int} {n : Nat} {c0 c1 c2 : Bool} {o0 o1 o2 : List (List Int)} (a : Prog r f h n c0 o0 c1 o1) (b : Prog r f h n c1 o1 c2 o2) : Prog r f h n c0 o0 c2 o2 :=
 ⟨b.inv,Nat.le_trans b.le a.le,fun e => by
  obtain ⟨e1,e2⟩:=b.same e
  obtain ⟨e3,e4⟩:=a.same e1
  exact ⟨e3,e2.trans e4⟩,fun e => by
  rcases b.less e with h1 | h1
  ·rcases a.less h1 with h2 | h2
   ·exact .inl h2
   ·have:=b.le; exact .inr (by omega)
  ·have:=a.le; exact .inr (by omega)⟩
theorem Prog.put {r : TR} {f h : Int} {n : Nat} {c0 : Bool} {o0 : List (List Int)} {ch : Bool} {o : List (List Int)} (a : Prog r f h n c0 o0 ch o) {p c : Nat} {v : Int} (hp : p < n) (hc : c < 61) (hv : 0 ≤ v ∧ v ≤ 16384) (hs : At o p c < 0 ∨ v < At o p c) (ha : ∃ c',c' ≤ (c : Int) ∧ Tr r f h (p : Int) c' v) : Prog r f h n c0 o0 true (nP o p c v):=by
 obtain ⟨h1,h2⟩:=a.inv.put hp hc hv hs ha
 have:=a.le
 exact ⟨h1,by omega,(fun e => by cases e),fun _ => .inr (by omega)⟩
def pJ (o : List (List Int)) (p c : Nat) : Prop:=0 ≤ At o p (c - 1) → 0 ≤ At o p c ∧ At o p c ≤ At o p (c - 1)
theorem l7_ok {r : TR} {f h : Int} {n : Nat} (hn : r.fPlaces = (n : Int)) {p : Nat} (hp : p < n) {ch0 x : Bool} {o0 y : List (List Int)} (hT : TInv r f h n o0) : ∃ ch o,aM (dF r (x,(p : Int),y)) (ch0,1,o0) = some (ch,61,o) ∧ Prog r f h n ch0 o0 ch o ∧ (ch = false → ∀ c,1 ≤ c → c < 61 → pJ o0 p c):=by
 have htn : Int.toNat r.fPlaces = n:=by rw [hn]; rfl
 have hinv:=bD (body:=dF r (x,(p : Int),y))
  (fun s => ∃ (k : Nat) (ch : Bool) (o : List (List Int)),s = (ch,(k : Int),o) ∧ 1 ≤ k ∧ k ≤ 61 ∧ Prog r f h n ch0 o0 ch o ∧ (ch = false → ∀ c,1 ≤ c → c < k → pJ o0 p c))
  (fun _ t => ∃ ch o,t = (ch,61,o) ∧ Prog r f h n ch0 o0 ch o ∧ (ch = false → ∀ c,1 ≤ c → c < 61 → pJ o0 p c))
  (fun s => 61 - s.2.1.toNat) (by
   rintro _ ⟨k,ch,o,rfl,hk1,hk,hP,hM⟩
   unfold dF; dsimp only
   rw [htn]
   rcases Nat.lt_or_ge k 61 with hlt | hge
   ·have hrow:=hP.inv.grid.row hp
    have ek : w64 ((k : Int) - 1) = ((k - 1 : Nat) : Int):=by rw [bL (by omega) (by omega)]; omega
    have g1 : (0 : Int) ≤ (p : Int) ∧ (p : Int) < ((n : Nat) : Int):=by omega
    rw [gc (by omega),gPo g1,ek,sV,sV,nT,gPo (by omega),gPo g1,gPo (by omega)]
    unfold fJ
    rw [oB,gPo g1,gPo g1,gPo (by omega),gPo (by omega),bq (by omega),Int.toNat_natCast,Int.toNat_natCast]
    have v1:=hP.inv.val p (k - 1) hp (by omega)
    have v2:=hP.inv.val p k hp hlt
    by_cases hc : 0 ≤ At o p (k - 1) ∧ (At o p k < 0 ∨ At o p (k - 1) < At o p k)
    ·rw [if_pos (by rw [Bool.and_eq_true,Bool.or_eq_true,decide_eq_true_eq,decide_eq_true_eq,decide_eq_true_eq]; exact hc)]
     obtain ⟨c',q1,q2⟩:=hP.inv.att p (k - 1) hp (by omega) hc.1
     exact .inl ⟨_,rfl,⟨k + 1,true,nP o p k (At o p (k - 1)),rfl,by omega,hlt,hP.put hp hlt ⟨hc.1,v1.2⟩ hc.2 ⟨c',by omega,q2⟩,fun e => by cases e⟩,by dsimp only; omega,fun t h => h⟩
    ·rw [if_neg (by rw [Bool.and_eq_true,Bool.or_eq_true,decide_eq_true_eq,decide_eq_true_eq,decide_eq_true_eq]; exact hc)]
     refine .inl ⟨_,rfl,⟨k + 1,ch,o,rfl,by omega,hlt,hP,fun e c h1 h2 => ?_⟩,by dsimp only; omega,fun t h => h⟩
     by_cases e2 : c = k
     ·subst e2
      obtain ⟨_,rfl⟩:=hP.same e
      intro h0
      by_cases h5 : At o p c < 0
      ·exact absurd ⟨h0,.inl h5⟩ hc
      ·by_cases h6 : At o p (c - 1) < At o p c
       ·exact absurd ⟨h0,.inr h6⟩ hc
       ·omega
     ·exact hM e c h1 (by omega)
   ·have : k = 61:=by omega
    subst this
    rw [fX (by omega)]
    exact .inr ⟨_,rfl,ch,o,rfl,hP,hM⟩) (ch0,1,o0) ⟨1,ch0,o0,rfl,Nat.le_refl _,by omega,.refl hT,fun _ c h1 h2 => by omega⟩
 obtain ⟨t,ht,ch,o,rfl,hh⟩:=hinv
 exact ⟨ch,o,ht,hh⟩
theorem l6_ok {r : TR} {f h : Int} {n : Nat} (hn : r.fPlaces = (n : Int)) (hn2 : n ≤ 16) {ch0 : Bool} {o0 : List (List Int)} (hT : TInv r f h n o0) : ∃ ch o,aM (dK r) (ch0,0,o0) = some (ch,r.fPlaces,o) ∧ Prog r f h n ch0 o0 ch o ∧ (ch = false → ∀ p c,p < n → 1 ≤ c → c < 61 → pJ o0 p c):=by
 have hinv:=bD (body:=dK r)
  (fun s => ∃ (p : Nat) (ch : Bool) (o : List (List Int)),s = (ch,(p : Int),o) ∧ p ≤ n ∧ Prog r f h n ch0 o0 ch o ∧ (ch = false → ∀ p' c,p' < p → 1 ≤ c → c < 61 → pJ o0 p' c))
  (fun _ t => ∃ ch o,t = (ch,r.fPlaces,o) ∧ Prog r f h n ch0 o0 ch o ∧ (ch = false → ∀ p c,p < n → 1 ≤ c → c < 61 → pJ o0 p c))
  (fun s => n - s.2.1.toNat) (by
   rintro _ ⟨p,ch,o,rfl,hp,hP,hM⟩
   unfold dK; dsimp only
   rcases Nat.lt_or_ge p n with hlt | hge
   ·rw [gc (by omega)]
    obtain ⟨ch2,o2,e2,hP2,hM2⟩:=l7_ok hn hlt (ch0:=ch) (x:=ch) (y:=o) hP.inv
    rw [e2,oB,bq (by omega)]
    refine .inl ⟨_,rfl,⟨p + 1,ch2,o2,rfl,hlt,hP.trans hP2,fun e p' c h1 h2 h3 => ?_⟩,by dsimp only; omega,fun t h => h⟩
    obtain ⟨e3,e4⟩:=hP2.same e
    obtain ⟨_,e6⟩:=hP.same e3
    by_cases e5 : p' = p
    ·subst e5
     have:=hM2 e c h2 h3
     rw [e6] at this
     exact this
    ·exact hM e3 p' c (by omega) h2 h3
   ·have : p = n:=by omega
    subst this
    rw [fX (by omega)]
    exact .inr ⟨_,rfl,ch,o,by rw [hn],hP,hM⟩) (ch0,0,o0) ⟨0,ch0,o0,rfl,Nat.zero_le _,.refl hT,fun _ p c h1 => by omega⟩
 obtain ⟨t,ht,ch,o,rfl,hh⟩:=hinv
 exact ⟨ch,o,ht,hh⟩
def p7 (o : List (List Int)) (t : TT) (c : Nat) : Prop:=(c : Int) + t.fToll ≤ 60 → 0 ≤ rq t (At o t.fFrom.toNat c) → 0 ≤ At o t.fTo.toNat (c + t.fToll.toNat) ∧ At o t.fTo.toNat (c + t.fToll.toNat) ≤ rq t (At o t.fFrom.toNat c)
theorem arrV_tr {r : TR} (hR : GoodR r) {f h : Int} {t : TT} (ht : t ∈ r.fTracks) {c : Int} {a : Int} (hh : 0 ≤ rq t a) (htr : Tr r f h t.fFrom c a) : Tr r f h t.fTo (c + t.fToll) (rq t a) ∧ rq t a ≤ 16384:=by
 unfold rq at hh ⊢
 by_cases h0 : a < 0
 ·rw [if_pos h0] at hh; omega
 ·rw [if_neg h0] at hh ⊢
  obtain ⟨h1,h2⟩:=rl hh
  rw [h2]
  exact ⟨.step t _ htr ht rfl (jS _ _) (oy a (hR.trk t ht).spans),h1⟩
theorem l5_ok {r : TR} (hR : GoodR r) {f h : Int} {n : Nat} (hn : r.fPlaces = (n : Int)) {i : Nat} (hi : i < r.fTracks.length) {ch0 x : Bool} {o0 y : List (List Int)} (hT : TInv r f h n o0) : ∃ ch o c9,aM (dC r (x,(i : Int),y)) (ch0,0,o0) = some (ch,c9,o) ∧ Prog r f h n ch0 o0 ch o ∧ (ch = false → ∀ c : Nat,p7 o0 r.fTracks[i] c):=by
 have htn : Int.toNat r.fPlaces = n:=by rw [hn]; rfl
 have htm:=List.getElem_mem hi
 have hG:=hR.trk _ htm
 have hfr:=hG.fr
 have hto:=hG.to
 have htl:=hG.toll
 obtain ⟨a,ha⟩ : ∃ a : Nat,(r.fTracks[i]).fFrom = (a : Int):=⟨(r.fTracks[i]).fFrom.toNat,by omega⟩
 obtain ⟨b,hb⟩ : ∃ b : Nat,(r.fTracks[i]).fTo = (b : Int):=⟨(r.fTracks[i]).fTo.toNat,by omega⟩
 obtain ⟨w,hw⟩ : ∃ w : Nat,(r.fTracks[i]).fToll = (w : Int):=⟨(r.fTracks[i]).fToll.toNat,by omega⟩
 have hinv:=bD (body:=dC r (x,(i : Int),y))
  (fun s => ∃ (k : Nat) (ch : Bool) (o : List (List Int)),s = (ch,(k : Int),o) ∧ k ≤ 61 ∧ Prog r f h n ch0 o0 ch o ∧ (ch = false → ∀ c : Nat,c < k → p7 o0 r.fTracks[i] c))
  (fun _ t => ∃ ch o c9,t = (ch,c9,o) ∧ Prog r f h n ch0 o0 ch o ∧ (ch = false → ∀ c : Nat,p7 o0 r.fTracks[i] c))
  (fun s => 61 - s.2.1.toNat) (by
   rintro _ ⟨k,ch,o,rfl,hk,hP,hM⟩
   unfold dC; dsimp only
   rw [htn,bH hi,kV]
   have ew : w64 ((k : Int) + (r.fTracks[i]).fToll) = ((k + w : Nat) : Int):=by rw [bL (by omega) (by omega)]; omega
   rw [ew]
   by_cases hc : k + w ≤ 60
   ·have hrA:=hP.inv.grid.row (show a < n by omega)
    have hrB:=hP.inv.grid.row (show b < n by omega)
    have v1:=hP.inv.val a k (by omega) (by omega)
    have v2:=hP.inv.val b (k + w) (by omega) (by omega)
    rw [gc (by omega),gPo (by omega),ha,sV,nT,gPo (by omega),sQ hG v1,oB,gPo (by omega),hb,sV,nT,gPo (by omega)]
    unfold fJ
    rw [oB,gPo (by omega),gPo (by omega),bq (by omega),Int.toNat_natCast,Int.toNat_natCast]
    by_cases hs : 0 ≤ rq r.fTracks[i] (At o a k) ∧ (At o b (k + w) < 0 ∨ rq r.fTracks[i] (At o a k) < At o b (k + w))
    ·rw [if_pos (by rw [Bool.and_eq_true,Bool.or_eq_true,decide_eq_true_eq,decide_eq_true_eq,decide_eq_true_eq]; exact hs)]
     have hpos : 0 ≤ At o a k:=by
      have:=hs.1
      unfold rq at this
      split at this <;> omega
     obtain ⟨c',q1,q2⟩:=hP.inv.att a k (by omega) (by omega) hpos
     rw [← ha] at q2
     obtain ⟨q3,q4⟩:=arrV_tr hR htm hs.1 q2
     rw [hb] at q3
     exact .inl ⟨_,rfl,⟨k + 1,true,nP o b (k + w) (rq r.fTracks[i] (At o a k)),rfl,by omega,hP.put (by omega) (by omega) ⟨hs.1,q4⟩ hs.2 ⟨c' + (r.fTracks[i]).fToll,by omega,q3⟩,fun e => by cases e⟩,by dsimp only; omega,fun t h => h⟩
    ·rw [if_neg (by rw [Bool.and_eq_true,Bool.or_eq_true,decide_eq_true_eq,decide_eq_true_eq,decide_eq_true_eq]; exact hs)]
     refine .inl ⟨_,rfl,⟨k + 1,ch,o,rfl,by omega,hP,fun e c h1 => ?_⟩,by dsimp only; omega,fun t h => h⟩
     by_cases e2 : c = k
     ·subst e2
      obtain ⟨_,rfl⟩:=hP.same e
      intro h0 h5
      rw [ha,hb,hw] at *
      rw [Int.toNat_natCast,Int.toNat_natCast,Int.toNat_natCast] at *
      by_cases h6 : At o b (c + w) < 0
      ·exact absurd ⟨h5,.inl h6⟩ hs
      ·by_cases h7 : rq r.fTracks[i] (At o a c) < At o b (c + w)
       ·exact absurd ⟨h5,.inr h7⟩ hs
       ·omega
     ·exact hM e c (by omega)
   ·rw [fX (by omega)]
    refine .inr ⟨_,rfl,ch,o,_,rfl,hP,fun e c => ?_⟩
    by_cases h1 : c < k
    ·exact hM e c h1
    ·intro h0
     omega) (ch0,0,o0) ⟨0,ch0,o0,rfl,by omega,.refl hT,fun _ c h1 => by omega⟩
 obtain ⟨t,ht,ch,o,c9,rfl,hh⟩:=hinv
 exact ⟨ch,o,c9,ht,hh⟩
theorem l4_ok {r : TR} (hR : GoodR r) {f h : Int} {n : Nat} (hn : r.fPlaces = (n : Int)) {ch0 : Bool} {o0 : List (List Int)} (hT : TInv r f h n o0) : ∃ ch o i9,aM (dL r) (ch0,0,o0) = some (ch,i9,o) ∧ Prog r f h n ch0 o0 ch o ∧ (ch = false → ∀ t ∈ r.fTracks,∀ c : Nat,p7 o0 t c):=by
 have hrl:=hR.len
 have hinv:=bD (body:=dL r)
  (fun s => ∃ (i : Nat) (ch : Bool) (o : List (List Int)),s = (ch,(i : Int),o) ∧ i ≤ r.fTracks.length ∧ Prog r f h n ch0 o0 ch o ∧ (ch = false → ∀ j,(hj : j < r.fTracks.length) → j < i → ∀ c : Nat,p7 o0 r.fTracks[j] c))
  (fun _ t => ∃ ch o i9,t = (ch,i9,o) ∧ Prog r f h n ch0 o0 ch o ∧ (ch = false → ∀ t ∈ r.fTracks,∀ c : Nat,p7 o0 t c))
  (fun s => r.fTracks.length - s.2.1.toNat) (by
   rintro _ ⟨i,ch,o,rfl,hi,hP,hM⟩
   unfold dL; dsimp only
   rcases Nat.lt_or_ge i r.fTracks.length with hlt | hge
   ·obtain ⟨ch2,o2,c9,e2,hP2,hM2⟩:=l5_ok hR hn hlt (ch0:=ch) (x:=ch) (y:=o) hP.inv
    rw [gc (by omega),gPo (by omega),e2,oB,bq (by omega)]
    refine .inl ⟨_,rfl,⟨i + 1,ch2,o2,rfl,hlt,hP.trans hP2,fun e j hj h1 c => ?_⟩,by dsimp only; omega,fun t h => h⟩
    obtain ⟨e3,e4⟩:=hP2.same e
    obtain ⟨_,e6⟩:=hP.same e3
    by_cases e5 : j = i
    ·subst e5
     have:=hM2 e c
     rw [e6] at this
     exact this
    ·exact hM e3 j hj (by omega) c
   ·rw [fX (by omega)]
    refine .inr ⟨_,rfl,ch,o,_,rfl,hP,fun e t ht c => ?_⟩
    obtain ⟨j,hj,rfl⟩:=List.mem_iff_getElem.1 ht
    exact hM e j hj (by omega) c) (ch0,0,o0) ⟨0,ch0,o0,rfl,Nat.zero_le _,.refl hT,fun _ j hj h1 => by omega⟩
 obtain ⟨t,ht,ch,o,i9,rfl,hh⟩:=hinv
 exact ⟨ch,o,i9,ht,hh⟩
theorem l3_ok {r : TR} (hR : GoodR r) {f h : Int} {n : Nat} (hn : r.fPlaces = (n : Int)) (hn2 : n ≤ 16) {o0 : List (List Int)} (hT : TInv r f h n o0) : ∃ o,aM (dz r) (true,o0) = some (false,o) ∧ TInv r f h n o ∧ (∀ t ∈ r.fTracks,∀ c : Nat,p7 o t c) ∧ ∀ p c,p < n → 1 ≤ c → c < 61 → pJ o p c:=by
 have hinv:=bD (body:=dz r)
  (fun s => TInv r f h n s.2 ∧ (s.1 = false → (∀ t ∈ r.fTracks,∀ c : Nat,p7 s.2 t c) ∧ ∀ p c,p < n → 1 ≤ c → c < 61 → pJ s.2 p c))
  (fun _ t => t.1 = false ∧ TInv r f h n t.2 ∧ (∀ t' ∈ r.fTracks,∀ c : Nat,p7 t.2 t' c) ∧ ∀ p c,p < n → 1 ≤ c → c < 61 → pJ t.2 p c)
  (fun s => 2 * pot5 s.2 + if s.1 = true then 1 else 0) (by
   rintro ⟨ch,o⟩ ⟨hI,hF⟩
   unfold dz; dsimp only at hI hF ⊢
   cases ch with
   | false =>
    rw [if_neg (by simp)]
    exact .inr ⟨_,rfl,rfl,hI,hF rfl⟩
   | true =>
    rw [if_pos rfl]
    obtain ⟨c1,o1,i9,e1,p1,m1⟩:=l4_ok hR hn (ch0:=false) hI
    obtain ⟨c2,o2,e2,p2,m2⟩:=l6_ok hn hn2 (ch0:=c1) p1.inv
    have hp:=p1.trans p2
    rw [e1,oB,e2,oB]
    refine .inl ⟨_,rfl,⟨hp.inv,fun e => ?_⟩,?_,fun t h => h⟩
    ·dsimp only at e ⊢
     obtain ⟨q1,q2⟩:=p2.same e
     obtain ⟨_,q3⟩:=p1.same q1
     subst q2
     refine ⟨fun t ht c => ?_,m2 e⟩
     have:=m1 q1 t ht c
     rw [← q3] at this
     exact this
    ·dsimp only
     cases c2 with
     | false =>
      have:=hp.le
      simp; omega
     | true =>
      rcases hp.less rfl with q | q
      ·cases q
      ·simp; omega) (true,o0) ⟨hT,fun e => by cases e⟩
 obtain ⟨⟨c,o⟩,ht,h1,h2,h3,h4⟩:=hinv
 dsimp only at h1 h2 h3 h4
 subst h1
 exact ⟨o,ht,h2,h3,h4⟩
theorem mH {r : TR} (hR : GoodR r) {f h : Int} (hf : 0 ≤ f ∧ f < r.fPlaces) (hh : 0 ≤ h ∧ h ≤ 16384) : ∃ o,ck r f h = some o ∧ Grid r.fPlaces.toNat o ∧ ∀ p c : Nat,(p : Int) < r.fPlaces → c ≤ 60 → Least r f h (p : Int) (c : Int) (At o p c):=by
 have hp:=hR.places
 obtain ⟨n,hn⟩ : ∃ n : Nat,r.fPlaces = (n : Int):=⟨r.fPlaces.toNat,by omega⟩
 have htn : Int.toNat r.fPlaces = n:=by rw [hn]; rfl
 obtain ⟨o1,e1,g1,g2⟩:=init1 (f:=f) (h:=h) hn (by omega)
 have hT : TInv r f h n o1:=by
  refine ⟨g1,fun p c hp hc => ?_,fun p c hp hc => ?_,fun p c hp hc => ?_⟩
  ·rw [g2 p c hp hc]; unfold tp; split <;> omega
  ·rw [g2 p c hp hc]; unfold tp
   split
   ·rename_i e
    intro _
    exact ⟨0,by omega,e ▸ Tr.start⟩
   ·intro h0; omega
  ·rw [g2 p c (by omega) hc]; unfold tp; rw [if_pos hp]; omega
 obtain ⟨o,e2,h1,h2,h3⟩:=l3_ok hR hn (by omega) hT
 refine ⟨o,?_,by rw [htn]; exact h1.grid,fun p c hp hc => ?_⟩
 ·unfold ck
  rw [gPo (by omega),htn,e1,oB,e2,oB]
 ·have mono : ∀ (p c c' : Nat),p < n → c ≤ c' → c' ≤ 60 → 0 ≤ At o p c → 0 ≤ At o p c' ∧ At o p c' ≤ At o p c:=by
   intro p c c' hp hcc
   induction hcc with
   | refl => exact fun _ h0 => ⟨h0,Int.le_refl _⟩
   | step hm ih =>
    rename_i m
    intro h60 h0
    obtain ⟨a1,a2⟩:=ih (by omega) h0
    have:=h3 p (m + 1) hp (by omega) (by omega) a1
    exact ⟨this.1,Int.le_trans this.2 a2⟩
  have main : ∀ {q c a : Int},Tr r f h q c a → c ≤ 60 → a ≤ 16384 → 0 ≤ q ∧ q < r.fPlaces ∧ 0 ≤ At o q.toNat c.toNat ∧ At o q.toNat c.toNat ≤ a:=by
   intro q c a ht
   induction ht with
   | start =>
    intro _ _
    have:=h1.start f.toNat 0 (by omega) (by omega)
    exact ⟨hf.1,hf.2,this⟩
   | step t m ht hm hfr hle he ih =>
    rename_i q c a
    intro hc ha
    have hg:=hR.trk t hm
    have l1:=hg.long
    have l2:=hg.toll
    have l3:=hg.to
    have hlow:=ht.low hR
    obtain ⟨i1,i2,i3,i4⟩:=ih (by omega) (by omega)
    have hs:=h2 t hm c.toNat (by omega)
    rw [hfr] at hs
    have e5 : d5 t.fK (At o q.toNat c.toNat) ≤ m:=by rw [← he]; exact oH _ (by omega)
    have e6:=jS t.fK (At o q.toNat c.toNat)
    have ev : rq t (At o q.toNat c.toNat) = d5 t.fK (At o q.toNat c.toNat) + t.fLong:=by
     unfold rq arr
     rw [if_neg (by omega),if_pos (by omega)]
    rw [ev] at hs
    have:=hs (by omega)
    rw [show (c + t.fToll).toNat = c.toNat + t.fToll.toNat by omega]
    exact ⟨by omega,by omega,this.1,by omega⟩
  have hv:=h1.val p c (by omega) (by omega)
  refine ⟨hv.1,hv.2,fun h0 => h1.att p c (by omega) (by omega) h0,fun c' a ht hc' ha => ?_⟩
  obtain ⟨_,_,b1,b2⟩:=main ht (by omega) ha
  have hlow:=ht.low hR
  rw [Int.toNat_natCast] at b1 b2
  have:=mono p c'.toNat c (by omega) (by omega) hc b1
  omega
set_option linter.unusedSimpArgs false
open Classical
theorem Matchable.mono {S S' : Nat → Nat → Prop} {A : Nat → Prop} (h : Matchable S A) (hs : ∀ x k,A x → S x k → S' x k) : Matchable S' A:=by
 obtain ⟨m,hM,hd⟩:=h
 exact ⟨m,⟨fun k o e => hs o k ((hd o).1 ⟨k,e⟩) (hM.suit k o e),hM.inj⟩,hd⟩
theorem Matchable.congr {S : Nat → Nat → Prop} {A B : Nat → Prop} (h : Matchable S A) (hab : ∀ x,A x ↔ B x) : Matchable S B:=by
 obtain ⟨m,hM,hd⟩:=h
 exact ⟨m,hM,fun x => (hd x).trans (hab x)⟩
def w1 (y : TY) (first wi : Int) (x : Nat) : Int:=if (x : Int) = first ∨ (x : Int) = wi then 1001 else wo y x
def S1 (y : TY) (wi : Int) (x k : Nat) : Prop:=Su y x k ∧ (x : Int) ≠ wi
theorem S1.fit (y : TY) (wi : Int) : Fit (S1 y wi) y.fB.length y.fR.length:=⟨fun o k h => h.1.2.1,fun o k h => h.1.1⟩
def Seen (y : TY) (first wi w : Int) (i : Nat) (x : Nat) : Prop:=(x < y.fR.length ∧ (w < wo y x ∨ (wo y x = w ∧ x < i))) ∨ (x : Int) = first ∨ (x : Int) = wi
structure BestI (y : TY) (first wi w : Int) (i : Nat) (l : List Int) : Prop where
 nums : Nums y.fR.length l
 greedy : Greedy (S1 y wi) (w1 y first wi) (Seen y first wi w i) (fun x => (x : Int) ∈ l)
 no : ¬ wi ∈ l
theorem Nums.len {n : Nat} {l : List Int} (h : Nums n l) : l.length ≤ n:=by
 have h1 : ∀ (ks : List Int),isum (fun _ => 1) ks = (ks.length : Int):=fun ks => by
  induction ks with
  | nil => rfl
  | cons k ks ih => show 1 + isum (fun _ => 1) ks = _; rw [ih,List.length_cons]; omega
 have h2:=isum_sm (f:=fun _ => 1) (n:=n) l h.once h.nat
 have h3 : ∀ n,sm n (fun _ => 1) = (n : Int):=fun n => by
  induction n with
  | zero => rfl
  | succ n ih => show sm n (fun _ => 1) + 1 = _; rw [ih]; omega
 have h4:=h3 n
 have h5 : sm n (fun j => if (j : Int) ∈ l then (1 : Int) else 0) ≤ sm n (fun _ => 1):=oL fun i _ => by split <;> omega
 rw [h1] at h2
 omega
theorem Opt.congr {S S' : Nat → Nat → Prop} {w w' : Nat → Int} {nB : Nat} {V : Int} (h : Opt S w nB V) (hS : ∀ o k,S o k ↔ S' o k) (hw : ∀ o k,S o k → w o = w' o) : Opt S' w' nB V:=by
 have e : S = S':=funext fun o => funext fun k => propext (hS o k)
 subst e
 have hv : ∀ m,Mat S m → wor nB w m = wor nB w' m:=fun m hM => fo fun k _ => by
  cases e : m k with
  | none => rfl
  | some x => exact hw x k (hM.suit k x e)
 obtain ⟨m,hM,e⟩:=h.some
 exact ⟨⟨m,hM,by rw [← hv m hM]; exact e⟩,fun m hM => by rw [← hv m hM]; exact h.most m hM⟩
set_option linter.unusedSimpArgs false
open Classical
def ga (p : TPlan) (i : Nat) : Int:=p.fG.getD i 0
def pa (p : TPlan) (k : Nat) : Int:=p.fPrices.getD k 0
def sJ (y : TY) (f : Nat → Int) (i : Nat) (a : Int) : Nat → Int
 | 0 => a
 | n + 1 => if pN (oat y i) (bat y n) = true then min (sJ y f i a n) (f n) else sJ y f i a n
theorem minS_le (y : TY) (f : Nat → Int) (i : Nat) (a : Int) : ∀ n,sJ y f i a n ≤ a ∧ ∀ k,k < n → pN (oat y i) (bat y k) = true → sJ y f i a n ≤ f k
 | 0 => ⟨Int.le_refl _,fun k hk => by omega⟩
 | n + 1 => by
  obtain ⟨h1,h2⟩:=minS_le y f i a n
  unfold sJ
  split
  ·rename_i hs
   refine ⟨by omega,fun k hk hk2 => ?_⟩
   rcases Nat.lt_or_ge k n with h | h
   ·have:=h2 k h hk2; omega
   ·have : k = n:=by omega
    subst this; omega
  ·rename_i hs
   refine ⟨h1,fun k hk hk2 => ?_⟩
   rcases Nat.lt_or_ge k n with h | h
   ·exact h2 k h hk2
   ·have : k = n:=by omega
    subst this; exact absurd hk2 hs
theorem rC (y : TY) (f : Nat → Int) (i : Nat) (a : Int) : ∀ n,sJ y f i a n = a ∨ ∃ k,k < n ∧ pN (oat y i) (bat y k) = true ∧ sJ y f i a n = f k
 | 0 => .inl rfl
 | n + 1 => by
  unfold sJ
  split
  ·rename_i hs
   rcases rC y f i a n with h | ⟨k,h1,h2,h3⟩
   ·rcases Int.le_total (sJ y f i a n) (f n) with h4 | h4
    ·left; rw [Int.min_eq_left h4]; exact h
    ·right; exact ⟨n,by omega,hs,Int.min_eq_right h4⟩
   ·rcases Int.le_total (sJ y f i a n) (f n) with h4 | h4
    ·right; exact ⟨k,by omega,h2,by rw [Int.min_eq_left h4]; exact h3⟩
    ·right; exact ⟨n,by omega,hs,Int.min_eq_right h4⟩
  ·rcases rC y f i a n with h | ⟨k,h1,h2,h3⟩
   ·exact .inl h
   ·exact .inr ⟨k,by omega,h2,h3⟩
def gain (y : TY) (f : Nat → Int) (i : Nat) : Int:=max 0 (wo y i - sJ y f i 1001 y.fB.length)
def okAt (y : TY) (p : TPlan) (i : Nat) : Prop:=ga p i = 0 ∨ (0 ≤ bayI y (ga p i) ∧ pN (oat y i) (rdL y.fB (bayI y (ga p i))) = true ∧ ∀ j,j < i → ga p j ≠ ga p i)
def sumW (y : TY) (p : TPlan) (n : Nat) : Int:=sm n fun i => if ga p i = 0 then 0 else wo y i
structure Proved (y : TY) (p : TPlan) : Prop where
 len : p.fG.length = y.fR.length
 plen : p.fPrices.length = y.fB.length
 price : ∀ k,k < y.fB.length → 0 ≤ pa p k ∧ pa p k ≤ 1000
 ok : ∀ i,i < y.fR.length → okAt y p i
 sum : sumW y p y.fR.length = p.fW
 bound : sm y.fR.length (gain y (pa p)) + sm y.fB.length (pa p) = p.fW
set_option linter.unusedSimpArgs false
open Classical
theorem pv {y : TY} (hG : Good y) {k : Nat} (hk : k < y.fB.length) : bayI y (bat y k).fID = (k : Int):=by
 unfold bayI bat
 rw [eZ hk]
 exact oD hG.bayN hk
theorem bay_pos {y : TY} (hG : Good y) {k : Nat} (hk : k < y.fB.length) : 1 ≤ (bat y k).fID:=by
 have:=hG.bay y.fB[k] (List.getElem_mem hk)
 unfold bayB at this
 simp only [Bool.and_eq_true,decide_eq_true_eq] at this
 unfold bat
 rw [eZ hk]
 exact this.1.1
theorem PlanOf.proved {y : TY} (hG : Good y) {m : Nat → Option Nat} (hM : Mat (Su y) m) {q u : Nat → Int} (hp : Prices (Su y) (wo y) y.fB.length y.fR.length m q u) {p : TPlan} (h : PlanOf y m q p) : Proved y p:=by
 have hF:=Su.fit y
 have hgot : ∀ o k,m k = some o → ga p o = (bat y k).fID ∧ k < y.fB.length ∧ o < y.fR.length:=fun o k e => ⟨h.got o k e,hF.bay o k (hM.suit k o e),hF.ord o k (hM.suit k o e)⟩
 have hnz : ∀ o,ga p o = 0 ↔ ¬ Dom m o:=fun o => ⟨fun e ⟨k,ek⟩ => by
  obtain ⟨h1,h2,_⟩:=hgot o k ek
  have:=bay_pos hG h2
  omega,h.not o⟩
 have hpr : ∀ k,k < y.fB.length → pa p k = q k:=h.price
 have hq : ∀ k,k < y.fB.length → 0 ≤ q k ∧ q k ≤ 1000:=fun k hk => ⟨hp.q0 k,by
  cases e : m k with
  | none => rw [hp.free k e]; omega
  | some x => have h1:=hp.held k x e; have h2:=hG.worth (hgot x k e).2.2; omega⟩
 have hgain : ∀ i,i < y.fR.length → gain y (pa p) i = u i:=fun i hi => by
  have hw:=hG.worth hi
  obtain ⟨hm1,hm2⟩:=minS_le y (pa p) i 1001 y.fB.length
  have hm3:=rC y (pa p) i 1001 y.fB.length
  unfold gain
  by_cases hd : Dom m i
  ·obtain ⟨k,e⟩:=hd
   have hs:=hM.suit k i e
   have h1:=hp.uset k i e
   have h2:=hp.held k i e
   have h3:=hm2 k hs.2.1 hs.2.2
   rw [hpr k hs.2.1] at h3
   have h4 : q k ≤ sJ y (pa p) i 1001 y.fB.length:=by
    rcases hm3 with h4 | ⟨k',hk',hs',h4⟩
    ·have:=(hq k hs.2.1).2; omega
    ·rw [h4,hpr k' hk']; exact hp.least k i k' e ⟨hi,hk',hs'⟩
   omega
  ·rw [hp.unot i hd]
   have h4 : wo y i ≤ sJ y (pa p) i 1001 y.fB.length:=by
    rcases hm3 with h4 | ⟨k',hk',hs',h4⟩
    ·omega
    ·rw [h4,hpr k' hk']; exact hp.out i k' hi hd ⟨hi,hk',hs'⟩
   omega
 refine ⟨h.len,h.plen,fun k hk => by rw [hpr k hk]; exact hq k hk,fun i hi => ?_,?_,?_⟩
 ·by_cases hd : Dom m i
  ·obtain ⟨k,e⟩:=hd
   obtain ⟨h1,h2,_⟩:=hgot i k e
   refine .inr ⟨by rw [h1,pv hG h2]; omega,by rw [h1,pv hG h2,rdL_bat]; exact (hM.suit k i e).2.2,fun j hj ej => ?_⟩
   have hdj : Dom m j:=Classical.byContradiction fun hn => by
    have:=(hnz j).2 hn
    have:=bay_pos hG h2
    omega
   obtain ⟨k',e'⟩:=hdj
   obtain ⟨h1',h2',_⟩:=hgot j k' e'
   have h5:=pv hG h2
   rw [← h1,← ej,h1',pv hG h2'] at h5
   have : k' = k:=by omega
   subst this
   rw [e] at e'
   cases e'
   omega
  ·exact .inl ((hnz i).2 hd)
 ·rw [h.worth]
  unfold wor
  rw [bij hF hM (wo y)]
  refine fo fun i _ => ?_
  by_cases hd : Dom m i
  ·rw [if_pos hd,if_neg fun e => (hnz i).1 e hd]
  ·rw [if_neg hd,if_pos ((hnz i).2 hd)]
 ·rw [h.worth,hp.total,fo hgain,fo hpr]
  exact Int.add_comm _ _
set_option linter.unusedSimpArgs false
end Go.Proofs.YthndghnkebboaaaGreat
set_option linter.unusedSimpArgs false
namespace Go.Proofs.YthndghnkebboaaaGreat
theorem td {L : List Int} (hs : d7 L) (n : Int) (k : Nat) (hk : k ≤ L.length) (h1 : ∀ j,(hj : j < L.length) → j < k → L[j] < n) (h2 : ∀ h : k < L.length,n ≤ L[k]) : L.take k ++ [n] ++ L.drop k = mD (L ++ [n]):=by
 refine ra ?_ ?_
 ·have e : (L.take k ++ L.drop k ++ [n]).Perm (L ++ [n]):=by rw [List.take_append_drop]
  refine List.Perm.trans ?_ e
  rw [List.append_assoc,List.append_assoc]
  exact List.perm_append_comm.append_left _
 ·have hpw:=List.pairwise_iff_getElem.1 hs
  unfold d7 at hs ⊢
  rw [List.append_assoc,List.pairwise_append]
  refine ⟨hs.sublist (List.take_sublist _ _),?_,fun a ha b hb => ?_⟩
  ·rw [List.singleton_append,List.pairwise_cons]
   refine ⟨fun b hb => ?_,hs.sublist (List.drop_sublist _ _)⟩
   obtain ⟨j,hj,rfl⟩:=List.mem_iff_getElem.1 hb
   rw [List.getElem_drop]
   rw [List.length_drop] at hj
   have h3:=h2 (by omega)
   by_cases e : j = 0
   ·subst e; simpa using h3
   ·have:=hpw k (k + j) (by omega) (by omega) (by omega)
    omega
  ·obtain ⟨j,hj,rfl⟩:=List.mem_take_iff_getElem.1 ha
   have hlt : L[j]'(by omega) < n:=h1 j (by omega) (by omega)
   rw [List.singleton_append] at hb
   rcases List.mem_cons.1 hb with rfl | hb
   ·omega
   ·obtain ⟨i,hi,rfl⟩:=List.mem_iff_getElem.1 hb
    rw [List.getElem_drop]
    rw [List.length_drop] at hi
    have:=hpw j (k + i) (by omega) (by omega) (by omega)
    omega
theorem put_eq {L : List Int} (hl : L.length ≤ 1000000) (hs : d7 L) (n : Int) : jF L n = some (mD (L ++ [n])):=by
 have key : ∃ t,aM (gQ L n) 0 = some t ∧ ∃ k : Nat,t = (k : Int) ∧ k ≤ L.length ∧ (∀ j,(hj : j < L.length) → j < k → L[j] < n) ∧ ∀ h : k < L.length,n ≤ L[k]:=by
  refine bD (body:=gQ L n) (fun s => ∃ k : Nat,s = (k : Int) ∧ k ≤ L.length ∧ ∀ j,(hj : j < L.length) → j < k → L[j] < n) (fun s t => ∃ k : Nat,t = (k : Int) ∧ k ≤ L.length ∧ (∀ j,(hj : j < L.length) → j < k → L[j] < n) ∧ ∀ h : k < L.length,n ≤ L[k]) (fun s => L.length - s.toNat) (fun s hs => ?_) _ ⟨0,rfl,Nat.zero_le _,fun j hj h => by omega⟩
  obtain ⟨k,rfl,i2,i3⟩:=hs
  unfold gQ
  by_cases hk : k < L.length
  ·rw [gc (by omega),gPo (by omega),bH hk,oB,bq (by omega)]
   by_cases hc : L[k] < n
   ·rw [if_pos (decide_eq_true hc)]
    refine .inl ⟨_,rfl,⟨k + 1,rfl,hk,fun j hj h => ?_⟩,by omega,fun t ht => ht⟩
    by_cases e : j = k
    ·subst e; exact hc
    ·exact i3 j hj (by omega)
   ·rw [if_neg (by simp [hc])]
    exact .inr ⟨_,rfl,k,rfl,i2,i3,fun _ => by omega⟩
  ·rw [fX (by omega),oB,if_neg (by simp)]
   exact .inr ⟨_,rfl,k,rfl,i2,i3,fun h => absurd h hk⟩
 obtain ⟨t,t1,k,rfl,k2,k3,k4⟩:=key
 unfold jF
 rw [t1,oB,gPo (by omega),Int.toNat_natCast,gPo (by omega),gPo (by omega),gPo (by omega),gPo (by omega)]
 rw [List.nil_append,td hs n k k2 k3 k4]
def gM (n : Nat) (id : Nat → Int) (P : Nat → Bool) : List Int:=(List.range n).filterMap fun k => if P k = true then some (id k) else none
theorem k8 (n : Nat) (id : Nat → Int) (P : Nat → Bool) : gM (n + 1) id P = if P n = true then gM n id P ++ [id n] else gM n id P:=by
 unfold gM
 rw [List.range_succ,List.filterMap_append]
 by_cases h : P n = true <;> simp [h]
theorem qu (n : Nat) (id : Nat → Int) (P : Nat → Bool) : (gM n id P).length ≤ n:=by
 induction n with
 | zero => simp [gM]
 | succ n ih =>
  rw [k8]
  split
  ·rw [List.length_append]; simp; exact ih
  ·omega
theorem qt {n : Nat} {id : Nat → Int} {P : Nat → Bool} {q : Int} : q ∈ gM n id P ↔ ∃ k,k < n ∧ P k = true ∧ id k = q:=by
 unfold gM
 rw [List.mem_filterMap]
 constructor
 ·rintro ⟨k,hk,e⟩
  by_cases h : P k = true
  ·rw [if_pos h] at e; exact ⟨k,List.mem_range.1 hk,h,Option.some.inj e⟩
  ·rw [if_neg h] at e; cases e
 ·rintro ⟨k,hk,h,e⟩
  exact ⟨k,List.mem_range.2 hk,by rw [if_pos h,e]⟩
theorem pushLoop {n : Nat} (id : Nat → Int) (P : Nat → Bool) {body : (Int × List Int) → Option ((Int × List Int) ⊕ (Int × List Int))} (hb : ∀ k,k < n → ∀ L : List Int,L.length ≤ k → body ((k : Int),L) = some (.inl (((k + 1 : Nat) : Int),if P k = true then L ++ [id k] else L))) (hs : ∀ L : List Int,body ((n : Int),L) = some (.inr ((n : Int),L))) : aM body (0,[]) = some ((n : Int),gM n id P):=by
 have h:=jU (body:=body) (fun k => ((k : Int),gM k id P)) n (t:=((n : Int),gM n id P)) (fun k hk => by
  rw [hb k hk _ (qu k id P)]
  show _ = some (Sum.inl (((k + 1 : Nat) : Int),gM (k + 1) id P))
  rw [k8]) (hs _)
 exact h
theorem srtI_app (l : List Int) (x : Int) : mD (mD l ++ [x]) = mD (l ++ [x]):=ra ((jx _).trans ((jx l).append_right [x])) (jQ _)
theorem putLoop {n : Nat} (hn : n ≤ 1000000) (id : Nat → Int) (P : Nat → Bool) {body : (Int × List Int) → Option ((Int × List Int) ⊕ (Int × List Int))} (hb : ∀ k,k < n → ∀ L : List Int,body ((k : Int),L) = if P k = true then (jF L (id k)).bind fun y => some (.inl (((k + 1 : Nat) : Int),y)) else some (.inl (((k + 1 : Nat) : Int),L))) (hs : ∀ L : List Int,body ((n : Int),L) = some (.inr ((n : Int),L))) : aM body (0,[]) = some ((n : Int),mD (gM n id P)):=by
 have h:=jU (body:=body) (fun k => ((k : Int),mD (gM k id P))) n (t:=((n : Int),mD (gM n id P))) (fun k hk => by
  show body ((k : Int),mD (gM k id P)) = some (Sum.inl (((k + 1 : Nat) : Int),mD (gM (k + 1) id P)))
  rw [hb k hk,k8]
  by_cases h : P k = true
  ·rw [if_pos h,if_pos h,put_eq (by rw [sn]; have:=qu k id P; omega) (jQ _),oB,srtI_app]
  ·rw [if_neg h,if_neg h]) (hs _)
 exact h
theorem lm (a : List Int) (h : a.length < 1000000000) : bS a a = some true:=by
 unfold bS
 rw [if_neg (by simp)]
 have hrun:=jU (body:=cL a a) (fun k => (false,(k : Int))) a.length (t:=.inr (false,(a.length : Int))) (fun k hk => by
  unfold cL; dsimp only
  rw [gc (by omega),gPo (by omega),gPo (by omega),if_neg (by simp),bq (by omega)]) (by
  unfold cL; dsimp only
  rw [fX (by omega)])
 have h0 : aM (cL a a) (false,0) = _:=hrun
 rw [h0]
 rfl
theorem Sort_eq {L : List Int} (h : L.length ≤ 12) : bM L = some (mD L):=by
 unfold bM
 rw [gPo h]
set_option linter.unusedSimpArgs false
open Classical
def okP : List (TT × Int) → Int → Int → Prop
 | [],_,_ => True
 | x :: l,p,a => x.1.fFrom = p ∧ a ≤ x.2 ∧ d5 x.1.fK x.2 = x.2 ∧ okP l x.1.fTo (x.2 + x.1.fLong)
def endP : List (TT × Int) → Int → Int
 | [],p => p
 | x :: l,_ => endP l x.1.fTo
def qs : List (TT × Int) → Int → Int
 | [],a => a
 | x :: l,_ => qs l (x.2 + x.1.fLong)
def jd : List (TT × Int) → Int
 | [] => 0
 | x :: l => x.1.fToll + jd l
def kQ (l : List (TT × Int)) (p : Int) : List Int:=p :: l.map fun x => x.1.fTo
theorem sa : ∀ {l : List (TT × Int)} {p a a' : Int},okP l p a → a' ≤ a → okP l p a'
 | [],_,_,_,_,_ => trivial
 | x :: l,_,_,_,⟨h1,h2,h3,h4⟩,h => ⟨h1,by omega,h3,h4⟩
theorem qG : ∀ (l : List (TT × Int)) {a a' : Int},a' ≤ a → qs l a' ≤ qs l a
 | [],_,_,h => h
 | x :: l,_,_,_ => Int.le_refl _
theorem Tr.along {r : TR} {f h : Int} : ∀ {l : List (TT × Int)} {p c a : Int},Tr r f h p c a → (∀ x ∈ l,x.1 ∈ r.fTracks) → okP l p a → Tr r f h (endP l p) (c + jd l) (qs l a)
 | [],p,c,a,ht,_,_ => by
  show Tr r f h p (c + 0) a
  rw [Int.add_zero]; exact ht
 | x :: l,p,c,a,ht,hm,⟨h1,h2,h3,h4⟩ => by
  have:=Tr.along (l:=l) (Tr.step x.1 x.2 ht (hm x List.mem_cons_self) h1 h2 h3) (fun y hy => hm y (List.mem_cons_of_mem _ hy)) h4
  have e : c + jd (x :: l) = c + x.1.fToll + jd l:=by show c + (x.1.fToll + jd l) = _; omega
  rw [e]
  exact this
theorem tD : ∀ {l : List (TT × Int)} {p a : Int} (y : TT × Int),okP l p a → y.1.fFrom = endP l p → qs l a ≤ y.2 → d5 y.1.fK y.2 = y.2 → okP (l ++ [y]) p a ∧ endP (l ++ [y]) p = y.1.fTo ∧ qs (l ++ [y]) a = y.2 + y.1.fLong ∧ jd (l ++ [y]) = jd l + y.1.fToll
 | [],p,a,y,_,h1,h2,h3 => ⟨⟨h1,h2,h3,trivial⟩,rfl,rfl,by show y.1.fToll + 0 = 0 + y.1.fToll; omega⟩
 | x :: l,p,a,y,⟨g1,g2,g3,g4⟩,h1,h2,h3 => by
  obtain ⟨k1,k2,k3,k4⟩:=tD (l:=l) y g4 h1 h2 h3
  exact ⟨⟨g1,g2,g3,k1⟩,k2,k3,by show x.1.fToll + jd (l ++ [y]) = x.1.fToll + jd l + y.1.fToll; omega⟩
theorem Tr.list {r : TR} {f h p c a : Int} (ht : Tr r f h p c a) : ∃ l : List (TT × Int),(∀ x ∈ l,x.1 ∈ r.fTracks) ∧ okP l f h ∧ endP l f = p ∧ qs l h = a ∧ jd l = c:=by
 induction ht with
 | start => exact ⟨[],fun x hx => (by cases hx),trivial,rfl,rfl,rfl⟩
 | step t n _ hm hf hn he ih =>
  obtain ⟨l,h1,h2,h3,h4,h5⟩:=ih
  obtain ⟨k1,k2,k3,k4⟩:=tD (l:=l) (t,n) h2 (hf.trans h3.symm) (by rw [h4]; exact hn) he
  refine ⟨l ++ [(t,n)],fun x hx => ?_,k1,k2,k3,by rw [k4,h5]⟩
  rcases List.mem_append.1 hx with hx | hx
  ·exact h1 x hx
  ·rw [List.mem_singleton.1 hx]; exact hm
theorem cutP {r : TR} (hR : GoodR r) {p : Int} : ∀ {l : List (TT × Int)} {q a : Int},(∀ x ∈ l,x.1 ∈ r.fTracks) → okP l q a → p ∈ kQ l q → ∃ C,okP C p a ∧ endP C p = endP l q ∧ qs C a ≤ qs l a ∧ jd C ≤ jd l ∧ (∀ x ∈ C,x ∈ l) ∧ (kQ C p).Sublist (kQ l q)
 | [],q,a,_,_,hp => by
  have e : p = q:=by simpa [kQ] using hp
  exact ⟨[],trivial,e,Int.le_refl _,Int.le_refl _,fun x hx => hx,by rw [e]; exact List.Sublist.refl _⟩
 | x :: l,q,a,hm,⟨h1,h2,h3,h4⟩,hp => by
  by_cases e : p = q
  ·subst e
   exact ⟨x :: l,⟨h1,h2,h3,h4⟩,rfl,Int.le_refl _,Int.le_refl _,fun x hx => hx,List.Sublist.refl _⟩
  ·have hx:=hm x List.mem_cons_self
   have hlg:=(hR.trk _ hx).long
   have htl:=(hR.trk _ hx).toll
   have hp' : p ∈ kQ l x.1.fTo:=by
    rcases List.mem_cons.1 hp with h | h
    ·exact absurd h e
    ·exact h
   obtain ⟨C,k1,k2,k3,k4,k5,k6⟩:=cutP hR (l:=l) (fun y hy => hm y (List.mem_cons_of_mem _ hy)) h4 hp'
   refine ⟨C,sa k1 (by omega),k2,?_,?_,fun y hy => List.mem_cons_of_mem _ (k5 y hy),k6.trans (List.sublist_cons_self _ _)⟩
   ·have:=qG C (a:=x.2 + x.1.fLong) (a':=a) (by omega)
    show qs C a ≤ qs l (x.2 + x.1.fLong)
    omega
   ·show jd C ≤ x.1.fToll + jd l
    omega
theorem simpleP {r : TR} (hR : GoodR r) : ∀ {l : List (TT × Int)} {p a : Int},(∀ x ∈ l,x.1 ∈ r.fTracks) → okP l p a → ∃ C,okP C p a ∧ endP C p = endP l p ∧ qs C a ≤ qs l a ∧ jd C ≤ jd l ∧ (∀ x ∈ C,x ∈ l) ∧ (kQ C p).Nodup
 | [],p,a,_,_ => ⟨[],trivial,rfl,Int.le_refl _,Int.le_refl _,fun x hx => hx,by simp [kQ]⟩
 | x :: l,p,a,hm,⟨h1,h2,h3,h4⟩ => by
  have hx:=hm x List.mem_cons_self
  have hlg:=(hR.trk _ hx).long
  have htl:=(hR.trk _ hx).toll
  have hml : ∀ y ∈ l,y.1 ∈ r.fTracks:=fun y hy => hm y (List.mem_cons_of_mem _ hy)
  obtain ⟨C,k1,k2,k3,k4,k5,k6⟩:=simpleP hR (l:=l) hml h4
  by_cases hp : p ∈ kQ C x.1.fTo
  ·obtain ⟨C2,g1,g2,g3,g4,g5,g6⟩:=cutP hR (l:=C) (fun y hy => hml y (k5 y hy)) k1 hp
   refine ⟨C2,sa g1 (by omega),g2.trans k2,?_,?_,fun y hy => List.mem_cons_of_mem _ (k5 y (g5 y hy)),k6.sublist g6⟩
   ·have:=qG C2 (a:=x.2 + x.1.fLong) (a':=a) (by omega)
    show qs C2 a ≤ qs l (x.2 + x.1.fLong)
    omega
   ·show jd C2 ≤ x.1.fToll + jd l
    omega
  ·refine ⟨x :: C,⟨h1,h2,h3,k1⟩,k2,k3,?_,fun y hy => ?_,List.nodup_cons.2 ⟨hp,k6⟩⟩
   ·show x.1.fToll + jd C ≤ x.1.fToll + jd l
    omega
   ·rcases List.mem_cons.1 hy with rfl | hy
    ·exact List.mem_cons_self
    ·exact List.mem_cons_of_mem _ (k5 y hy)
theorem tc {r : TR} (hR : GoodR r) {p : Int} (hp : 0 ≤ p ∧ p < r.fPlaces) {C : List (TT × Int)} (hm : ∀ x ∈ C,x.1 ∈ r.fTracks) (hn : (kQ C p).Nodup) : C.length + 1 ≤ r.fPlaces.toNat:=by
 have hN : Nums r.fPlaces.toNat (kQ C p):=⟨fun x hx => by
  have : 0 ≤ x ∧ x < r.fPlaces:=by
   rcases List.mem_cons.1 hx with rfl | hx
   ·exact hp
   ·obtain ⟨y,hy,rfl⟩:=List.mem_map.1 hx
    have:=(hR.trk _ (hm y hy)).to
    omega
  exact ⟨x.toNat,by omega,by omega⟩,hn⟩
 have:=hN.len
 unfold kQ at this
 rw [List.length_cons,List.length_map] at this
 exact this
def qW (r : TR) (k : Nat) : TR:=⟨r.fPlaces,r.fTracks.take k ++ r.fTracks.drop (k + 1)⟩
theorem ox (r : TR) (k : Nat) : (qW r k).fTracks.Sublist r.fTracks:=by
 show (r.fTracks.take k ++ r.fTracks.drop (k + 1)).Sublist r.fTracks
 rw [← List.eraseIdx_eq_take_drop_succ]
 exact List.eraseIdx_sublist _ _
theorem pc {r : TR} (hR : GoodR r) (k : Nat) : GoodR (qW r k):=by
 have hs:=ox r k
 exact ⟨hR.places,Nat.le_trans hs.length_le hR.len,fun t ht => hR.trk t (hs.subset ht),hR.once.sublist (hs.map _)⟩
theorem lessT_mem {r : TR} (hR : GoodR r) {k : Nat} (hk : k < r.fTracks.length) {t : TT} (ht : t ∈ r.fTracks) (hne : t.fID ≠ (r.fTracks[k]).fID) : t ∈ (qW r k).fTracks:=by
 show t ∈ r.fTracks.take k ++ r.fTracks.drop (k + 1)
 rw [← List.eraseIdx_eq_take_drop_succ,List.mem_eraseIdx_iff_getElem]
 obtain ⟨j,hj,rfl⟩:=List.mem_iff_getElem.1 ht
 exact ⟨j,hj,fun e => hne (by subst e; rfl),rfl⟩
theorem Tr.sub {r r' : TR} (hs : ∀ t ∈ r'.fTracks,t ∈ r.fTracks) {f h p c a : Int} (ht : Tr r' f h p c a) : Tr r f h p c a:=by
 induction ht with
 | start => exact .start
 | step t n _ hm hf hn he ih => exact .step t n ih (hs t hm) hf hn he
theorem rt {n : Nat} {id : Nat → Int} {P : Nat → Bool} (hi : ∀ i j,i < n → j < n → id i = id j → i = j) : (gM n id P).Nodup:=by
 have key : ∀ m,m ≤ n → (gM m id P).Nodup:=by
  intro m
  induction m with
  | zero => intro _; simp [gM]
  | succ m ih =>
   intro hm
   rw [k8]
   split
   ·rw [List.nodup_append]
    refine ⟨ih (by omega),by simp,fun a ha b hb e => ?_⟩
    obtain ⟨k,hk,_,e2⟩:=qt.1 ha
    rw [List.mem_singleton.1 hb] at e
    have:=hi k m (by omega) (by omega) (e2.trans e)
    omega
   ·exact ih (by omega)
 exact key n (Nat.le_refl _)
def tid (r : TR) (k : Nat) : Int:=(r.fTracks.getD k default).fID
def mB (r : TR) (f to h p a : Int) (k : Nat) : Prop:=¬ Least (qW r k) f h to p a
theorem qF {r : TR} {k : Nat} (hk : k < r.fTracks.length) : tid r k = (r.fTracks[k]).fID:=by unfold tid; rw [eZ hk]
theorem tid_inj {r : TR} (hR : GoodR r) {i k : Nat} (hi : i < r.fTracks.length) (hk : k < r.fTracks.length) (e : tid r i = tid r k) : i = k:=by
 rw [qF hi,qF hk] at e
 have h1:=oD hR.once hi
 have h2:=oD hR.once hk
 rw [e,h2] at h1
 omega
theorem rT {r : TR} (hR : GoodR r) {f to h p a : Int} (hf : 0 ≤ f ∧ f < r.fPlaces) (ha : 0 ≤ a) (hL : Least r f h to p a) : (gM r.fTracks.length (tid r) fun k => decide (mB r f to h p a k)).length + 1 ≤ r.fPlaces.toNat:=by
 obtain ⟨c,hc,ht⟩:=hL.some ha
 obtain ⟨l,h1,h2,h3,h4,h5⟩:=ht.list
 obtain ⟨C,k1,k2,k3,k4,k5,k6⟩:=simpleP hR h1 h2
 have hmC : ∀ x ∈ C,x.1 ∈ r.fTracks:=fun x hx => h1 x (k5 x hx)
 have hlen:=tc hR hf hmC k6
 have hsub:=qH (l1:=gM r.fTracks.length (tid r) fun k => decide (mB r f to h p a k)) (l2:=C.map fun x => x.1.fID) (rt fun i j hi hj e => tid_inj hR hi hj e) fun x hx => by
  obtain ⟨k,hk,hP,rfl⟩:=qt.1 hx
  rw [decide_eq_true_eq] at hP
  by_cases hmem : tid r k ∈ C.map fun x => x.1.fID
  ·exact hmem
  ·refine absurd ?_ hP
   have hmC' : ∀ x ∈ C,x.1 ∈ (qW r k).fTracks:=fun x hx => lessT_mem hR hk (hmC x hx) fun e => hmem (List.mem_map.2 ⟨x,hx,by rw [qF hk]; exact e⟩)
   have ht':=Tr.along (r:=qW r k) (f:=f) (h:=h) .start hmC' k1
   have hhi:=hL.hi
   have hle : qs C h ≤ a:=by omega
   have hup:=ht'.sub fun t ht => (ox r k).subset ht
   rw [k2,h3] at ht' hup
   have:=(hL.all _ _ hup (by omega) (by omega)).2
   have e : qs C h = a:=by omega
   exact ⟨hL.lo,hL.hi,fun _ => ⟨0 + jd C,by omega,by rw [← e]; exact ht'⟩,fun c' a' ht2 hc' ha' => hL.all c' a' (ht2.sub fun t ht => (ox r k).subset ht) hc' ha'⟩
 rw [List.length_map] at hsub
 omega
theorem Needed_ok {r : TR} (hr : ∀ t ∈ r.fTracks,t.fK.length ≤ 1000000) {f to h p : Int} (hA : AskedOk r f to h p) (h8 : r.fPlaces ≤ 13) {j : TJ} (hj : fg r f to h p = some (j,0)) (hB : BestJ r f to h p j) : cW r f to h p = some (mD (gM r.fTracks.length (tid r) fun k => decide (mB r f to h p j.fA k)),0):=by
 have hR:=hA.good
 have hrl:=hR.len
 have hpl:=pushLoop (n:=r.fTracks.length) (tid r) (fun k => decide (mB r f to h p j.fA k)) (body:=fj r f to h p (j,0)) (fun k hk L hL => by
  have hless:=pc hR k
  obtain ⟨j2,b,e,hc⟩:=rb hless (f:=f) (to:=to) (h:=h) (purse:=p) hA.fr hA.to hA.hour hA.purse
  unfold fj; dsimp only
  unfold bA cf
  rw [gc (by omega),gPo (by omega),gPo (by omega),oB,List.nil_append,bq (by omega),gPo (by omega),if_neg (by simp; omega),gPo (by omega),gPo (by omega),gPo (by omega),oB,Int.toNat_natCast,Int.toNat_natCast]
  rw [show TR.mk r.fPlaces (r.fTracks.take k ++ r.fTracks.drop (k + 1)) = qW r k from rfl,e,oB,gPo (by omega),bH hk,← qF hk]
  dsimp only
  have hcond : ((!b) || (j2.fA != j.fA)) = decide (mB r f to h p j.fA k):=by
   rw [Bool.eq_iff_iff,decide_eq_true_eq]
   unfold mB
   rcases hc with ⟨rfl,rfl,hL2⟩ | ⟨rfl,hB2⟩
   ·refine ⟨fun _ hh => ?_,fun _ => by simp⟩
    have:=hh.unique hL2
    have:=hB.pos
    omega
   ·rw [Bool.or_eq_true,bne_iff_ne]
    constructor
    ·rintro (h1 | h1)
     ·cases h1
     ·exact fun hh => h1 (hB2.least.unique hh)
    ·intro hh
     refine .inr fun e2 => hh ?_
     rw [← e2]
     exact hB2.least
  rw [hcond]
  by_cases hN : mB r f to h p j.fA k
  ·rw [if_pos (decide_eq_true hN),if_pos (decide_eq_true hN)]
  ·rw [if_neg (by simp [hN]),if_neg (by simp [hN])]) (fun L => by
  unfold fj; dsimp only
  rw [fX (by omega)])
 have hfew:=rT hR hA.fr hB.pos hB.least
 have hpr:=hR.places
 unfold cW
 rw [hj,oB,if_neg (by simp),hpl,oB,Sort_eq (L:=gM r.fTracks.length (tid r) fun k => decide (mB r f to h p j.fA k)) (by omega)]
 rfl
theorem sD {r : TR} (hl : r.fTracks.length ≤ 9223372036854775807) (h : dO r = some true) : r.fPlaces ≤ 8 ∨ 16 < r.fPlaces:=by
 have hinv:=bD (body:=de r) (fun s => ∃ k : Nat,s = (false,(k : Int)) ∧ k ≤ r.fTracks.length) (fun _ out => match out with | .inl u => u.1 = false | .inr _ => True) (fun s => r.fTracks.length - s.2.toNat) (by
   rintro _ ⟨k,rfl,hk⟩
   unfold de; dsimp only
   rcases Nat.lt_or_ge k r.fTracks.length with hlt | hge
   ·rw [gc (by omega),gPo (by omega),bH hlt,bq (by omega)]
    by_cases hc : 12 < (((r.fTracks[k]).fK.length : Nat) : Int)
    ·rw [if_pos (decide_eq_true hc)]
     exact .inr ⟨_,rfl,rfl⟩
    ·rw [if_neg (by simpa using hc)]
     exact .inl ⟨_,rfl,⟨k + 1,rfl,hlt⟩,by dsimp only; omega,fun t h => h⟩
   ·rw [fX (by omega)]
    exact .inr ⟨_,rfl,trivial⟩) (false,0) ⟨0,rfl,Nat.zero_le _⟩
 obtain ⟨out,hr,hp⟩:=hinv
 unfold dO at h
 rw [hr,oB] at h
 rcases out with u | u
 ·dsimp only at hp h
  rw [hp] at h; cases h
 ·have h2:=Option.some.inj h
  rw [Bool.and_eq_true,Bool.or_eq_true,decide_eq_true_eq,decide_eq_true_eq] at h2
  exact h2.1
set_option linter.unusedSimpArgs false
open Classical
theorem kz {r : TR} (hR : GoodR r) {f to h p : Int} (hf : 0 ≤ f ∧ f < r.fPlaces) (ht : 0 ≤ to ∧ to < r.fPlaces) (hh : 0 ≤ h ∧ h ≤ 16384) (hp : 0 ≤ p ∧ p ≤ 60) : ∃ o,ck r f h = some o ∧ (0 ≤ to ∧ to < ((o.length : Nat) : Int)) ∧ (rdL o to).length = 61 ∧ Least r f h to p (rdL (rdL o to) p):=by
 obtain ⟨o,e,hG,hL⟩:=mH hR hf hh
 obtain ⟨a,rfl⟩ : ∃ a : Nat,to = (a : Int):=⟨to.toNat,by omega⟩
 obtain ⟨b,rfl⟩ : ∃ b : Nat,p = (b : Int):=⟨p.toNat,by omega⟩
 have hl:=hG.1
 exact ⟨o,e,by omega,by rw [nT]; exact hG.row (by omega),by rw [sV]; exact hL a b ht.2 (by omega)⟩
theorem tk {r : TR} {f to purse b : Int} (hA : AskedOk r f to b purse) : ∃ n : Int,-1 ≤ n ∧ n ≤ b ∧ eK r f to b purse = some (if n < 0 then (0,5) else (n,0)) ∧ (∀ x,0 ≤ x → x ≤ n → inT r f to purse b x) ∧ ∀ x,n < x → x ≤ b → ¬ inT r f to purse b x:=by
 have hb:=hA.hour
 have hp:=hA.purse
 have hinv:=bD (body:=ge r f to b purse)
  (fun s => -1 ≤ s.1 ∧ s.1 ≤ s.2 ∧ s.2 ≤ b ∧ (∀ x,0 ≤ x → x ≤ s.1 → inT r f to purse b x) ∧ ∀ x,s.2 < x → x ≤ b → ¬ inT r f to purse b x)
  (fun _ u => -1 ≤ u.1 ∧ u.1 ≤ b ∧ (∀ x,0 ≤ x → x ≤ u.1 → inT r f to purse b x) ∧ ∀ x,u.1 < x → x ≤ b → ¬ inT r f to purse b x)
  (fun s => (s.2 - s.1).toNat) (fun s hs => by
   obtain ⟨lo,hi⟩:=s
   obtain ⟨h1,h2,h3,h4,h5⟩:=hs
   dsimp only at h1 h2 h3 h4 h5 ⊢
   unfold ge; dsimp only
   by_cases hc : lo < hi
   ·have em : w64 (lo + w64 (Int.tdiv (w64 (w64 (hi - lo) + 1)) 2)) = lo + (hi - lo + 1) / 2:=by
     rw [bL (x:=hi - lo) (by omega) (by omega),bL (x:=hi - lo + 1) (by omega) (by omega),Int.tdiv_eq_ediv_of_nonneg (by omega),bL (x:=(hi - lo + 1) / 2) (by omega) (by omega),bL (by omega) (by omega)]
    generalize hmid : lo + (hi - lo + 1) / 2 = mid at em
    have hm1 : lo < mid:=by omega
    have hm2 : mid ≤ hi:=by omega
    obtain ⟨o,e,k1,k2,k3⟩:=kz hA.good hA.fr hA.to (h:=mid) (by omega) hp
    rw [if_pos (decide_eq_true hc),em,e,oB,gPo k1,gPo (by omega)]
    have hiff : (0 ≤ rdL (rdL o to) purse ∧ rdL (rdL o to) purse ≤ b) ↔ inT r f to purse b mid:=by
     constructor
     ·rintro ⟨q1,q2⟩
      obtain ⟨c,t1,t2⟩:=k3.some q1
      exact ⟨c,_,t2,t1,q2⟩
     ·rintro ⟨c,a,t1,t2,t3⟩
      have:=k3.all c a t1 t2 (by omega)
      omega
    by_cases hin : inT r f to purse b mid
    ·rw [if_pos (by rw [Bool.and_eq_true,decide_eq_true_eq,decide_eq_true_eq]; exact hiff.2 hin)]
     exact .inl ⟨_,rfl,⟨by dsimp only; omega,hm2,h3,fun x hx0 hx => hin.earlier hx,h5⟩,by dsimp only; omega,fun t h => h⟩
    ·rw [if_neg (by rw [Bool.and_eq_true,decide_eq_true_eq,decide_eq_true_eq]; exact fun h => hin (hiff.1 h)),bL (by omega) (by omega)]
     exact .inl ⟨_,rfl,⟨h1,by dsimp only; omega,by dsimp only; omega,h4,fun x hx hxb hh => hin (hh.earlier (by dsimp only at hx; omega))⟩,by dsimp only; omega,fun t h => h⟩
   ·have : lo = hi:=by omega
    subst this
    rw [if_neg (by simp)]
    exact .inr ⟨_,rfl,h1,h3,h4,h5⟩) (-1,b) ⟨Int.le_refl _,by dsimp only; omega,Int.le_refl _,fun x h0 hx => by dsimp only at hx; omega,fun x hx hb => by dsimp only at hx; omega⟩
 obtain ⟨u,hu,g1,g2,g3,g4⟩:=hinv
 refine ⟨u.1,g1,g2,?_,g3,g4⟩
 unfold eK
 rw [jv,jr.2 hA,oB,if_neg (by simp),hu,oB]
 by_cases h0 : u.1 < 0
 ·rw [if_pos (decide_eq_true h0),if_pos h0]
 ·rw [if_neg (by simpa using h0),if_neg h0]
theorem o7 {r : TR} {f to h p : Int} (hA : AskedOk r f to h p) : (Least r f h to p (-1) ∧ cG r f to h p = some ⟨[],5⟩) ∨ ∃ a,0 ≤ a ∧ Least r f h to p a ∧ cG r f to h p = some ⟨mD (gM r.fTracks.length (tid r) fun k => decide (mB r f to h p a k)),0⟩:=by
 have hR:=hA.good
 have hrl:=hR.len
 have hp:=hA.purse
 obtain ⟨o,e,k1,k2,k3⟩:=kz hR hA.fr hA.to hA.hour hp
 unfold cG
 rw [jv,jr.2 hA,oB,if_neg (by simp),e,oB,gPo k1,gPo (by omega)]
 by_cases h0 : rdL (rdL o to) p < 0
 ·rw [if_pos (decide_eq_true h0)]
  have:=k3.lo
  rw [show rdL (rdL o to) p = -1 by omega] at k3
  exact .inl ⟨k3,rfl⟩
 ·rw [if_neg (by simpa using h0)]
  refine .inr ⟨rdL (rdL o to) p,by omega,k3,?_⟩
  have hpl:=putLoop (n:=r.fTracks.length) (by omega) (tid r) (fun k => decide (mB r f to h p (rdL (rdL o to) p) k)) (body:=eE r f to h p o) (fun k hk L => by
   have hless:=pc hR k
   obtain ⟨o2,e2,q1,q2,q3⟩:=kz hless (f:=f) (to:=to) (h:=h) (p:=p) hA.fr hA.to hA.hour hp
   unfold eE; dsimp only
   rw [gc (by omega),gPo (by omega),gPo (by omega),bq (by omega),gPo (by omega),gPo (by omega),List.nil_append,Int.toNat_natCast,Int.toNat_natCast]
   rw [show TR.mk r.fPlaces (r.fTracks.take k ++ r.fTracks.drop (k + 1)) = qW r k from rfl,e2,oB,gPo q1,gPo (by omega),gPo (by omega),bH hk,← qF hk]
   have hcond : (rdL (rdL o2 to) p != rdL (rdL o to) p) = decide (mB r f to h p (rdL (rdL o to) p) k):=by
    rw [Bool.eq_iff_iff,decide_eq_true_eq,bne_iff_ne]
    unfold mB
    exact ⟨fun h1 h2 => h1 (q3.unique h2),fun h1 h2 => h1 (by rw [← h2]; exact q3)⟩
   rw [hcond]) (fun L => by
   unfold eE; dsimp only
   rw [fX (by omega)])
  rw [hpl,oB]
set_option linter.unusedSimpArgs false
open Classical
def r8 (l : List Int) (c : Nat) : Bool:=decide (0 ≤ rdL l (c : Int)) && (c == 0 || (rdL l ((c - 1 : Nat) : Int) != rdL l (c : Int)))
def ml (l : List Int) (k : Nat) : List TPoint:=((List.range k).filter (r8 l)).map fun c : Nat => ⟨(c : Int),rdL l (c : Int)⟩
theorem jq (l : List Int) (k : Nat) : ml l (k + 1) = ml l k ++ if r8 l k = true then [⟨(k : Int),rdL l (k : Int)⟩] else []:=by
 unfold ml
 rw [List.range_succ,List.filter_append,List.map_append]
 by_cases h : r8 l k = true
 ·rw [if_pos h,List.filter_cons_of_pos h]; rfl
 ·rw [if_neg h,List.filter_cons_of_neg h]; rfl
theorem sr (l : List Int) (k : Nat) : (ml l k).length ≤ k:=by
 unfold ml
 rw [List.length_map]
 exact Nat.le_trans (List.length_filter_le _ _) (by rw [List.length_range]; exact Nat.le_refl _)
theorem points_eq {l : List Int} (hl : l.length ≤ 1000000) : fU l = some (ml l l.length):=by
 have hrun:=jU (body:=dD l) (fun k => ((k : Int),ml l k)) l.length (t:=((l.length : Int),ml l l.length)) (fun k hk => by
  have hle:=sr l k
  unfold dD; dsimp only
  have key : (if ((k : Int) == 0) = true then (some (true)) else (aj ((0 : Int) ≤ max 0 (w64 ((k : Int) - 1)) ∧ max 0 (w64 ((k : Int) - 1)) < ((l.length : Nat) : Int)) (aj ((0 : Int) ≤ (k : Int) ∧ (k : Int) < ((l.length : Nat) : Int)) (some (((rdL l (max 0 (w64 ((k : Int) - 1)))) != (rdL l (k : Int)))))))) = some (k == 0 || (rdL l ((k - 1 : Nat) : Int) != rdL l (k : Int))):=by
   by_cases h0 : k = 0
   ·subst h0; rfl
   ·have e1 : max 0 (w64 ((k : Int) - 1)) = ((k - 1 : Nat) : Int):=by rw [bL (by omega) (by omega)]; omega
    rw [if_neg (by simp; omega),e1,gPo (by omega),gPo (by omega)]
    have : (k == 0) = false:=by simpa using h0
    rw [this,Bool.false_or]
  rw [gc (by omega),gPo (by omega),key,oB,andB,oB,jq,bq (by omega),gPo (by omega),gPo (show (ml l k).length + 1 ≤ 1000000000 by omega)]
  show (if r8 l k = true then _ else _) = _
  by_cases h : r8 l k = true
  ·rw [if_pos h,if_pos h]
  ·rw [if_neg h,if_neg h,List.append_nil]) (by
  unfold dD; dsimp only
  rw [fX (by omega)])
 have h0 : aM (dD l) (0,[]) = _:=hrun
 unfold fU
 rw [h0,oB]
theorem pe {l l' : List Int} : ∀ {k : Nat},(∀ c : Nat,c < k → rdL l (c : Int) = rdL l' (c : Int)) → ml l k = ml l' k
 | 0,_ => rfl
 | k + 1,h => by
  have e : r8 l k = r8 l' k:=by
   unfold r8
   rw [h k (by omega)]
   by_cases h0 : k = 0
   ·subst h0; rfl
   ·rw [h (k - 1) (by omega)]
  rw [jq,jq,pe (l:=l) (l':=l') (k:=k) fun c hc => h c (by omega),e,h k (by omega)]
theorem qU {l : List Int} : ∀ {k : Nat},(∀ c : Nat,c < k → r8 l c = false) → ml l k = []
 | 0,_ => rfl
 | k + 1,h => by rw [jq,qU fun c hc => h c (by omega),h k (by omega)]; rfl
theorem qz {l : List Int} {c0 : Nat} : ∀ {k : Nat},c0 ≤ k → (∀ c : Nat,c0 ≤ c → c < k → r8 l c = false) → ml l k = ml l c0
 | 0,h1,_ => by rw [show c0 = 0 by omega]
 | k + 1,h1,h => by
  by_cases e : c0 = k + 1
  ·rw [e]
  ·rw [jq,qz (k:=k) (by omega) fun c hc hc2 => h c hc (by omega),h k (by omega) (by omega)]
   exact List.append_nil _
theorem rBest_ok {r : TR} {f to h p : Int} (hA : AskedOk r f to h p) : (Least r f h to p (-1) → eX r f to h p = some ⟨⟨0,0⟩,5⟩) ∧ ∀ j,BestJ r f to h p j → eX r f to h p = some ⟨⟨j.fToll,j.fA⟩,0⟩:=by
 have hR:=hA.good
 have hp:=hA.purse
 have ht:=hA.to
 obtain ⟨o,e,hG,hL⟩:=mH hR hA.fr hA.hour
 obtain ⟨a,ha⟩ : ∃ a : Nat,to = (a : Int):=⟨to.toNat,by omega⟩
 obtain ⟨b,hb⟩ : ∃ b : Nat,p = (b : Int):=⟨p.toNat,by omega⟩
 have hl:=hG.1
 have hrow : (rdL o to).length = 61:=by rw [ha,nT]; exact hG.row (by omega)
 have hLc : ∀ c : Nat,c ≤ 60 → Least r f h to (c : Int) (rdL (rdL o to) (c : Int)):=fun c hc => by
  have:=hL a c (by omega) hc
  rw [← sV,← ha] at this
  exact this
 have hpts : fU ((rdL o to).take (b + 1)) = some (ml (rdL o to) (b + 1)):=by
  rw [points_eq (by rw [List.length_take]; omega),List.length_take,show min (b + 1) (rdL o to).length = b + 1 by omega]
  refine congrArg some (pe fun c hc => ?_)
  rw [bH (by rw [List.length_take]; omega),bH (by omega),List.getElem_take]
 have hrun : eX r f to h p = (if (((ml (rdL o to) (b + 1)).length : Nat) : Int) == 0 then some ⟨⟨0,0⟩,5⟩ else aj ((0 : Int) ≤ w64 ((((ml (rdL o to) (b + 1)).length : Nat) : Int) - 1) ∧ w64 ((((ml (rdL o to) (b + 1)).length : Nat) : Int) - 1) < (((ml (rdL o to) (b + 1)).length : Nat) : Int)) (some (TPointed.mk (TPoint.mk ((rdL (ml (rdL o to) (b + 1)) (w64 ((((ml (rdL o to) (b + 1)).length : Nat) : Int) - 1))).fToll) ((rdL (ml (rdL o to) (b + 1)) (w64 ((((ml (rdL o to) (b + 1)).length : Nat) : Int) - 1))).fA)) 0))):=by
  unfold eX
  rw [jv,jr.2 hA,oB,if_neg (by simp),e,oB,gPo (by omega),hb,bq (by omega),gPo (by omega),Int.toNat_natCast,hpts,oB]
 refine ⟨fun hN => ?_,fun j hB => ?_⟩
 ·have : ml (rdL o to) (b + 1) = []:=qU fun c hc => by
   have h1:=hLc c (by omega)
   have h2 : rdL (rdL o to) (c : Int) < 0:=by
    rcases Int.lt_or_le (rdL (rdL o to) (c : Int)) 0 with q | q
    ·exact q
    ·obtain ⟨c',t1,t2⟩:=h1.some q
     have:=(hN.all c' _ t2 (by omega) h1.hi).1
     omega
   unfold r8
   rw [decide_eq_false (by omega),Bool.false_and]
  rw [hrun,this]
  rfl
 ·have hpos:=hB.pos
  have htl:=hB.toll
  obtain ⟨c0,hc0⟩ : ∃ c0 : Nat,j.fToll = (c0 : Int):=⟨j.fToll.toNat,by omega⟩
  have e1 : rdL (rdL o to) (c0 : Int) = j.fA:=(hLc c0 (by omega)).unique (by rw [← hc0]; exact hB.least2)
  have emid : ∀ c : Nat,c0 ≤ c → c ≤ b → rdL (rdL o to) (c : Int) = j.fA:=fun c h1 h2 => by
   have hc:=hLc c (by omega)
   obtain ⟨c',t1,t2⟩:=hB.least2.some hpos
   have q1:=hc.all c' _ t2 (by omega) hB.least2.hi
   obtain ⟨c2,t3,t4⟩:=hc.some q1.1
   have q2:=(hB.least.all c2 _ t4 (by omega) hc.hi).2
   omega
  have e2 : r8 (rdL o to) c0 = true:=by
   unfold r8
   rw [e1,decide_eq_true hpos,Bool.true_and,Bool.or_eq_true]
   by_cases h0 : c0 = 0
   ·exact .inl (by simpa using h0)
   ·refine .inr ?_
    rw [bne_iff_ne]
    exact hB.first ((c0 - 1 : Nat) : Int) _ (by omega) (by omega) (hLc (c0 - 1) (by omega))
  have e3 : ml (rdL o to) (b + 1) = ml (rdL o to) c0 ++ [⟨(c0 : Int),j.fA⟩]:=by
   rw [qz (c0:=c0 + 1) (k:=b + 1) (by omega) fun c h1 h2 => ?_,jq,if_pos e2,e1]
   unfold r8
   rw [emid c (by omega) (by omega),emid (c - 1) (by omega) (by omega)]
   have : (c == 0) = false:=by simp; omega
   rw [this]
   simp
  have hle:=sr (rdL o to) c0
  rw [hrun,e3,List.length_append]
  rw [if_neg (by simp; omega)]
  have ew : w64 (((((ml (rdL o to) c0).length + [(⟨(c0 : Int),j.fA⟩ : TPoint)].length : Nat) : Int)) - 1) = (((ml (rdL o to) c0).length : Nat) : Int):=by
   rw [List.length_cons,List.length_nil,bL (by omega) (by omega)]; omega
  rw [ew,gPo (by simp only [List.length_cons,List.length_nil]; omega),bH (by simp)]
  simp [hc0]
set_option linter.unusedSimpArgs false
theorem jT : dT = some true:=by kernel_rfl
set_option linter.unusedSimpArgs false
open Classical
theorem CartBest_true (r : TR) (f to h p : Int) (hr : TRoads_rg r) (h1 : bw f) (h2 : bw to) (h3 : bw h) (h4 : bw p) : ed r f to h p = some true:=by
 obtain ⟨b,hb,hfew⟩:=few_eq (r:=r) hr.2.1
 unfold ed
 rw [hb,oB]
 cases b with
 | false => rw [if_pos (by rfl),jT]; rfl
 | true =>
  have hcl : ∀ t ∈ r.fTracks,t.fK.length ≤ 1000000:=fun t ht => by have:=hfew rfl t ht; omega
  have hpl:=sD hr.2.1 hb
  rw [if_neg (by simp)]
  rcases sS hcl f to h p with ⟨hv,e⟩ | ⟨hA,hc⟩
  ·have e2 : eX r f to h p = some ⟨⟨0,0⟩,g8 r f to h p⟩:=by
    unfold eX
    rw [jv,oB,if_pos (by simpa using hv)]
   have e3 : ei r f to h p = some (0,g8 r f to h p):=by
    unfold ei
    rw [qf hcl,oB,if_pos (by simpa using hv)]
   have e4 : eK r f to h p = some (0,g8 r f to h p):=by
    unfold eK
    rw [jv,oB,if_pos (by simpa using hv)]
   have e5 : cW r f to h p = some ([],g8 r f to h p):=by
    unfold cW
    rw [e,oB,if_pos (by simpa using hv)]
   have e6 : cG r f to h p = some ⟨[],g8 r f to h p⟩:=by
    unfold cG
    rw [jv,oB,if_pos (by simpa using hv)]
   rw [e,e2,oB,oB]
   have c1 : ((g8 r f to h p != g8 r f to h p || ((0 : Int) != 0)) || ((0 : Int) != 0)) = false:=by simp
   dsimp only
   rw [c1,if_neg (by simp),if_neg (by simpa using hv),oB,oB,if_neg (by simp),e3,e4,e5,e6,oB,oB,oB,oB,jT,oB]
   dsimp only
   rw [if_pos (by simp),lm _ (by simp)]
   simp
  ·obtain ⟨n1,a1,a2,a3,a4,a5⟩:=Latest_ok hcl hA
   obtain ⟨n2,b1,b2,b3,b4,b5⟩:=tk hA
   have hn : n1 = n2:=by
    rcases Int.lt_trichotomy n1 n2 with q | q | q
    ·exact absurd (b4 n2 (by omega) (Int.le_refl _)) (a5 n2 q b2)
    ·exact q
    ·exact absurd (a4 n1 (by omega) (Int.le_refl _)) (b5 n1 q a2)
   subst hn
   obtain ⟨g1,g2⟩:=rBest_ok hA
   rcases hc with ⟨e,hL⟩ | ⟨j,e,hB⟩
   ·have e5 : cW r f to h p = some ([],5):=by
     unfold cW
     rw [e,oB,if_pos (by rfl)]
    have e6 : cG r f to h p = some ⟨[],5⟩:=by
     rcases o7 hA with ⟨_,k⟩ | ⟨a,k1,k2,_⟩
     ·exact k
     ·have:=k2.unique hL; omega
    rw [e,g1 hL,oB,oB]
    dsimp only
    rw [if_neg (by simp),if_neg (by simp),oB,oB,if_neg (by simp),a3,b3,e5,e6,oB,oB,oB,oB,jT,oB]
    dsimp only
    rw [if_pos (by simp),lm _ (by simp)]
    simp
   ·have e5:=Needed_ok hcl hA (by have:=hA.good.places; omega) e hB
    have e6 : cG r f to h p = some ⟨mD (gM r.fTracks.length (tid r) fun k => decide (mB r f to h p j.fA k)),0⟩:=by
     rcases o7 hA with ⟨k,_⟩ | ⟨a,k1,k2,k3⟩
     ·have:=hB.least.unique k
      have:=hB.pos
      omega
     ·rw [k3,k2.unique hB.least]
    have hj : eR r f to h j = some true:=by
     rw [tl hA.good hA.hour (by have:=hB.len; omega),hB.legs]
     have:=hB.least.hi
     have:=hB.toll
     have:=hA.purse
     dsimp only
     refine congrArg some ?_
     simp only [beq_self_eq_true,Bool.true_and,Bool.and_true,Bool.and_eq_true,decide_eq_true_eq]
     omega
    rw [e,g2 j hB,oB,oB]
    dsimp only
    rw [if_neg (by simp),if_pos (by rfl),hj,oB,oB,oB,if_neg (by simp),a3,b3,e5,e6,oB,oB,oB,oB,jT,oB]
    dsimp only
    rw [if_pos (by simp),lm _ (by rw [(jx _).length_eq]; have:=rT hA.good hA.fr hB.pos hB.least; have:=hA.good.places; omega)]
    simp
end Go.Proofs.YthndghnkebboaaaGreat
