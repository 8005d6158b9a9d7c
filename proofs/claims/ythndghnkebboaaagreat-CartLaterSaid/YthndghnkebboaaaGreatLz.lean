import Derived.Test.YthndghnkebboaaaGreatLp
set_option linter.unusedSimpArgs false
set_option linter.unusedVariables false
namespace Go.Proofs.YthndghnkebboaaaGreat
open Classical
theorem q3 {S : Nat → Nat → Prop} {nB nO : Nat} (hF : Fit S nB nO) (w : Nat → Int) {h h' : Nat → Option Nat} (hM : Mat S h) (hM' : Mat S h') {i N : Nat} (hi : Dom h i) (hN : ¬ Dom h N) (hd : ∀ x,Dom h' x ↔ x = N ∨ (Dom h x ∧ x ≠ i)) : wor nB w h' = wor nB w h - w i + w N:=by
 have hiN : i ≠ N:=fun e => hN (e ▸ hi)
 have hiO : i < nO:=by obtain ⟨k,e⟩:=hi; exact hF.ord i k (hM.suit k i e)
 have hNO : N < nO:=by obtain ⟨k,e⟩:=(hd N).2 (.inl rfl); exact hF.ord N k (hM'.suit k N e)
 unfold wor
 rw [bij hF hM w,bij hF hM' w]
 have e1:=jv (n:=nO) (k:=i) (f:=fun o => if Dom h o then w o else 0) (g:=fun o => if o = i then 0 else if Dom h o then w o else 0) hiO fun o _ ho => if_neg ho
 have e2:=jv (n:=nO) (k:=N) (f:=fun o => if o = i then 0 else if Dom h o then w o else 0) (g:=fun o => if Dom h' o then w o else 0) hNO fun o _ ho => by
  by_cases h1 : o = i
  ·rw [if_pos h1,if_neg]
   intro h2
   rcases (hd o).1 h2 with h3 | h3
   ·exact ho h3
   ·exact h3.2 h1
  ·rw [if_neg h1]
   by_cases h2 : Dom h o
   ·rw [if_pos h2,if_pos ((hd o).2 (.inr ⟨h2,h1⟩))]
   ·rw [if_neg h2,if_neg]
    intro h3
    rcases (hd o).1 h3 with h4 | h4
    ·exact ho h4
    ·exact h2 h4.1
 rw [e2,e1,if_pos hi,if_pos rfl,if_neg fun e => hiN e.symm,if_neg hN,if_pos ((hd N).2 (.inl rfl))]
 omega
theorem sM {S : Nat → Nat → Prop} {nB nO : Nat} (hF : Fit S nB nO) (w : Nat → Int) {h h' : Nat → Option Nat} (hM : Mat S h) (hM' : Mat S h') {N : Nat} (hN : ¬ Dom h N) (hd : ∀ x,Dom h' x ↔ x = N ∨ Dom h x) : wor nB w h' = wor nB w h + w N:=by
 have hNO : N < nO:=by obtain ⟨k,e⟩:=(hd N).2 (.inl rfl); exact hF.ord N k (hM'.suit k N e)
 unfold wor
 rw [bij hF hM w,bij hF hM' w]
 have e1:=jv (n:=nO) (k:=N) (f:=fun o => if Dom h o then w o else 0) (g:=fun o => if Dom h' o then w o else 0) hNO fun o _ ho => by
  by_cases h2 : Dom h o
  ·rw [if_pos h2,if_pos ((hd o).2 (.inr h2))]
  ·rw [if_neg h2,if_neg]
   intro h3
   rcases (hd o).1 h3 with h4 | h4
   ·exact ho h4
   ·exact h2 h4
 rw [e1,if_neg hN,if_pos ((hd N).2 (.inl rfl))]
 omega
theorem qL (y : TY) (x : TO) : (ew y x).fR.length = y.fR.length + 1:=by unfold ew; simp
theorem qd {y : TY} {x : TO} {i k : Nat} (hi : i < y.fR.length) : Su (ew y x) i k ↔ Su y i k:=by
 refine ⟨fun h => ⟨hi,h.2.1,?_⟩,r9⟩
 have:=h.2.2
 rw [oE hi] at this
 exact this
theorem qb {y : TY} {x : TO} {i : Nat} (hi : i < y.fR.length) : wo (ew y x) i = wo y i:=by unfold wo; rw [oE hi]
theorem pD (y : TY) (x : TO) : wo (ew y x) y.fR.length = x.fW:=by
 unfold wo oat ew
 dsimp only
 rw [List.getD_eq_getElem?_getD,List.getElem?_append_right (Nat.le_refl _)]
 simp
theorem Mat.old {y : TY} {x : TO} {h : Nat → Option Nat} (hM : Mat (Su (ew y x)) h) (hn : ¬ Dom h y.fR.length) : Mat (Su y) h:=⟨fun k o e => by
 have h1:=hM.suit k o e
 have h2 : o ≠ y.fR.length:=fun e2 => hn ⟨k,by rw [e,e2]⟩
 have h3:=h1.1
 rw [qL] at h3
 exact (qd (by omega)).1 h1,hM.inj⟩
theorem Mat.new {y : TY} {x : TO} {h : Nat → Option Nat} (hM : Mat (Su y) h) : Mat (Su (ew y x)) h:=⟨fun k o e => r9 (hM.suit k o e),hM.inj⟩
theorem Mat.nothing {y : TY} {h : Nat → Option Nat} (hM : Mat (Su y) h) : ¬ Dom h y.fR.length:=fun ⟨k,e⟩ => by have:=(hM.suit k _ e).1; omega
theorem oM {y : TY} {x : TO} {h : Nat → Option Nat} (hM : Mat (Su y) h) : wor y.fB.length (wo (ew y x)) h = wor y.fB.length (wo y) h:=cx fun k _ => by
 cases e : h k with
 | none => rfl
 | some o => exact qb (hM.suit k o e).1
theorem j5 {y : TY} {x : TO} {V : Int} (hV : Opt (Su y) (wo y) y.fB.length V) {h : Nat → Option Nat} (hM : Mat (Su (ew y x)) h) (hn : ¬ Dom h y.fR.length) : wor y.fB.length (wo (ew y x)) h ≤ V:=by
 have h1:=hM.old hn
 rw [oM h1]
 exact hV.most h h1
theorem ri {y : TY} {x : TO} (hx : 0 ≤ x.fW) {V : Int} (hV : Opt (Su y) (wo y) y.fB.length V) {M h' : Nat → Option Nat} (hM : Mat (Su y) M) (hw : wor y.fB.length (wo y) M = V) (hM' : Mat (Su (ew y x)) h') (hd : ∀ o,Dom h' o ↔ o = y.fR.length ∨ Dom M o) : Opt (Su (ew y x)) (wo (ew y x)) y.fB.length (wor y.fB.length (wo (ew y x)) h'):=by
 have hF:=Su.fit (ew y x)
 refine ⟨⟨h',hM',rfl⟩,fun h hh => ?_⟩
 have e : wor y.fB.length (wo (ew y x)) h' = wor y.fB.length (wo (ew y x)) M + wo (ew y x) y.fR.length:=sM hF (wo (ew y x)) hM.new hM' hM.nothing hd
 rw [oM hM,hw,pD] at e
 have e' : wor y.fB.length (wo (ew y x)) h' = V + x.fW:=e
 rw [e']
 by_cases hn : Dom h y.fR.length
 ·have hB : Mat (Su (ew y x)) (but h y.fR.length):=⟨fun k o e => hh.suit k o (jT.1 e).1,fun k k' o e e' => hh.inj k k' o (jT.1 e).1 (jT.1 e').1⟩
  have hBn : ¬ Dom (but h y.fR.length) y.fR.length:=fun ⟨k,e⟩ => (jT.1 e).2 rfl
  have h1:=j5 hV hB hBn
  have h2:=sM hF (wo (ew y x)) hB hh hBn fun o => ⟨fun ⟨k,e⟩ => by
   by_cases ho : o = y.fR.length
   ·exact .inl ho
   ·exact .inr ⟨k,jT.2 ⟨e,ho⟩⟩,fun h3 => by
   rcases h3 with rfl | ⟨k,e⟩
   ·exact hn
   ·exact ⟨k,(jT.1 e).1⟩⟩
  rw [pD] at h2
  have h2' : wor y.fB.length (wo (ew y x)) h = wor y.fB.length (wo (ew y x)) (but h y.fR.length) + x.fW:=h2
  omega
 ·have:=j5 hV hh hn
  omega
theorem rA {y : TY} {x : TO} {V : Int} (hV : Opt (Su y) (wo y) y.fB.length V) {M out : Nat → Option Nat} (hM : Mat (Su y) M) (hMo : Mat (Su (ew y x)) out) {least : Int} (hle : least ≤ x.fW) (hwo : wor y.fB.length (wo (ew y x)) out = V + x.fW - least) (hno : ¬ Matchable (Su (ew y x)) fun o => o = y.fR.length ∨ Dom M o) (hR : ∀ i,Dom M i → Matchable (Su (ew y x)) (fun o => o = y.fR.length ∨ (Dom M o ∧ o ≠ i)) → least ≤ wo y i) : Opt (Su (ew y x)) (wo (ew y x)) y.fB.length (wor y.fB.length (wo (ew y x)) out):=by
 have hF:=Su.fit (ew y x)
 refine ⟨⟨out,hMo,rfl⟩,fun h hh => ?_⟩
 rw [hwo]
 by_cases hn : Dom h y.fR.length
 ·have hu:=unt_all (nB:=y.fB.length) (T:=fun k => M k = h k)
  rcases exchange (S:=Su (ew y x)) (nB:=y.fB.length) (fun o k hs => hs.2.1) y.fB.length M h y.fR.length hu hM.new hh hM.nothing hn with ⟨M',h1,h2⟩ | ⟨i,M',h',h1,h2,h3,h4,h5,h6,_⟩
  ·exact absurd ⟨M',h1,h2⟩ hno
  ·have h7:=hR i h1 ⟨M',h3,h4⟩
   have hiO : i < y.fR.length:=by obtain ⟨k,e⟩:=h1; exact (hM.suit k i e).1
   have h8:=q3 hF (wo (ew y x)) hh h5 hn h2 h6
   have hn' : ¬ Dom h' y.fR.length:=fun h9 => by
    rcases (h6 _).1 h9 with h9 | h9
    ·omega
    ·exact h9.2 rfl
   have h9:=j5 hV h5 hn'
   rw [pD,qb hiO] at h8
   have h8' : wor y.fB.length (wo (ew y x)) h' = wor y.fB.length (wo (ew y x)) h - x.fW + wo y i:=h8
   omega
 ·have:=j5 hV hh hn
  omega
theorem served_ok {y : TY} (hG : Good y) {p : TPlan} (hl : p.fG.length = y.fR.length) (hok : ∀ i,i < y.fR.length → rn y p i) (b : Int) : ∃ g,ed b p y = some g ∧ OkG y.fB.length y.fR.length g ∧ g.length ≤ y.fR.length ∧ Mat (Su y) (cJ g) ∧ ∀ o,Dom (cJ g) o ↔ o < y.fR.length ∧ ga p o ≠ 0 ∧ (o : Int) ≠ b:=by
 have hB:=hG.bays
 have hO:=hG.ords
 have hbay : ∀ i,i < y.fR.length → ga p i ≠ 0 → 0 ≤ im y (ga p i):=fun i hi h0 => by
  rcases hok i hi with h | h
  ·exact absurd h h0
  ·exact h.1
 have huniq : ∀ i j,i < y.fR.length → j < y.fR.length → ga p i ≠ 0 → ga p j ≠ 0 → im y (ga p i) = im y (ga p j) → i = j:=fun i j hi hj h1 h2 e => by
  have e1:=lz (q:=fun n : TBay => n.fID == ga p i) (hbay i hi h1)
  have e2:=lz (q:=fun n : TBay => n.fID == ga p j) (hbay j hj h2)
  have e3 : ga p i = ga p j:=by
   have a1 : (rdL y.fB (im y (ga p i))).fID = ga p i:=beq_iff_eq.1 e1
   have a2 : (rdL y.fB (im y (ga p j))).fID = ga p j:=beq_iff_eq.1 e2
   rw [← a1,← a2,e]
  rcases Nat.lt_trichotomy i j with h | h | h
  ·rcases hok j hj with h0 | ⟨_,_,h0⟩
   ·exact absurd h0 h2
   ·exact absurd e3 (h0 i h)
  ·exact h
  ·rcases hok i hi with h0 | ⟨_,_,h0⟩
   ·exact absurd h0 h1
   ·exact absurd e3.symm (h0 j h)
 have hinv:=fF (body:=fo b p y)
  (fun s => ∃ (k : Nat) (g : List (Int × Int)),s = ((k : Int),g) ∧ k ≤ y.fR.length ∧ OkG y.fB.length y.fR.length g ∧ g.length ≤ k ∧ ∀ j o,cJ g j = some o ↔ o < k ∧ ga p o ≠ 0 ∧ (o : Int) ≠ b ∧ im y (ga p o) = (j : Int))
  (fun _ t => OkG y.fB.length y.fR.length t.2 ∧ t.2.length ≤ y.fR.length ∧ ∀ j o,cJ t.2 j = some o ↔ o < y.fR.length ∧ ga p o ≠ 0 ∧ (o : Int) ≠ b ∧ im y (ga p o) = (j : Int))
  (fun s => y.fR.length - s.1.toNat) (by
   rintro _ ⟨k,g,rfl,hk,hg,hgl,hh⟩
   unfold fo; dsimp only
   rcases Nat.lt_or_ge k y.fR.length with hlt | hge
   ·rw [gr (by omega),gPo (by omega),nh,bn (by omega)]
    by_cases hc : ga p k ≠ 0 ∧ (k : Int) ≠ b
    ·have hb0:=hbay k hlt hc.1
     have hbl:=pm y (ga p k)
     obtain ⟨n,en⟩ : ∃ n : Nat,im y (ga p k) = (n : Int):=⟨(im y (ga p k)).toNat,by omega⟩
     rw [if_pos (by rw [Bool.and_eq_true,bne_iff_ne,bne_iff_ne]; exact hc),sZ (by omega),oB,en,gPo ⟨jQ (by omega),by omega⟩]
     refine .inl ⟨_,rfl,⟨k + 1,_,rfl,hlt,hg.cons (by omega) hlt,by rw [List.length_cons]; omega,fun j o => ?_⟩,by dsimp only; omega,fun t h => h⟩
     rw [lh]
     dsimp only
     by_cases hj : j = n
     ·rw [if_pos hj]
      constructor
      ·intro e
       cases e
       exact ⟨by omega,hc.1,hc.2,by omega⟩
      ·rintro ⟨h1,h2,h3,h4⟩
       have:=huniq o k (by omega) hlt h2 hc.1 (by omega)
       rw [this]
     ·rw [if_neg hj,hh]
      constructor
      ·rintro ⟨h1,h2⟩
       exact ⟨by omega,h2⟩
      ·rintro ⟨h1,h2,h3,h4⟩
       refine ⟨?_,h2,h3,h4⟩
       by_cases e : o = k
       ·rw [e] at h4; omega
       ·omega
    ·rw [if_neg (by rw [Bool.and_eq_true,bne_iff_ne,bne_iff_ne]; exact hc)]
     refine .inl ⟨_,rfl,⟨k + 1,g,rfl,hlt,hg,by omega,fun j o => ?_⟩,by dsimp only; omega,fun t h => h⟩
     rw [hh]
     constructor
     ·rintro ⟨h1,h2⟩
      exact ⟨by omega,h2⟩
     ·rintro ⟨h1,h2,h3,h4⟩
      refine ⟨?_,h2,h3,h4⟩
      by_cases e : o = k
      ·rw [e] at h2 h3; exact absurd ⟨h2,h3⟩ hc
      ·omega
   ·have hke : k = y.fR.length:=by omega
    subst hke
    rw [fj (by omega)]
    exact .inr ⟨_,rfl,hg,hgl,hh⟩) (0,[]) ⟨0,[],rfl,Nat.zero_le _,OkG.nil,Nat.le_refl _,fun j o => ⟨fun e => (by rw [qG] at e; cases e),fun h => by omega⟩⟩
 obtain ⟨t,ht,h1,h2,h3⟩:=hinv
 unfold ed
 rw [ht]
 refine ⟨t.2,rfl,h1,h2,⟨fun k o e => ?_,fun k k' o e e' => ?_⟩,fun o => ⟨fun ⟨j,e⟩ => ?_,fun ⟨a,b1,c⟩ => ?_⟩⟩
 ·obtain ⟨a,b1,c,d⟩:=(h3 k o).1 e
  rcases hok o a with h | ⟨h4,h5,_⟩
  ·exact absurd h b1
  ·rw [d,jx] at h5
   have:=pm y (ga p o)
   exact ⟨a,by omega,h5⟩
 ·have a:=((h3 k o).1 e).2.2.2
  have a':=((h3 k' o).1 e').2.2.2
  omega
 ·obtain ⟨a,b1,c,_⟩:=(h3 j o).1 e
  exact ⟨a,b1,c⟩
 ·exact ⟨(im y (ga p o)).toNat,(h3 _ o).2 ⟨a,b1,c,by have:=hbay o a b1; omega⟩⟩
theorem OkG.mono {nB nO nO' : Nat} (h : nO ≤ nO') {g : List (Int × Int)} (hg : OkG nB nO g) : OkG nB nO' g:=fun q hq => by
 obtain ⟨k,o,a,b,c⟩:=hg q hq
 exact ⟨k,o,a,b,by omega⟩
theorem sB {y : TY} (hG : Good y) (h9 : y.fR.length < 20) {g : List (Int × Int)} (hg : OkG y.fB.length y.fR.length g) (hM : Mat (Su y) (cJ g)) (hO : Opt (Su y) (wo y) y.fB.length (wor y.fB.length (wo y) (cJ g))) : ∃ p,fv y g = some p ∧ Proved y p ∧ p.fG.length = y.fR.length ∧ ∀ o,o < y.fR.length → (ga p o ≠ 0 ↔ Dom (cJ g) o):=by
 have hy:=hG.fine h9
 obtain ⟨q,u,hp⟩:=rs (Su.fit y) (fun i hi => by have:=hG.worth hi; omega) hy.low hM hO
 obtain ⟨p,e,hpo⟩:=sC hy hg hM hp
 refine ⟨p,e,hpo.proved hG hM hp,hpo.len,fun o ho => ⟨fun h => ?_,fun ⟨k,ek⟩ h => ?_⟩⟩
 ·by_cases hd : Dom (cJ g) o
  ·exact hd
  ·exact absurd (hpo.not o hd) h
 ·have h1:=hpo.got o k ek
  have h2:=pR hG (hM.suit k o ek).2.1
  unfold ga at h
  rw [h] at h1
  omega
theorem pp {y : TY} (hO : y.fR.length ≤ 1000) {p now : TPlan} (hl : p.fG.length = y.fR.length) (hl' : y.fR.length ≤ now.fG.length) {z : Nat} (hA : ∀ i,i < y.fR.length → ga p i = 0 → ga now i = 0) (hz : ∀ i,i < y.fR.length → ga p i ≠ 0 → ga now i = 0 → i = z) : ∃ u,aM (dP y p now) (false,0,0) = some (.inr u) ∧ u.2.1 ≤ 1:=by
 have hinv:=fF (body:=dP y p now)
  (fun s => ∃ (k : Nat) (n : Int),s = (false,n,(k : Int)) ∧ k ≤ y.fR.length ∧ 0 ≤ n ∧ n ≤ (if z < k then 1 else 0))
  (fun _ out => match out with
   | .inl _ => False
   | .inr u => u.2.1 ≤ 1)
  (fun s => y.fR.length - s.2.2.toNat) (by
   rintro _ ⟨k,n,rfl,hk,hn0,hn1⟩
   unfold dP; dsimp only
   rcases Nat.lt_or_ge k y.fR.length with hlt | hge
   ·rw [gr (by omega)]
    simp only [gPo (show (0 : Int) ≤ (k : Int) ∧ (k : Int) < ((p.fG.length : Nat) : Int) by omega),gPo (show (0 : Int) ≤ (k : Int) ∧ (k : Int) < ((now.fG.length : Nat) : Int) by omega),nh,andB,oB,bn (show k < 9223372036854775807 by omega)]
    have h2 : ((ga p k == 0) && (ga now k != 0)) = false:=by
     by_cases h : ga p k = 0
     ·rw [hA k hlt h]; simp
     ·simp [h]
    by_cases h1 : ((ga p k != 0) && (ga now k == 0)) = true
    ·rw [if_pos h1,if_neg (by rw [h2]; simp)]
     rw [Bool.and_eq_true,bne_iff_ne,beq_iff_eq] at h1
     have hkz:=hz k hlt h1.1 h1.2
     have hn : n = 0:=by
      rw [if_neg (by omega)] at hn1; omega
     rw [fq (by omega) (by omega)]
     exact .inl ⟨_,rfl,⟨k + 1,_,rfl,hlt,by omega,by rw [if_pos (by omega)]; omega⟩,by dsimp only; omega,fun t h => h⟩
    ·rw [if_neg h1,if_neg (by rw [h2]; simp)]
     refine .inl ⟨_,rfl,⟨k + 1,_,rfl,hlt,hn0,?_⟩,by dsimp only; omega,fun t h => h⟩
     by_cases h3 : z < k
     ·rw [if_pos h3] at hn1; rw [if_pos (by omega)]; exact hn1
     ·rw [if_neg h3] at hn1
      split <;> omega
   ·rw [fj (by omega)]
    refine .inr ⟨_,rfl,?_⟩
    dsimp only
    split at hn1 <;> omega) (false,0,0) ⟨0,0,rfl,Nat.zero_le _,Int.le_refl _,by split <;> omega⟩
 obtain ⟨out,hr,hp⟩:=hinv
 rcases out with u | u
 ·exact hp.elim
 ·exact ⟨u,hr,hp⟩
theorem Later_ok {y : TY} (hG : Good y) (h9 : y.fR.length < 19) {p : TPlan} (hrg : ∀ x ∈ p.fG,Rg_i64 x) (x : TO) : ∃ a e,gd y p x = some (a,e) ∧ cr y p x = some e ∧ (e = 0 → dG y p x a = some true) ∧ (e ≠ 0 → a.fG = []):=by
 have hB:=hG.bays
 have hO:=hG.ords
 have hadd : ∀ l : List TO,TY.mk y.fB (([] ++ l) ++ [x]) = TY.mk y.fB (l ++ [x]):=fun l => rfl
 unfold gd cr
 rw [gy,gT,fY.2 hG,oB,oB,if_neg (by simp),if_neg (by simp),sA hG hrg,lc hG,oB,oB]
 by_cases hP : Proved y p
 ·have hV:=hP.opt
  obtain ⟨m0,hm1,hm2,hm3⟩:=qQ hP.ok
  rw [decide_eq_true hP,if_neg (by simp),if_pos hP,if_neg (by simp)]
  unfold bK gX
  rw [gPo (by omega),oB,gPo (by simp; omega),gPo (by omega),gPo (by omega),oB,List.nil_append]
  dsimp only
  rw [show TY.mk y.fB (y.fR ++ [x]) = ew y x from rfl,gy,gT,oB,oB]
  by_cases hv : lF (ew y x) = 0
  ·have hG2:=fY.1 hv
   have hF2:=Su.fit (ew y x)
   have hlen2:=qL y x
   have hx:=hG2.worth (i:=y.fR.length) (by omega)
   rw [pD] at hx
   have serv:=fun b => served_ok hG hP.len hP.ok b
   obtain ⟨g0,hg0,hk0,hl0,hM0,hd0⟩:=serv (-1)
   have hdM : ∀ o,Dom (cJ g0) o ↔ o < y.fR.length ∧ ga p o ≠ 0:=fun o => by
    rw [hd0]
    exact ⟨fun h => ⟨h.1,h.2.1⟩,fun h => ⟨h.1,h.2,by omega⟩⟩
   have hwM : wor y.fB.length (wo y) (cJ g0) = p.fW:=by
    rw [qa (Su.fit y) (wo y) hM0 hm1 fun o => (hdM o).trans (hm2 o).symm,hm3]
    exact hP.sum
   -- an order taken,or not
   have take : ∀ g,OkG y.fB.length y.fR.length g → g.length ≤ y.fR.length → Mat (Su y) (cJ g) → ∃ r g',bT g (ew y x) ((y.fR.length : Nat) : Int) = some (r,g') ∧ OkG y.fB.length (y.fR.length + 1) g' ∧ ((r = true ∧ Mat (Su (ew y x)) (cJ g') ∧ ∀ o,Dom (cJ g') o ↔ o = y.fR.length ∨ Dom (cJ g) o) ∨ (r = false ∧ ¬ Matchable (Su (ew y x)) fun o => o = y.fR.length ∨ Dom (cJ g) o)):=fun g hg hgl hM => by
    have hfb : (ew y x).fB.length = y.fB.length:=rfl
    obtain ⟨r,g',e,k1,_,hc⟩:=sQ (y:=ew y x) (by omega) (by omega) (g:=g) (o:=y.fR.length) (by omega) (by rw [hlen2]; exact hg.mono (by omega)) (by omega) hM.new hM.nothing
    refine ⟨r,g',e,by rw [hlen2] at k1; exact k1,?_⟩
    rcases hc with ⟨h1,h2,h3⟩ | ⟨h1,_,C,h3,h4⟩
    ·exact .inl ⟨h1,h2,h3⟩
    ·exact .inr ⟨h1,lg hF2 hM.new h3 hM.nothing h4 fun o ho => by
      rcases ho with h | ⟨k,_,h⟩
      ·exact .inl h
      ·exact .inr ⟨k,h⟩⟩
   rw [if_neg (by simp [hv]),hg0,oB]
   obtain ⟨r,g1,ht,hk1,hc⟩:=take g0 hk0 hl0 hM0
   rw [ht,oB]
   -- what is handed back
   have fin : ∀ (g : List (Int × Int)) (z : Nat),OkG y.fB.length (y.fR.length + 1) g → Mat (Su (ew y x)) (cJ g) → Opt (Su (ew y x)) (wo (ew y x)) y.fB.length (wor y.fB.length (wo (ew y x)) (cJ g)) → (∀ o,o < y.fR.length → Dom (cJ g) o → Dom (cJ g0) o) → (∀ o,Dom (cJ g0) o → ¬ Dom (cJ g) o → o = z) → ∃ a,fv (ew y x) g = some a ∧ dG y p x a = some true:=fun g z h1 h2 h3 h4 h5 => by
    obtain ⟨a,e,hpr,hal,had⟩:=sB hG2 (by omega) (g:=g) (by rw [hlen2]; exact h1) h2 h3
    refine ⟨a,e,?_⟩
    obtain ⟨u,hu,hu1⟩:=pp (y:=y) (by omega) (p:=p) (now:=a) hP.len (by rw [hal,hlen2]; omega) (z:=z) (fun i hi h0 => by
     by_cases hne : ga a i = 0
     ·exact hne
     ·have:=(hdM i).1 (h4 i hi ((had i (by omega)).1 hne))
      exact absurd h0 this.2) (fun i hi h0 h6 => h5 i ((hdM i).2 ⟨hi,h0⟩) fun hd => (had i (by omega)).2 hd h6)
    unfold dG gX
    rw [gPo (by omega),gPo (by omega),oB,List.nil_append]
    dsimp only
    rw [show TY.mk y.fB (y.fR ++ [x]) = ew y x from rfl,lc hG2,if_pos hpr,oB,if_neg (by simp),hu,oB]
    dsimp only
    rw [decide_eq_true hu1]
   rcases hc with ⟨rfl,hM1,hd1⟩ | ⟨rfl,hno⟩
   ·rw [if_pos rfl]
    obtain ⟨a,e1,e2⟩:=fin g1 0 hk1 hM1 (ri (by omega) hV hM0 hwM hM1 hd1) (fun o ho h => by
     rcases (hd1 o).1 h with h | h
     ·omega
     ·exact h) (fun o h1 h2 => absurd ((hd1 o).2 (.inr h1)) h2)
    rw [e1,oB]
    exact ⟨a,0,rfl,by rw [hv],fun _ => e2,fun h => absurd rfl h⟩
   ·rw [if_neg (by simp),oB]
    have hinv:=fF (body:=gN y p x y.fR)
     (fun s => ∃ (k : Nat) (least : Int) (g : List (Int × Int)),s = (least,(k : Int),g) ∧ k ≤ y.fR.length ∧ OkG y.fB.length (y.fR.length + 1) g ∧ Mat (Su (ew y x)) (cJ g) ∧ least ≤ x.fW ∧ ((least = x.fW ∧ ∀ o,Dom (cJ g) o ↔ Dom (cJ g0) o) ∨ ∃ z,Dom (cJ g0) z ∧ wo y z = least ∧ ∀ o,Dom (cJ g) o ↔ o = y.fR.length ∨ (Dom (cJ g0) o ∧ o ≠ z)) ∧ ∀ j,j < k → Dom (cJ g0) j → Matchable (Su (ew y x)) (fun o => o = y.fR.length ∨ (Dom (cJ g0) o ∧ o ≠ j)) → least ≤ wo y j)
     (fun _ t => OkG y.fB.length (y.fR.length + 1) t.2.2 ∧ Mat (Su (ew y x)) (cJ t.2.2) ∧ t.1 ≤ x.fW ∧ ((t.1 = x.fW ∧ ∀ o,Dom (cJ t.2.2) o ↔ Dom (cJ g0) o) ∨ ∃ z,Dom (cJ g0) z ∧ wo y z = t.1 ∧ ∀ o,Dom (cJ t.2.2) o ↔ o = y.fR.length ∨ (Dom (cJ g0) o ∧ o ≠ z)) ∧ ∀ j,Dom (cJ g0) j → Matchable (Su (ew y x)) (fun o => o = y.fR.length ∨ (Dom (cJ g0) o ∧ o ≠ j)) → t.1 ≤ wo y j)
     (fun s => y.fR.length - s.2.1.toNat) (by
      rintro _ ⟨k,least,g,rfl,hk,hkg,hMg,hle,hz,hR⟩
      have hpl:=hP.len
      unfold gN; dsimp only
      rcases Nat.lt_or_ge k y.fR.length with hlt | hge
      ·rw [gr (by omega),gPo (by omega),gPo (by omega),nh,orB,oB,bn (by omega),fV,show (oat y k).fW = wo y k from rfl,show TY.mk y.fB (y.fR ++ [x]) = ew y x from rfl]
       by_cases hskip : (ga p k == 0 || decide (least ≤ wo y k)) = true
       ·rw [if_pos hskip]
        refine .inl ⟨_,rfl,⟨k + 1,least,g,rfl,hlt,hkg,hMg,hle,hz,fun j hj h1 h2 => ?_⟩,by dsimp only; omega,fun t h => h⟩
        by_cases e : j = k
        ·rw [e] at h1 ⊢
         rw [Bool.or_eq_true,beq_iff_eq,decide_eq_true_eq] at hskip
         rcases hskip with h | h
         ·exact absurd h ((hdM k).1 h1).2
         ·exact h
        ·exact hR j (by omega) h1 h2
       ·rw [if_neg hskip]
        rw [Bool.or_eq_true,beq_iff_eq,decide_eq_true_eq] at hskip
        have hk0 : ga p k ≠ 0:=fun e => hskip (.inl e)
        have hlw : wo y k < least:=by
         by_cases h : wo y k < least
         ·exact h
         ·exact absurd (.inr (by omega)) hskip
        obtain ⟨gk,e1,s1,s2,s3,s4⟩:=serv (k : Int)
        have hdk : ∀ o,Dom (cJ gk) o ↔ Dom (cJ g0) o ∧ o ≠ k:=fun o => by
         rw [s4,hdM]
         exact ⟨fun h => ⟨⟨h.1,h.2.1⟩,by omega⟩,fun h => ⟨h.1.1,h.1.2,by omega⟩⟩
        obtain ⟨r2,g2,e2,k2,hc2⟩:=take gk s1 s2 s3
        rw [e1,oB,e2,oB]
        rcases hc2 with ⟨rfl,hM2,hd2⟩ | ⟨rfl,hno2⟩
        ·rw [if_pos rfl,gPo (by omega)]
         refine .inl ⟨_,rfl,⟨k + 1,wo y k,g2,rfl,hlt,k2,hM2,by omega,.inr ⟨k,(hdM k).2 ⟨hlt,hk0⟩,rfl,fun o => by rw [hd2,hdk]⟩,fun j hj h1 h2 => ?_⟩,by dsimp only; omega,fun t h => h⟩
         by_cases e : j = k
         ·rw [e]; exact Int.le_refl _
         ·have:=hR j (by omega) h1 h2; omega
        ·rw [if_neg (by simp)]
         refine .inl ⟨_,rfl,⟨k + 1,least,g,rfl,hlt,hkg,hMg,hle,hz,fun j hj h1 h2 => ?_⟩,by dsimp only; omega,fun t h => h⟩
         by_cases e : j = k
         ·rw [e] at h2
          exact absurd (h2.congr fun o => or_congr Iff.rfl (hdk o).symm) hno2
         ·exact hR j (by omega) h1 h2
      ·have hke : k = y.fR.length:=by omega
       subst hke
       rw [fj (by omega)]
       exact .inr ⟨_,rfl,hkg,hMg,hle,hz,fun j h1 h2 => hR j ((hdM j).1 h1).1 h1 h2⟩) (x.fW,0,g0) ⟨0,x.fW,g0,rfl,Nat.zero_le _,hk0.mono (by omega),hM0.new,Int.le_refl _,.inl ⟨rfl,fun o => Iff.rfl⟩,fun j hj => by omega⟩
    obtain ⟨t,htl,h1,h2,h3,h4,h5⟩:=hinv
    rw [htl,oB]
    have hwo : wor y.fB.length (wo (ew y x)) (cJ t.2.2) = p.fW + x.fW - t.1:=by
     rcases h4 with ⟨e,hd⟩ | ⟨z,hz1,hz2,hd⟩
     ·have:=qa hF2 (wo (ew y x)) h2 hM0.new hd
      have e2 : wor y.fB.length (wo (ew y x)) (cJ t.2.2) = wor y.fB.length (wo (ew y x)) (cJ g0):=this
      rw [e2,oM hM0,hwM]; omega
     ·have:=q3 hF2 (wo (ew y x)) hM0.new h2 hz1 hM0.nothing hd
      have e2 : wor y.fB.length (wo (ew y x)) (cJ t.2.2) = wor y.fB.length (wo (ew y x)) (cJ g0) - wo (ew y x) z + wo (ew y x) y.fR.length:=this
      rw [e2,oM hM0,hwM,pD,qb ((hdM z).1 hz1).1,hz2]; omega
    have hopt:=rA hV hM0 h2 h3 hwo hno h5
    rcases h4 with ⟨e,hd⟩ | ⟨z,hz1,hz2,hd⟩
    ·obtain ⟨a,e1,e2⟩:=fin t.2.2 0 h1 h2 hopt (fun o _ h => (hd o).1 h) (fun o h1 h2 => absurd ((hd o).2 h1) h2)
     rw [e1,oB]
     exact ⟨a,0,rfl,by rw [hv],fun _ => e2,fun h => absurd rfl h⟩
    ·obtain ⟨a,e1,e2⟩:=fin t.2.2 z h1 h2 hopt (fun o ho h => by
      rcases (hd o).1 h with h | h
      ·omega
      ·exact h.1) (fun o h1 h2 => by
      by_cases e : o = z
      ·exact e
      ·exact absurd ((hd o).2 (.inr ⟨h1,e⟩)) h2)
     rw [e1,oB]
     exact ⟨a,0,rfl,by rw [hv],fun _ => e2,fun h => absurd rfl h⟩
  ·rw [if_pos (by simpa using hv)]
   exact ⟨_,_,rfl,rfl,fun h => absurd h hv,fun _ => rfl⟩
 ·rw [decide_eq_false hP,if_pos (by rfl),if_neg hP,if_pos (by rfl)]
  exact ⟨_,_,rfl,rfl,fun h => (by cases h),fun _ => rfl⟩
theorem sW {y : TY} (h9 : lF y = 0 → y.fR.length < 19) {p : TPlan} (hrg : ∀ x ∈ p.fG,Rg_i64 x) (x : TO) : ∃ a e,gd y p x = some (a,e) ∧ cr y p x = some e ∧ (e = 0 → dG y p x a = some true) ∧ (e ≠ 0 → a.fG = []):=by
 by_cases hv : lF y = 0
 ·exact Later_ok (fY.1 hv) (h9 hv) hrg x
 ·unfold gd cr
  rw [gy,gT,oB,oB,if_pos (by simpa using hv),if_pos (by simpa using hv)]
  exact ⟨_,_,rfl,rfl,fun h => absurd h hv,fun _ => rfl⟩
theorem own_rg {y : TY} (hG : Good y) {pl : TPlan} (hpv : Proved y pl) : ∀ x ∈ pl.fG,Rg_i64 x:=fun x hx => by
 obtain ⟨i,hi,rfl⟩:=List.mem_iff_getElem.1 hx
 have hi2 : i < y.fR.length:=by rw [← hpv.len]; exact hi
 have e : ga pl i = pl.fG[i]:=by unfold ga; rw [List.getD_eq_getElem?_getD,List.getElem?_eq_getElem hi]; rfl
 rw [← e]
 rcases hpv.ok i hi2 with h | ⟨h,_,_⟩
 ·rw [h]; exact ⟨by omega,by omega⟩
 ·have hx:=lz (q:=fun n : TBay => n.fID == ga pl i) h
  have hy:=hG.bay _ (idxI_mem (q:=fun n : TBay => n.fID == ga pl i) h)
  have he : (rdL y.fB (im y (ga pl i))).fID = ga pl i:=beq_iff_eq.1 hx
  unfold rz at hy
  simp only [Bool.and_eq_true,decide_eq_true_eq] at hy
  have h4 : 1 ≤ (rdL y.fB (im y (ga pl i))).fID ∧ (rdL y.fB (im y (ga pl i))).fID ≤ 1099511627776:=hy.1
  rw [he] at h4
  exact ⟨by omega,by omega⟩
theorem nQ {y : TY} (h9 : lF y = 0 → y.fR.length < 19) (x : TO) (own : TPlan × Int) {p : TPlan} (hrg : ∀ x ∈ p.fG,Rg_i64 x) {i : Nat} (hi : i < 2) : a8 y x own (false,(i : Int),p.fG,p.fW,p.fPrices) = some (.inl (false,((i + 1 : Nat) : Int),own.1.fG,own.1.fW,own.1.fPrices)):=by
 obtain ⟨a,e,e1,e2,e3,e4⟩:=sW h9 hrg x
 unfold a8; dsimp only
 rw [gr (by omega),show TPlan.mk p.fG p.fW p.fPrices = p from rfl,e1,oB,e2,oB]
 dsimp only
 rw [if_neg (by simp),bn (by omega)]
 by_cases h : e = 0
 ·rw [if_pos (by simp [h]),e3 h]
  simp [h]
 ·rw [if_neg (by simp [h])]
  simp [e4 h]
theorem CartLater_true (y : TY) (p : TPlan) (x : TO) (hy : TYard_rg y) (hp : TPlan_rg p) (hx : TOrder_rg x) : dH y p x = some true:=by
 unfold dH
 rw [yard_eq,oB]
 by_cases hg : (((!decide ((y.fB.length ≤ 9 ∨ 24 < y.fB.length ∧ y.fB.length ≤ 40) ∧ (y.fR.length ≤ 9 ∨ 24 < y.fR.length ∧ y.fR.length ≤ 40))) || decide (60 < ((p.fG.length : Nat) : Int))) || decide (60 < ((p.fPrices.length : Nat) : Int))) = true
 ·rw [if_pos hg,mX]; rfl
 ·rw [if_neg hg]
  have hg2:=Bool.eq_false_iff.2 hg
  rw [Bool.or_eq_false_iff,Bool.or_eq_false_iff,Bool.not_eq_false',decide_eq_true_eq] at hg2
  obtain ⟨⟨hyd,_⟩,_⟩:=hg2
  have h9 : lF y = 0 → y.fR.length < 19:=fun h => by have:=(fY.1 h).ords; omega
  obtain ⟨own,hown,hrg⟩ : ∃ own,fc y = some own ∧ ∀ x ∈ own.1.fG,Rg_i64 x:=by
   by_cases h0 : lF y = 0
   ·have hG:=fY.1 h0
    obtain ⟨pl,m,q,u,hS,hM,hpr,hpo⟩:=Serve_ok hG (by have:=h9 h0; omega)
    exact ⟨_,hS,own_rg hG (hpo.proved hG hM hpr)⟩
   ·refine ⟨(TPlan.mk [] 0 [],lF y),?_,fun x hx => (by cases hx)⟩
    unfold fc
    rw [gy,oB,if_pos (by simpa using h0)]
  rw [hown,oB]
  have s1:=nQ h9 x own (p:=p) hp.1.2 (i:=0) (by omega)
  have s2:=nQ h9 x own (p:=own.1) hrg (i:=1) (by omega)
  have s3 : a8 y x own (false,((2 : Nat) : Int),own.1.fG,own.1.fW,own.1.fPrices) = some (.inr (.inr (false,((2 : Nat) : Int),own.1.fG,own.1.fW,own.1.fPrices))):=by
   unfold a8; dsimp only
   rw [fj (by omega)]
  have hl : aM (a8 y x own) (false,((0 : Nat) : Int),p.fG,p.fW,p.fPrices) = some (.inr (false,((2 : Nat) : Int),own.1.fG,own.1.fW,own.1.fPrices)):=by
   rw [eg s1,eg s2,bW s3]
  have hl' : aM (a8 y x own) (false,0,p.fG,p.fW,p.fPrices) = _:=hl
  rw [hl',oB]
  dsimp only
  rw [mX]
  rfl
end Go.Proofs.YthndghnkebboaaaGreat
