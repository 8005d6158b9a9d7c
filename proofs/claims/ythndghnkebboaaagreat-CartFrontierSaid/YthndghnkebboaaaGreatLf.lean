import Derived.Test.YthndghnkebboaaaGreatLs
set_option linter.unusedSimpArgs false
set_option linter.unusedVariables false
namespace Go.Proofs.YthndghnkebboaaaGreat
open Classical
theorem best_in {r : TR} (hR : GoodR r) {f to h purse : Int} (hh : 0 ≤ h) {m : List (Ts × Tl)} (hI : LInv r f h (j9 r) [] m) {js : List TJ} (hfr : fk r f to h = some js) (hF : FrontOf r f to h m 61 js) (hp : 0 ≤ purse ∧ purse ≤ 60) : (gy r f to h purse = some (⟨[],0,0⟩,false)) ∨ ∃ j,gy r f to h purse = some (j,true) ∧ j ∈ js:=by
 have hlen:=hF.len
 obtain ⟨u,hu,hcase⟩:=best_loop (purse:=purse) (js:=js) (by omega)
 unfold gy
 rw [hfr,oB,hu,oB]
 rcases hcase with ⟨g1,g2,_⟩ | ⟨g0,i,hi,g1,_,_⟩
 ·exact .inl (by rw [g1,g2])
 ·exact .inr ⟨js[i],by rw [g0,g1],List.getElem_mem hi⟩
theorem qi {l : List TJ} (hl : l.length ≤ 1000000) (j : TJ) : cW l j = some (decide (∃ x ∈ l,x.fToll ≤ j.fToll ∧ x.fA ≤ j.fA)):=by
 have hinv:=bK (body:=dI l j)
  (fun s => ∃ k : Nat,s = (false,(k : Int)) ∧ k ≤ l.length ∧ ∀ i,(hi : i < l.length) → i < k → ¬ ((l[i]).fToll ≤ j.fToll ∧ (l[i]).fA ≤ j.fA))
  (fun _ out => match out with
   | .inl u => u.1 = true ∧ ∃ x ∈ l,x.fToll ≤ j.fToll ∧ x.fA ≤ j.fA
   | .inr _ => ¬ ∃ x ∈ l,x.fToll ≤ j.fToll ∧ x.fA ≤ j.fA)
  (fun s => l.length - s.2.toNat) (by
   rintro _ ⟨k,rfl,hk,hall⟩
   unfold dI; dsimp only
   rcases Nat.lt_or_ge k l.length with hlt | hge
   ·rw [gM (by omega),gPo (by omega),gPo (by omega),bx hlt,andB,oB,bG (by omega)]
    by_cases hc : (l[k]).fToll ≤ j.fToll ∧ (l[k]).fA ≤ j.fA
    ·rw [if_pos (by rw [Bool.and_eq_true,decide_eq_true_eq,decide_eq_true_eq]; exact hc)]
     exact .inr ⟨_,rfl,rfl,_,List.getElem_mem hlt,hc⟩
    ·rw [if_neg (by rw [Bool.and_eq_true,decide_eq_true_eq,decide_eq_true_eq]; exact hc)]
     refine .inl ⟨_,rfl,⟨k + 1,rfl,hlt,fun i hi h => ?_⟩,by dsimp only; omega,fun t h => h⟩
     rcases Nat.lt_or_ge i k with h' | h'
     ·exact hall i hi h'
     ·have : i = k:=by omega
      subst this; exact hc
   ·rw [gg (by omega)]
    refine .inr ⟨_,rfl,?_⟩
    rintro ⟨x,hx,hc⟩
    obtain ⟨i,hi,rfl⟩:=List.mem_iff_getElem.1 hx
    exact hall i hi (by omega) hc) (false,0) ⟨0,rfl,Nat.zero_le _,fun i hi h => by omega⟩
 obtain ⟨out,hr,hp⟩:=hinv
 unfold cW
 rw [hr,oB]
 rcases out with u | u
 ·dsimp only at hp ⊢
  rw [hp.1,decide_eq_true hp.2]
 ·dsimp only at hp ⊢
  rw [decide_eq_false hp]
theorem qE {r : TR} (hr : ∀ t ∈ r.fTracks,t.fK.length ≤ 1000000) (f to h : Int) : (mu r f to h 0 ≠ 0 ∧ f8 r f to h = some ([],mu r f to h 0)) ∨ (AskedOk r f to h 0 ∧ ∃ m js,dL r f h = some m ∧ LInv r f h (j9 r) [] m ∧ fk r f to h = some js ∧ FrontOf r f to h m 61 js ∧ f8 r f to h = some (js,0)):=by
 unfold f8
 rw [lG hr,oB]
 by_cases hv : mu r f to h 0 = 0
 ·have hA:=gZ.1 hv
  obtain ⟨m,js,h1,h2,h3,h4⟩:=front_ok hA.good hA.fr hA.to hA.hour
  rw [if_neg (by simp [hv]),h3,oB]
  exact .inr ⟨hA,m,js,h1,h2,rfl,h4,rfl⟩
 ·rw [if_pos (by simpa using hv)]
  exact .inl ⟨hv,rfl⟩
theorem sH {l : List TJ} (hl : l.length ≤ 1000000) : ∃ out,aR (bD l) (false,0) = some out ∧ (match out with
  | .inl u => u.1 = true
  | .inr _ => ∀ j ∈ l,j.fLegs.length ≤ 40):=by
 exact bK (body:=bD l)
  (fun s => ∃ k : Nat,s = (false,(k : Int)) ∧ k ≤ l.length ∧ ∀ i,(hi : i < l.length) → i < k → (l[i]).fLegs.length ≤ 40)
  (fun _ out => match out with
   | .inl u => u.1 = true
   | .inr _ => ∀ j ∈ l,j.fLegs.length ≤ 40)
  (fun s => l.length - s.2.toNat) (by
   rintro _ ⟨k,rfl,hk,hall⟩
   unfold bD dD; dsimp only
   rcases Nat.lt_or_ge k l.length with hlt | hge
   ·rw [gM (by omega),gPo (by omega),oB,bx hlt,bG (by omega)]
    by_cases hc : (((l[k]).fLegs.length : Nat) : Int) ≤ 40
    ·rw [if_neg (by simpa using hc)]
     refine .inl ⟨_,rfl,⟨k + 1,rfl,hlt,fun i hi h => ?_⟩,by dsimp only; omega,fun t h => h⟩
     rcases Nat.lt_or_ge i k with h' | h'
     ·exact hall i hi h'
     ·have : i = k:=by omega
      subst this; omega
    ·rw [if_pos (by simpa using hc),ie]
     exact .inr ⟨_,rfl,rfl⟩
   ·rw [gg (by omega)]
    refine .inr ⟨_,rfl,fun j hj => ?_⟩
    obtain ⟨i,hi,rfl⟩:=List.mem_iff_getElem.1 hj
    exact hall i hi (by omega)) (false,0) ⟨0,rfl,Nat.zero_le _,fun i hi h => by omega⟩
theorem CartFrontier_true (r : TR) (f to h : Int) (j : TJ) (l : List TJ) (t : TTimes) (pu : Int) (hr : TRoads_rg r) (h1 : Rg_i64 f) (h2 : Rg_i64 to) (h3 : Rg_i64 h) (hj : TJourney_rg j) (hlr : Rg_list TJourney_rg l) (ht : TTimes_rg t) (h4 : Rg_u8 pu) : cP r f to h j l t pu = some true:=by
 obtain ⟨b1,e1,hfew⟩:=few_eq (r:=r) hr.2.1
 obtain ⟨b2,e2,hrows⟩:=rows_eq (t:=t) ht.1
 unfold cP dD
 rw [e1,e2]
 simp only [oB,orB]
 by_cases hb : (((!b1 || !decide (((j.fLegs.length : Nat) : Int) ≤ 40)) || !b2) || decide (20 < ((l.length : Nat) : Int))) = true
 ·rw [if_pos hb,ie]; rfl
 ·rw [if_neg hb]
  have hb':=Bool.eq_false_iff.2 hb
  simp only [Bool.or_eq_false_iff,Bool.not_eq_false',decide_eq_true_eq,decide_eq_false_iff_not] at hb'
  obtain ⟨⟨⟨rfl,hjl⟩,rfl⟩,hll⟩:=hb'
  have hcl : ∀ t ∈ r.fTracks,t.fK.length ≤ 1000000:=fun t ht => by have:=hfew rfl t ht; omega
  obtain ⟨ht1,ht2⟩:=hrows rfl
  obtain ⟨out,ho,hout⟩:=sH (l:=l) (by omega)
  rw [ho,oB]
  rcases out with u | u
  ·dsimp only at hout ⊢
   rw [hout]
  ·dsimp only at hout ⊢
   rcases qE hcl f to h with ⟨hv,e3⟩ | ⟨hA,m,js,hm,hI,hfr,hF,e3⟩
   ·rw [e3,oB,if_pos (by simpa using hv),ie]; rfl
   ·have hA0 : AskedOk r f f h 0:=⟨hA.good,hA.fr,hA.fr,hA.hour,hA.purse⟩
    obtain ⟨m2,hm2,_,hE⟩:=qS hcl hA0
    rw [hm] at hm2
    cases hm2
    have hR:=hA.good
    have hto:=hA.to
    have hBo:=ow hR hA.fr hA.hour hI
    have hlenB:=hBo.len
    have hpr:=hR.places
    have hjsl:=hF.len
    have hat:=hI.at0 hA.hour.1
    have hjs : ∀ x ∈ js,Jny r f to h x:=fun x hx => by
     obtain ⟨c,a1,a2,a3,a4,a5,_⟩:=hF.each x hx
     obtain ⟨l0,g1,g2,_⟩:=oM a4
     have:=hI.lok _ _ g1
     have b1:=this.at0
     have b2:=this.at1
     have b3:=hat _ _ g1
     exact ⟨a5,by omega,by omega⟩
    have hCF : ck r f to h js (lD r m) = some 0:=by
     rw [lv hcl hA (by omega) (fun x hx => by obtain ⟨c,_,_,_,_,_,g⟩:=hF.each x hx; omega) (by omega) (fun x hx => by have:=(hBo.fall x hx).len; omega),if_pos ⟨hBo,hjs,p8 hat hF,by rw [ly hto]; exact front_wv hR hA.hour.1 hI hF⟩]
    have hCl : ∃ e,ck r f to h l t = some e ∧ (e = 0 → Bounded r f h t ∧ rdL t.fH to = wRow l):=by
     rw [lv hcl hA (by omega) (fun x hx => by have:=hout x hx; omega) (by omega) (fun x hx => by have:=ht2 x hx; omega)]
     refine ⟨_,rfl,fun h => ?_⟩
     split at h
     ·rename_i hh; exact ⟨hh.1,hh.2.2.2⟩
     ·cases h
    obtain ⟨el,hel,hell⟩:=hCl
    rw [e3,oB,if_neg (by simp),hE,oB]
    dsimp only
    rw [hCF]
    obtain ⟨ej,hej,hji⟩:=lj hcl f to h (j:=j) (by omega)
    rw [if_neg (by simp),oB,oB,if_neg (by simp),hej,oB,qi (by omega),hel,qi (by omega)]
    -- whoever travels is beaten
    have cond : (if (ej == 0) = true then ((some (decide (∃ x ∈ js,x.fToll ≤ j.fToll ∧ x.fA ≤ j.fA)) : Option Bool).bind fun y98 => (if (!y98) = true then some true else (some el).bind fun y103 => ((if (y103 == 0) = true then (some (decide (∃ x ∈ l,x.fToll ≤ j.fToll ∧ x.fA ≤ j.fA)) : Option Bool).bind fun y108 => some (!y108) else some false).bind fun b106 => some b106)).bind fun b101 => some b101) else some false) = some false:=by
     by_cases hz : ej = 0
     ·obtain ⟨g1,g2,g3,g4⟩:=hji.1 hz
      have hJ : Jny r f to h j:=⟨g2,g3,g4⟩
      have htr:=hJ.tr
      have hlow:=htr.low hR
      have c1 : ∃ x ∈ js,x.fToll ≤ j.fToll ∧ x.fA ≤ j.fA:=by
       rcases sV hR hA.hour.1 hI hF (purse:=j.fToll) ⟨hlow.2,g4⟩ with ⟨_,hL⟩ | ⟨i,hi,k1,k2,_⟩
       ·have:=(hL.all _ _ htr (Int.le_refl _) g3.2).1
        omega
       ·exact ⟨_,List.getElem_mem hi,k1,(k2.least.all _ _ htr (Int.le_refl _) g3.2).2⟩
      rw [if_pos (by simp [hz]),decide_eq_true c1,oB,if_neg (by simp),oB]
      by_cases hz2 : el = 0
      ·obtain ⟨k1,k2⟩:=hell hz2
       obtain ⟨n1,n2⟩:=k1.tr hR hA.fr hA.hour.1 htr g4 g3.2
       obtain ⟨c,ec⟩ : ∃ c : Nat,j.fToll = (c : Int):=⟨j.fToll.toNat,by omega⟩
       have hw : tAt t to j.fToll = wv2 l j.fToll:=by
        unfold tAt
        rw [k2,ec,qT l (by omega)]
       have c2 : ∃ x ∈ l,x.fToll ≤ j.fToll ∧ x.fA ≤ j.fA:=by
        rcases nV l j.fToll with ⟨_,e⟩ | ⟨i,hi,k3,_,k4⟩
        ·omega
        ·exact ⟨_,List.getElem_mem hi,k3,by omega⟩
       rw [if_pos (by simp [hz2]),decide_eq_true c2]; rfl
      ·rw [if_neg (by simp [hz2])]; rfl
     ·rw [if_neg (by simp [hz])]
    rw [cond,oB,if_neg (by simp)]
    have hpu : w64 pu = pu:=dC (by have:=h4.1; omega) (by have:=h4.2; omega)
    have hc1 : 0 ≤ Int.tmod pu 61:=Int.tmod_nonneg _ h4.1
    have hc2 : Int.tmod pu 61 < 61:=Int.tmod_lt_of_pos _ (by omega)
    rw [hpu]
    generalize Int.tmod pu 61 = c at hc1 hc2 ⊢
    have hA2 : AskedOk r f to h c:=⟨hA.good,hA.fr,hA.to,hA.hour,by omega,by omega⟩
    unfold jf
    rw [lG hcl,oB,gZ.2 hA2,if_neg (by simp)]
    rcases best_in hR hA.hour.1 hI hfr hF (purse:=c) ⟨by omega,by omega⟩ with e5 | ⟨bj,e5,hmem⟩
    ·rw [e5,oB,if_pos (by rfl),oB,if_pos (by rfl),ie]; rfl
    ·rw [e5,oB,if_neg (by simp),oB,if_neg (by simp)]
     have hfound:=bK (body:=bY (js,0) (bj,0))
      (fun s => ∃ k : Nat,s.2 = (k : Int) ∧ k ≤ js.length ∧ ((∃ i,∃ hi : i < js.length,i < k ∧ js[i] = bj) → s.1 = true))
      (fun _ u => u.1 = true)
      (fun s => js.length - s.2.toNat) (by
       rintro ⟨b,i0⟩ ⟨k,hk0,hk,hyes⟩
       dsimp only at hk0 hyes
       subst hk0
       unfold bY; dsimp only
       rcases Nat.lt_or_ge k js.length with hlt | hge
       ·rw [gM (by omega),gPo (by omega),gPo (by omega),bx hlt,andB,oB,orB,oB,bG (by omega)]
        refine .inl ⟨_,rfl,⟨k + 1,rfl,hlt,fun ⟨i,hi,h1,h2⟩ => ?_⟩,by dsimp only; omega,fun t h => h⟩
        dsimp only
        rw [Bool.or_eq_true]
        rcases Nat.lt_or_ge i k with h' | h'
        ·exact .inl (hyes ⟨i,hi,h',h2⟩)
        ·have : i = k:=by omega
         subst this
         rw [h2]
         exact .inr (by simp)
       ·rw [gg (by omega)]
        obtain ⟨i,hi,e⟩:=List.mem_iff_getElem.1 hmem
        exact .inr ⟨_,rfl,hyes ⟨i,hi,by omega,e⟩⟩) (false,0) ⟨0,rfl,Nat.zero_le _,fun ⟨i,hi,h,_⟩ => by omega⟩
     obtain ⟨u2,hu2,hu3⟩:=hfound
     rw [hu2,oB,ie,oB,hu3]
     rfl
end Go.Proofs.YthndghnkebboaaaGreat
