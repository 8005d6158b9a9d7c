import Derived.Test.YthndghnkebboaabGreatYr
import Derived.Test.YthndghnkebboaabGreatP
import Derived.KernelRfl
set_option linter.unusedSimpArgs false
set_option linter.unusedVariables false
namespace Go.Proofs.YthndghnkebboaabGreat
open Classical
theorem insS_l2 {n : Nat} {data0 : List TSpan} (h0 : data0.length = n) (hn : n < 1000000) {cmp : TSpan → TSpan → Option Int} (c : TSpan → TSpan → Int) (f : TSpan → Int) (S : TSpan → Prop) (hc : ∀ x y,S x → S y → cmp x y = some (c x y) ∧ (c x y < 0 ↔ f x < f y)) (x : TSpan) (hx : S x) :
  ∀ (k : Nat) (A1 T : List TSpan),A1.length = k → A1.length + 1 + T.length = n → (∀ y ∈ A1,S y) → ∃ B1 B2 : List TSpan,A1 = B1 ++ B2 ∧ aT (aQ data0 0 cmp) ((A1.length : Int),A1 ++ x :: T) = some ((B1.length : Int),B1 ++ x :: (B2 ++ T)) ∧ (∀ y ∈ B2,f x < f y) ∧ (∀ y,B1.getLast? = some y → ¬ f x < f y):=by
 intro k
 induction k with
 | zero =>
  intro A1 T hk hl hS
  have : A1 = []:=List.eq_nil_of_length_eq_zero hk
  subst this
  refine ⟨[],[],rfl,?_,by simp,by simp⟩
  refine bZ ?_
  unfold aQ; dsimp only
  rfl
 | succ k ih =>
  intro A1 T hk hl hS
  obtain ⟨A,y,rfl⟩ : ∃ A y,A1 = A ++ [y]:=⟨A1.dropLast,A1.getLast (by intro h; rw [h] at hk; cases hk),(List.dropLast_concat_getLast _).symm⟩
  have hA : A.length = k:=by simpa using hk
  simp only [List.length_append,List.length_cons,List.length_nil] at hl
  have hy : S y:=hS y (by simp)
  have e1 : A ++ [y] ++ x :: T = A ++ y :: x :: T:=by simp
  have hi : (((A ++ [y]).length : Nat) : Int) = (A.length : Int) + 1:=by simp
  have hj1 : w64 ((((A ++ [y]).length : Nat) : Int) - 1) = (A.length : Int):=by rw [dk (by simp only [List.length_append,List.length_cons,List.length_nil]; omega) (by simp only [List.length_append,List.length_cons,List.length_nil]; omega)]; simp
  have r1 : rdL (A ++ [y] ++ x :: T) (((A ++ [y]).length : Nat) : Int) = x:=mB _ _ _ _ rfl
  have r2 : rdL (A ++ [y] ++ x :: T) (A.length : Int) = y:=by rw [e1]; exact mB _ _ _ _ rfl
  obtain ⟨hc1,hc2⟩:=hc x y hx hy
  have g1 : (0 : Int) ≤ (((A ++ [y]).length : Nat) : Int) ∧ (((A ++ [y]).length : Nat) : Int) < ((data0.length : Nat) : Int):=by rw [h0]; simp only [List.length_append,List.length_cons,List.length_nil]; omega
  have g2 : (0 : Int) ≤ (A.length : Int) ∧ (A.length : Int) < ((data0.length : Nat) : Int):=by rw [h0]; omega
  have hd : decide ((0 : Int) < (((A ++ [y]).length : Nat) : Int)) = true:=decide_eq_true (by rw [hi]; omega)
  have step : aQ data0 0 cmp ((((A ++ [y]).length : Nat) : Int),A ++ [y] ++ x :: T) = if f x < f y then some (.inl ((A.length : Int),A ++ x :: ([y] ++ T))) else some (.inr ((((A ++ [y]).length : Nat) : Int),A ++ [y] ++ x :: T)):=by
   unfold aQ; dsimp only
   simp only [hj1,r1,r2,pA,hd,if_true,gPo g1,gPo g2,hc1,oB,decide_eq_true_eq]
   by_cases hlt : f x < f y
   ·rw [if_pos (hc2.2 hlt),if_pos hlt]
    refine congrArg some (congrArg Sum.inl (Prod.ext rfl ?_))
    show ((A ++ [y] ++ x :: T).set (Int.toNat (((A ++ [y]).length : Nat) : Int)) y).set (Int.toNat (A.length : Int)) x = _
    rw [Int.toNat_natCast,Int.toNat_natCast,mq (A ++ [y]) x y T _ rfl]
    have e3 : A ++ [y] ++ y :: T = A ++ y :: (y :: T):=by simp
    rw [e3,mq A y x (y :: T) _ rfl]
    simp
   ·rw [if_neg (fun h => hlt (hc2.1 h)),if_neg hlt]
  by_cases hlt : f x < f y
  ·rw [if_pos hlt] at step
   obtain ⟨B1,B2,hB,hr,h2,h3⟩:=ih A ([y] ++ T) hA (by simp; omega) (fun z hz => hS z (by simp [hz]))
   refine ⟨B1,B2 ++ [y],by rw [hB,List.append_assoc],?_,?_,h3⟩
   ·rw [fv step,hr]
    simp
   ·intro z hz
    rcases List.mem_append.1 hz with hz | hz
    ·exact h2 z hz
    ·rw [List.mem_singleton.1 hz]; exact hlt
  ·rw [if_neg hlt] at step
   refine ⟨A ++ [y],[],by simp,?_,by simp,?_⟩
   ·rw [bZ step]; simp
   ·intro z hz
    simp at hz
    rw [← hz]
    exact hlt
theorem insS_all {l : List TSpan} (hl : l.length < 1000000) {cmp : TSpan → TSpan → Option Int} (c : TSpan → TSpan → Int) (f : TSpan → Int) (hc : ∀ x y,x ∈ l → y ∈ l → cmp x y = some (c x y) ∧ (c x y < 0 ↔ f x < f y)) :
  ∃ s,bg l 0 (l.length : Int) cmp = some s ∧ s.Perm l ∧ s.Pairwise (fun a b => f a ≤ f b):=by
 unfold bg
 have e1 : w64 (0 + 1) = 1:=rfl
 rw [e1]
 have main : ∀ (R A : List TSpan),(A ++ R).Perm l → A.Pairwise (fun a b => f a ≤ f b) → ∃ s,aT (aD l 0 (l.length : Int) cmp) ((A.length : Int),A ++ R) = some ((l.length : Int),s) ∧ s.Perm l ∧ s.Pairwise (fun a b => f a ≤ f b):=by
  intro R
  induction R with
  | nil =>
   intro A hp hs
   have hlen : A.length = l.length:=by have:=hp.length_eq; simpa using this
   refine ⟨A,?_,by simpa using hp,hs⟩
   rw [List.append_nil,hlen]
   refine bZ ?_
   unfold aD; dsimp only
   rw [show decide ((l.length : Int) < (l.length : Int)) = false from decide_eq_false (by omega)]
   rfl
  | cons x T ih =>
   intro A hp hs
   have hlen : A.length + (T.length + 1) = l.length:=by have:=hp.length_eq; simpa using this
   obtain ⟨B1,B2,hB,hr,h2,h3⟩:=insS_l2 (data0:=l) rfl hl c f (fun z => z ∈ l) hc x (hp.mem_iff.1 (by simp)) A.length A T rfl (by omega) (fun y hy => hp.mem_iff.1 (by simp [hy]))
   have hstep : aD l 0 (l.length : Int) cmp ((A.length : Int),A ++ x :: T) = some (.inl (((B1 ++ x :: B2).length : Int),(B1 ++ x :: B2) ++ T)):=by
    unfold aD; dsimp only
    rw [show decide ((A.length : Int) < (l.length : Int)) = true from decide_eq_true (by omega)]
    rw [if_pos rfl,hr,oB]
    have hw : w64 ((A.length : Int) + 1) = (A.length : Int) + 1:=dk (by omega) (by omega)
    simp only [hw]
    refine congrArg some (congrArg Sum.inl (Prod.ext ?_ ?_))
    ·simp [hB]; omega
    ·simp
   have hs' : (B1 ++ x :: B2).Pairwise (fun a b => f a ≤ f b):=by
    rw [hB,List.pairwise_append] at hs
    obtain ⟨s1,s2,s3⟩:=hs
    have hle : ∀ y ∈ B1,f y ≤ f x:=by
     intro y hy
     rcases List.eq_nil_or_concat B1 with rfl | ⟨B,z,rfl⟩
     ·cases hy
     ·have hz:=h3 z (by simp)
      rw [List.concat_eq_append] at hy s1
      rcases List.mem_append.1 hy with hy | hy
      ·rw [List.pairwise_append] at s1
       have:=s1.2.2 y hy z (by simp); omega
      ·rw [List.mem_singleton.1 hy]; omega
    rw [List.pairwise_append]
    refine ⟨s1,List.pairwise_cons.2 ⟨fun y hy => by have:=h2 y hy; omega,s2⟩,fun a ha b hb => ?_⟩
    rcases List.mem_cons.1 hb with rfl | hb
    ·exact hle a ha
    ·exact s3 a ha b hb
   have hp' : ((B1 ++ x :: B2) ++ T).Perm l:=by
    refine List.Perm.trans ?_ hp
    rw [hB]
    simp only [List.append_assoc,List.cons_append]
    exact List.Perm.append_left B1 (List.perm_middle).symm
   obtain ⟨s,h4,h5,h6⟩:=ih (B1 ++ x :: B2) hp' hs'
   exact ⟨s,by rw [fv hstep]; exact h4,h5,h6⟩
 rcases l with _ | ⟨x,T⟩
 ·have : aT (aD [] 0 (([] : List TSpan).length : Int) cmp) (1,[]) = some (1,[]):=by
   refine bZ ?_
   unfold aD
   rfl
  exact ⟨[],by rw [this]; rfl,List.Perm.refl _,List.Pairwise.nil⟩
 ·obtain ⟨s,h1,h2,h3⟩:=main T [x] (by simp) (by simp)
  have h1' : aT (aD (x :: T) 0 ((x :: T).length : Int) cmp) (1,x :: T) = some (((x :: T).length : Int),s):=h1
  exact ⟨s,by rw [h1']; rfl,h2,h3⟩
theorem lk {n : Nat} (h : n ≤ 12) : ∃ v,eJ (n : Int) = some v:=by
 have : n = 0 ∨ n = 1 ∨ n = 2 ∨ n = 3 ∨ n = 4 ∨ n = 5 ∨ n = 6 ∨ n = 7 ∨ n = 8 ∨ n = 9 ∨ n = 10 ∨ n = 11 ∨ n = 12:=by omega
 rcases this with h | h | h | h | h | h | h | h | h | h | h | h | h <;> subst h <;> exact ⟨_,rfl⟩
theorem qr {l : List TSpan} (hl : l.length ≤ 12) {cmp : TSpan → TSpan → Option Int} (c : TSpan → TSpan → Int) (f : TSpan → Int) (hc : ∀ x y,x ∈ l → y ∈ l → cmp x y = some (c x y) ∧ (c x y < 0 ↔ f x < f y)) : ∃ s,bE l cmp = some s ∧ s.Perm l ∧ s.Pairwise (fun a b => f a ≤ f b):=by
 obtain ⟨s,h1,h2,h3⟩:=insS_all (by omega) c f hc
 obtain ⟨v,hv⟩:=lk hl
 refine ⟨s,?_,h2,h3⟩
 unfold bE bU
 rw [gPo (by omega),hv,oB]
 have hst : bH cmp (0,(l.length : Int),v,true,true,l) = some (.inr (0,(l.length : Int),v,true,true,s)):=by
  unfold bH; dsimp only
  rw [dk (by omega) (by omega),gPo (by rw [decide_eq_true_eq]; omega),h1]
  rfl
 rw [bZ hst]
 rfl
def pX (l : List TSpan) (n : Int) : Prop:=∃ s ∈ l,s.fLo ≤ n ∧ n ≤ s.fHi
theorem nu : ∀ (l : List TSpan) (n : Int),go l n = n ↔ ¬ pX l n
 | [],n => ⟨fun _ ⟨s,hs,_⟩ => (by cases hs),fun _ => rfl⟩
 | s :: l,n => by
  show go l (ia n s) = n ↔ _
  by_cases hc : s.fLo ≤ n ∧ n ≤ s.fHi
  ·have e : ia n s = s.fHi + 1:=if_pos hc
   have h1:=lR l (s.fHi + 1)
   rw [e]
   exact ⟨fun h => by omega,fun h => absurd ⟨s,List.mem_cons_self,hc⟩ h⟩
  ·have e : ia n s = n:=if_neg hc
   rw [e,nu l n]
   refine not_congr ⟨fun ⟨x,hx,h⟩ => ⟨x,List.mem_cons_of_mem _ hx,h⟩,fun ⟨x,hx,h⟩ => ?_⟩
   rcases List.mem_cons.1 hx with rfl | hx
   ·exact absurd h hc
   ·exact ⟨x,hx,h⟩
def tp (last : Int) : List TSpan → Int
 | [] => last
 | s :: l => tp s.fHi l
theorem nU (last : Int) : ∀ (B : List TSpan) (z : TSpan),tp last (B ++ [z]) = z.fHi
 | [],z => rfl
 | s :: B,z => nU s.fHi B z
theorem kf : ∀ {B : List TSpan} {last : Int} {z : TSpan},dl last (B ++ [z]) = true ↔ dl last B = true ∧ tp last B + 2 ≤ z.fLo ∧ z.fLo ≤ z.fHi ∧ z.fHi ≤ 16384
 | [],last,z => by
  show dl last [z] = true ↔ _
  rw [dS]
  exact ⟨fun h => ⟨rfl,h.1,h.2.1,h.2.2.1⟩,fun h => ⟨h.2.1,h.2.2.1,h.2.2.2,rfl⟩⟩
 | s :: B,last,z => by
  rw [List.cons_append,dS,dS,kf (B:=B)]
  exact ⟨fun ⟨a,b,c,d,e⟩ => ⟨⟨a,b,c,d⟩,e⟩,fun ⟨⟨a,b,c,d⟩,e⟩ => ⟨a,b,c,d,e⟩⟩
theorem o4 : ∀ {l : List TSpan} {last : Int},dl last l = true → -2 ≤ last → ∀ s ∈ l,0 ≤ s.fLo ∧ s.fLo ≤ s.fHi ∧ s.fHi ≤ 16384
 | [],_,_,_,s,hm => by cases hm
 | x :: l,last,hs,h0,s,hm => by
  obtain ⟨h1,h2,h3,h4⟩:=dS.1 hs
  rcases List.mem_cons.1 hm with rfl | hm
  ·omega
  ·exact o4 h4 (by omega) s hm
theorem iy {A B : List TSpan} {n : Int} : pX (A ++ B) n ↔ pX A n ∨ pX B n:=by
 unfold pX
 constructor
 ·rintro ⟨s,hs,h⟩
  rcases List.mem_append.1 hs with hs | hs
  ·exact .inl ⟨s,hs,h⟩
  ·exact .inr ⟨s,hs,h⟩
 ·rintro (⟨s,hs,h⟩ | ⟨s,hs,h⟩)
  ·exact ⟨s,List.mem_append.2 (.inl hs),h⟩
  ·exact ⟨s,List.mem_append.2 (.inr hs),h⟩
theorem mC {z : TSpan} {n : Int} : pX [z] n ↔ z.fLo ≤ n ∧ n ≤ z.fHi:=⟨fun ⟨s,hs,h⟩ => by rw [List.mem_singleton.1 hs] at h; exact h,fun h => ⟨z,List.mem_cons_self,h⟩⟩
theorem tu {l : List TSpan} {s : TSpan} (hl : l.length ≤ 11) (hsp : dl (-2) l = true) (hs : 0 ≤ s.fLo ∧ s.fLo ≤ s.fHi ∧ s.fHi ≤ 16384) : ∃ out,f4 l s = some out ∧ dl (-2) out = true ∧ (∀ n,pX out n ↔ pX l n ∨ (s.fLo ≤ n ∧ n ≤ s.fHi)) ∧ out.length ≤ l.length + 1:=by
 have hok : ∀ x ∈ l ++ [s],0 ≤ x.fLo ∧ x.fLo ≤ x.fHi ∧ x.fHi ≤ 16384:=fun x hx => by
  rcases List.mem_append.1 hx with hx | hx
  ·exact o4 hsp (by omega) x hx
  ·rw [List.mem_singleton.1 hx]; exact hs
 obtain ⟨S,h1,h2,h3⟩:=qr (l:=l ++ [s]) (by simp; omega) (cmp:=fun x13 x14 => eE x13 x14) (fun a b => a.fLo - b.fLo) (fun a => a.fLo) (fun x y hx hy => by
  have a:=hok x hx
  have b:=hok y hy
  unfold eE
  rw [dk (by omega) (by omega)]
  exact ⟨rfl,by omega⟩)
 have hlen : S.length = l.length + 1:=by have:=h2.length_eq; simpa using this
 have hokS : ∀ x ∈ S,0 ≤ x.fLo ∧ x.fLo ≤ x.fHi ∧ x.fHi ≤ 16384:=fun x hx => hok x (h2.mem_iff.1 hx)
 have hpw:=List.pairwise_iff_getElem.1 h3
 have hinv:=em (body:=gh l S)
  (fun st => ∃ (k : Nat) (out : List TSpan),st = ((k : Int),out) ∧ k ≤ S.length ∧ dl (-2) out = true ∧ (∀ n,pX out n ↔ pX (S.take k) n) ∧ out.length ≤ k ∧ ((out = [] ∧ k = 0) ∨ ∃ B z,out = B ++ [z] ∧ ∀ i,(hi : i < S.length) → k ≤ i → z.fLo ≤ S[i].fLo))
  (fun _ t => dl (-2) t.2 = true ∧ (∀ n,pX t.2 n ↔ pX S n) ∧ t.2.length ≤ S.length)
  (fun st => S.length - st.1.toNat) (by
   rintro _ ⟨k,out,rfl,hk,hb,hm,hol,hlast⟩
   unfold gh; dsimp only
   rcases Nat.lt_or_ge k S.length with hlt | hge
   ·have hx:=hokS _ (List.getElem_mem hlt)
    have htk : S.take (k + 1) = S.take k ++ [S[k]]:=List.take_succ_eq_append_getElem hlt
    rw [jz (by omega),gPo (by omega),bW hlt,du (by omega)]
    rcases hlast with ⟨rfl,rfl⟩ | ⟨B,z,rfl,hz⟩
    ·rw [if_neg (by simp),oB,if_neg (by simp),gPo (by simp)]
     refine .inl ⟨_,rfl,⟨1,_,rfl,by omega,?_,fun n => ?_,by simp,.inr ⟨[],_,rfl,fun i hi h0 => ?_⟩⟩,by dsimp only; omega,fun t h => h⟩
     ·rw [List.nil_append,dS]
      exact ⟨by dsimp only; omega,hx.2.1,hx.2.2,rfl⟩
     ·rw [htk,iy,iy]
      exact Iff.rfl
     ·have:=hpw 0 i hlt hi (by omega)
      exact this
    ·obtain ⟨b1,b2,b3,b4⟩:=kf.1 hb
     have hzk:=hz k hlt (Nat.le_refl _)
     have hl1 : (B ++ [z]).length = B.length + 1:=by simp
     have hz0:=o4 hb (by omega) z (by simp)
     have ew : w64 (((B ++ [z]).length : Int) - 1) = (B.length : Int):=by rw [hl1,dk (by omega) (by omega)]; omega
     have er : rdL (B ++ [z]) (B.length : Int) = z:=by rw [bW (by omega)]; simp
     have ez : w64 (z.fHi + 1) = z.fHi + 1:=dk (by omega) (by omega)
     rw [jz (by omega),ew,gPo (by omega),gPo (by omega),gPo (by omega),er,ez,oB]
     by_cases hc : (S[k]).fLo ≤ z.fHi + 1
     ·have eset : (B ++ [z]).set B.length (⟨z.fLo,max z.fHi (S[k]).fHi⟩ : TSpan) = B ++ [⟨z.fLo,max z.fHi (S[k]).fHi⟩]:=by
       rw [List.set_append_right _ _ (Nat.le_refl _),Nat.sub_self]; rfl
      rw [if_pos (decide_eq_true hc),Int.toNat_natCast,eset]
      refine .inl ⟨_,rfl,⟨k + 1,_,rfl,hlt,kf.2 ⟨b1,b2,by dsimp only; omega,by dsimp only; omega⟩,fun n => ?_,by simp at hol ⊢; omega,.inr ⟨B,_,rfl,fun i hi h0 => hz i hi (by omega)⟩⟩,by dsimp only; omega,fun t h => h⟩
      have:=hm n
      rw [iy,mC] at this
      rw [htk,iy,iy,mC,mC,← this]
      dsimp only
      constructor
      ·rintro (h | h)
       ·exact .inl (.inl h)
       ·by_cases h5 : n ≤ z.fHi
        ·exact .inl (.inr ⟨h.1,h5⟩)
        ·exact .inr (by omega)
      ·rintro ((h | h) | h)
       ·exact .inl h
       ·exact .inr (by omega)
       ·exact .inr (by omega)
     ·rw [if_neg (by simpa using hc),gPo (by omega)]
      refine .inl ⟨_,rfl,⟨k + 1,_,rfl,hlt,?_,fun n => ?_,by simp at hol ⊢; omega,.inr ⟨_,_,rfl,fun i hi h0 => ?_⟩⟩,by dsimp only; omega,fun t h => h⟩
      ·refine kf.2 ⟨hb,?_,hx.2.1,hx.2.2⟩
       rw [nU]; dsimp only; omega
      ·rw [htk,iy (A:=B ++ [z]),iy (A:=S.take k),hm n]
      ·have:=hpw k i hlt hi (by omega)
       exact this
   ·have hke : k = S.length:=by omega
    subst hke
    rw [List.take_length] at hm
    rw [kj (by omega)]
    exact .inr ⟨_,rfl,hb,hm,hol⟩) (0,[]) ⟨0,[],rfl,Nat.zero_le _,rfl,fun n => Iff.rfl,Nat.le_refl _,.inl ⟨rfl,rfl⟩⟩
 obtain ⟨t,ht,g1,g2,g3⟩:=hinv
 refine ⟨t.2,?_,g1,fun n => ?_,by omega⟩
 ·unfold f4 bC
  rw [gPo (by omega),oB,List.nil_append,gPo (by omega),h1,oB,ht]
  rfl
 ·rw [g2,← mC (z:=s),← iy]
  exact ⟨fun ⟨x,hx,h⟩ => ⟨x,h2.mem_iff.1 hx,h⟩,fun ⟨x,hx,h⟩ => ⟨x,h2.mem_iff.2 hx,h⟩⟩
def nq (r : TR) (k : Nat) (out : List TSpan) : TR:=⟨r.fL,r.fT.set k ⟨(r.fT.getD k default).fID,(r.fT.getD k default).fFrom,(r.fT.getD k default).fTo,(r.fT.getD k default).fLong,(r.fT.getD k default).fToll,out⟩⟩
theorem pz {r : TR} {k : Nat} (hk : k < r.fT.length) {out : List TSpan} {t : TT} (ht : t ∈ (nq r k out).fT) : t ∈ r.fT ∨ t = ⟨(r.fT[k]).fID,(r.fT[k]).fFrom,(r.fT[k]).fTo,(r.fT[k]).fLong,(r.fT[k]).fToll,out⟩:=by
 unfold nq at ht
 rw [fJ hk] at ht
 exact List.mem_or_eq_of_mem_set ht
theorem rQ {r : TR} (hR : GoodR r) {k : Nat} (hk : k < r.fT.length) {out : List TSpan} (h1 : dl (-2) out = true) (h2 : out.length ≤ 4) : GoodR (nq r k out):=by
 have ht:=hR.trk _ (List.getElem_mem hk)
 refine ⟨hR.places,by show (r.fT.set _ _).length ≤ 48; rw [List.length_set]; exact hR.len,fun t hm => ?_,?_⟩
 ·rcases pz hk hm with h | rfl
  ·exact hR.trk t h
  ·exact ⟨ht.id,ht.fr,ht.to,ht.ne,ht.long,ht.toll,h1,h2⟩
 ·have : (nq r k out).fT.map (·.fID) = r.fT.map (·.fID):=by
   unfold nq
   rw [fJ hk,List.map_set]
   refine List.ext_getElem (by simp) fun i a b => ?_
   rw [List.getElem_set]
   split
   ·rename_i e; subst e; simp
   ·rfl
  rw [this]
  exact hR.once
theorem Tr.shut {r : TR} {k : Nat} (hk : k < r.fT.length) {out : List TSpan} (ho : ∀ n,pX (r.fT[k]).fK n → pX out n) {f h p c a : Int} (ht : Tr (nq r k out) f h p c a) : Tr r f h p c a:=by
 induction ht with
 | start => exact .start
 | step t n _ hm hf hn he ih =>
  rcases pz hk hm with h | rfl
  ·exact .step t n ih h hf hn he
  ·have hfree:=(nu _ n).1 he
   exact .step (r.fT[k]) n ih (List.getElem_mem hk) hf hn ((nu _ n).2 fun h => hfree (ho n h))
theorem Shut_ok {r : TR} (hr : ∀ t ∈ r.fT,t.fK.length ≤ 1000000) (hR : GoodR r) {k : Nat} (hk : k < r.fT.length) (s : TSpan) : ∃ x e,jI r (r.fT[k]).fID s = some (x,e) ∧ (e = 0 → ∃ out,x = nq r k out ∧ dl (-2) out = true ∧ out.length ≤ 4 ∧ (∀ n,pX out n ↔ pX (r.fT[k]).fK n ∨ (s.fLo ≤ n ∧ n ≤ s.fHi)) ∧ f4 (r.fT[k]).fK s = some out):=by
 have ht:=hR.trk _ (List.getElem_mem hk)
 have hfw:=ht.few
 have hrl:=hR.len
 have hti : f0 r (r.fT[k]).fID = (k : Int):=lT hR.once hk
 unfold jI
 rw [qF hr,i6.2 hR,oB,if_neg (by simp),ra (by omega),hti,oB,if_neg (by simp),nf,nf,oB,oB,orB,oB,orB,oB]
 by_cases hs : ((decide (s.fHi < s.fLo) || !decide (0 ≤ s.fLo ∧ s.fLo ≤ 16384)) || !decide (0 ≤ s.fHi ∧ s.fHi ≤ 16384)) = true
 ·rw [if_pos hs]
  exact ⟨_,_,rfl,fun h => (by cases h)⟩
 ·rw [if_neg hs]
  have hs2:=Bool.eq_false_iff.2 hs
  simp only [Bool.or_eq_false_iff,Bool.not_eq_false',decide_eq_true_eq,decide_eq_false_iff_not] at hs2
  obtain ⟨out,h1,h2,h3,h4⟩:=tu (l:=(r.fT[k]).fK) (s:=s) (by omega) ht.spans (by omega)
  unfold a8
  rw [gPo (by omega),oB,List.nil_append]
  have hrun:=mI (body:=fk r.fT) (fun i => ((i : Int),r.fT)) r.fT.length (t:=((r.fT.length : Int),r.fT)) (fun i hi => by
   have:=(hR.trk _ (List.getElem_mem hi)).few
   unfold fk bC; dsimp only
   rw [jz (by omega),gPo (by omega),bW hi,gPo (by omega),oB,List.nil_append,gPo (by omega),du (by omega),Int.toNat_natCast,nZ,List.set_getElem_self]) (by
   unfold fk; dsimp only
   rw [kj (by omega)])
  have h0 : aT (fk r.fT) (0,r.fT) = _:=hrun
  rw [h0,oB]
  dsimp only
  rw [gPo (by omega),bW hk,h1,oB,gPo (by omega),gPo (by omega),Int.toNat_natCast]
  have eset : r.fT.set k (TT.mk (r.fT[k]).fID (r.fT[k]).fFrom (r.fT[k]).fTo (r.fT[k]).fLong (r.fT[k]).fToll out) = (nq r k out).fT:=by unfold nq; rw [fJ hk]
  have erd : rdL (r.fT.set k (TT.mk (r.fT[k]).fID (r.fT[k]).fFrom (r.fT[k]).fTo (r.fT[k]).fLong (r.fT[k]).fToll out)) (k : Int) = TT.mk (r.fT[k]).fID (r.fT[k]).fFrom (r.fT[k]).fTo (r.fT[k]).fLong (r.fT[k]).fToll out:=by
   rw [bW (by rw [List.length_set]; exact hk),List.getElem_set_self]
  rw [erd]
  dsimp only
  by_cases hc : 4 < ((out.length : Nat) : Int)
  ·rw [if_pos (decide_eq_true hc)]
   exact ⟨_,_,rfl,fun h => (by cases h)⟩
  ·rw [if_neg (by simpa using hc),eset]
   exact ⟨_,_,rfl,fun _ => ⟨out,rfl,h2,by omega,h3,rfl⟩⟩
set_option linter.unusedSimpArgs false
theorem hZ : bR = some true:=by kernel_rfl
set_option linter.unusedSimpArgs false
open Classical
theorem CartShuts_true (r : TR) (f to h p a : Int) (s : TSpan) (hr : si r) (h1 : bK f) (h2 : bK to) (h3 : bK h) (h4 : bK p) (h5 : Rg_u8 a) (h6 : TSpan_rg s) : dJ r f to h p a s = some true:=by
 obtain ⟨b,hb,hfew⟩:=few_eq (r:=r) hr.2.1
 unfold dJ
 rw [hb,oB]
 by_cases hc : ((!b) || (((r.fT.length : Nat) : Int) == 0)) = true
 ·rw [if_pos hc,hZ]; rfl
 ·rw [if_neg hc]
  simp only [Bool.not_eq_true,Bool.or_eq_false_iff,Bool.not_eq_false',beq_eq_false_iff_ne] at hc
  obtain ⟨rfl,hn⟩:=hc
  have hcl : ∀ t ∈ r.fT,t.fK.length ≤ 1000000:=fun t ht => by have:=hfew rfl t ht; omega
  have hpl:=rK hr.2.1 hb
  rcases lK hcl f to h p with ⟨hv,e⟩ | ⟨hA,⟨e,hL⟩ | ⟨j,e,hB⟩⟩
  ·rw [e,oB,if_pos (by simpa using hv),hZ]; rfl
  ·rw [e,oB,if_pos (by rfl),hZ]; rfl
  ·have hR:=hA.good
   have hrl:=hR.len
   have hpp:=hR.places
   have ha : w64 a = a:=dk (by have:=h5.1; omega) (by have:=h5.2; omega)
   rw [e,oB,if_neg (by simp),ha]
   have hk1 : 0 ≤ Int.tmod a ((r.fT.length : Nat) : Int):=Int.tmod_nonneg _ h5.1
   have hk2 : Int.tmod a ((r.fT.length : Nat) : Int) < ((r.fT.length : Nat) : Int):=Int.tmod_lt_of_pos _ (by omega)
   obtain ⟨k,hk⟩ : ∃ k : Nat,Int.tmod a ((r.fT.length : Nat) : Int) = (k : Int):=⟨(Int.tmod a ((r.fT.length : Nat) : Int)).toNat,by omega⟩
   rw [hk] at hk2 ⊢
   have hk3 : k < r.fT.length:=by omega
   have hless : GoodR (nt r k):=n2 hR k
   -- what comes last
   have rest : ((dN r f to h p).bind fun y55 => ak ((0 : Int) ≤ (k : Int) ∧ (k : Int) ≤ ((r.fT.length : Nat) : Int)) (ak (0 + (Int.toNat (k : Int)) ≤ 1000000000) (ak ((0 : Int) ≤ w64 ((k : Int) + 1) ∧ w64 ((k : Int) + 1) ≤ ((r.fT.length : Nat) : Int)) (ak ((0 + (Int.toNat (k : Int))) + (r.fT.length - Int.toNat (w64 ((k : Int) + 1))) ≤ 1000000000) (((c8 (TR.mk r.fL ((([] : List TT) ++ (r.fT.take (Int.toNat (k : Int)))) ++ (r.fT.drop (Int.toNat (w64 ((k : Int) + 1)))))) f to h p).bind fun y72 => ((bR).bind fun y84 => ((if (y84 && (y55.2 == 0)) = true then (ak ((0 : Int) ≤ (k : Int) ∧ (k : Int) < ((r.fT.length : Nat) : Int)) (((db y55.1 ((rdL r.fT (k : Int)).fID)).bind fun y94 => some ((!(((y72.2 == 0) && (y72.1.fA == j.fA)) == y94)))))) else (some (false))).bind fun b88 => some (b88 && ((y72.2 == 5) || ((y72.2 == 0) && (decide (j.fA ≤ y72.1.fA)))))))))))))  = some true:=by
    have hnf:=qL hR hA.fr hB.pos hB.least
    have hlen : (ph (iC r.fT.length (tid r) fun k => decide (kM r f to h p j.fA k))).length < 1000000000:=by
     rw [(jQ _).length_eq]; omega
    rw [sQ hcl hA (by omega) e hB,oB,gPo (by omega),gPo (by omega),du (by omega),gPo (by omega),gPo (by omega),Int.toNat_natCast,List.nil_append]
    rw [show (((k + 1 : Nat) : Int)).toNat = k + 1 from Int.toNat_natCast _,show TR.mk r.fL (r.fT.take k ++ r.fT.drop (k + 1)) = nt r k from rfl]
    have hcl2 : ∀ t ∈ (nt r k).fT,t.fK.length ≤ 1000000:=fun t ht => hcl t ((jT r k).subset ht)
    have hA2 : AskedOk (nt r k) f to h p:=⟨hless,hA.fr,hA.to,hA.hour,hA.purse⟩
    have hhas : db (ph (iC r.fT.length (tid r) fun k => decide (kM r f to h p j.fA k))) (r.fT[k]).fID = some (decide (kM r f to h p j.fA k)):=by
     rw [has_eq hlen]
     refine congrArg some (decide_eq_decide.2 ?_)
     rw [srtI_mem,mV]
     constructor
     ·rintro ⟨i,hi,g1,g2⟩
      rw [← oc hk3] at g2
      have:=tj hR hi hk3 g2
      subst this
      exact of_decide_eq_true g1
     ·exact fun g => ⟨k,hk3,decide_eq_true g,oc hk3⟩
    rcases lK hcl2 f to h p with ⟨hv2,_⟩ | ⟨_,⟨e2,hL2⟩ | ⟨j2,e2,hB2⟩⟩
    ·exact absurd (lE.2 hA2) hv2
    ·have hN : kM r f to h p j.fA k:=fun hh => by
      have:=hh.unique hL2
      have:=hB.pos
      omega
     rw [e2,oB,hZ,oB,if_pos (by rfl),gPo (by omega),bW hk3]
     dsimp only
     rw [hhas,oB,decide_eq_true hN]
     rfl
    ·obtain ⟨c',b1,b2⟩:=hB2.least.some hB2.pos
     have b3:=b2.sub (r:=r) fun t ht => (jT r k).subset ht
     have hge:=(hB.least.all c' _ b3 b1 hB2.least.hi).2
     rw [e2,oB,hZ,oB,if_pos (by rfl),gPo (by omega),bW hk3]
     dsimp only
     rw [hhas,oB,oB]
     refine congrArg some ?_
     by_cases hq : j2.fA = j.fA
     ·have hN : ¬ kM r f to h p j.fA k:=fun hh => hh (by rw [← hq]; exact hB2.least)
      rw [decide_eq_false hN,decide_eq_true hge,hq]
      simp
     ·have hN : kM r f to h p j.fA k:=fun hh => hq (hB2.least.unique hh)
      rw [decide_eq_true hN,decide_eq_true hge,beq_eq_false_iff_ne.2 hq]
      rfl
   rw [gPo (by omega),gPo (by omega),bW hk3]
   obtain ⟨x,e0,hS,hS0⟩:=Shut_ok hcl hR hk3 s
   rw [hS,oB]
   rw [bW hk3] at rest
   by_cases he : e0 = 0
   ·obtain ⟨out,rfl,g1,g2,g3,_⟩:=hS0 he
    subst he
    have hG:=rQ hR hk3 g1 g2
    have hcl2 : ∀ t ∈ (nq r k out).fT,t.fK.length ≤ 1000000:=fun t ht => by have:=(hG.trk t ht).few; omega
    have hA2 : AskedOk (nq r k out) f to h p:=⟨hG,hA.fr,hA.to,hA.hour,hA.purse⟩
    rw [if_pos (by rfl)]
    rcases lK hcl2 f to h p with ⟨hv2,_⟩ | ⟨_,⟨e2,hL2⟩ | ⟨j2,e2,hB2⟩⟩
    ·exact absurd (lE.2 hA2) hv2
    ·rw [e2,oB,if_neg (by simp)]
     exact rest
    ·obtain ⟨c',b1,b2⟩:=hB2.least.some hB2.pos
     have b3:=Tr.shut hk3 (fun n hn => (g3 n).2 (.inl hn)) b2
     have hge:=(hB.least.all c' _ b3 b1 hB2.least.hi).2
     rw [e2,oB,if_neg (by simp; omega)]
     exact rest
   ·rw [if_neg (by simpa using he)]
    exact rest
end Go.Proofs.YthndghnkebboaabGreat
