import Derived.Test.YtcleeakjghgbdaaB1
set_option linter.unusedSimpArgs false
set_option linter.unusedVariables false
namespace Go.Proofs.Ytcleeakjghgbdaa
theorem kg {S T:Type} {body:S→Option (S ⊕ T)} (st:Nat→S):∀(n:Nat), (∀k, k<n→body (st k)=some (.inl (st (k+1))))→aZ body (st 0)=aZ body (st n)
  | 0, _=>rfl
  | n+1, h=>by rw[kg st n (fun k hk=>h k (by omega)), aC (h n (by omega))]
theorem ko {S T:Type} {body:S→Option (S ⊕ T)} (st:Nat→S) (n:Nat) {t:T} (h:∀k, k<n→body (st k)=some (.inl (st (k+1)))) (hs:body (st n)=some (.inr t)):aZ body (st 0)=some t := by
  rw[kg st n h, bk hs]
theorem eW {α:Type} {p:Prop} [Decidable p] {x y:α} (h:p):(if decide p=true then x else y)=x := by rw[if_pos (decide_eq_true h)]
theorem gu {α:Type} {p:Prop} [Decidable p] {x y:α} (h:¬p):(if decide p=true then x else y)=y := by rw[if_neg (by rw[decide_eq_false h];exact Bool.false_ne_true)]
theorem bnd {α β:Type} {x:Option α} {a:α} {f:α→Option β} (h:x=some a):x.bind f=f a := by rw[h];rfl
theorem jz {k:Nat} (h:k<9223372036854775807):w64 ((k:Int)+1)=((k+1:Nat):Int) := by
  rw[bJ (by omega) (by omega)];rfl
theorem kR (n lo hi:Int):aQ n lo hi=some (decide (lo≤n∧n≤hi)) := by
  unfold aQ;rw[Bool.decide_and]
theorem j3 {k:TKinds} (h:0≤k.x0∧0≤k.x1∧0≤k.x2):bc k=some (min k.x0 51+min k.x1 51+min k.x2 51) := lh (by omega) (by omega) (by omega)
theorem kU {k:TKinds} (h:0≤k.x0∧0≤k.x1∧0≤k.x2):dl k=some (min k.x0 51+min k.x1 51+min k.x2 51) := by
  have st:∀(n i v:Int), 0≤i∧i<3→aH k.x0 k.x1 k.x2 i=v→0≤v→0≤n∧n≤1000→dg k (n, i)=some (.inl (n+min v 51, i+1)) := by
    intro n i v hi hv h0 hn
    unfold dg;dsimp only
    rw[eW hi.2, ah hi, hv, bJ (by omega) (by omega), bJ (by omega) (by omega)]
  have e0 := st 0 0 k.x0 (by decide) E h.1 (by omega)
  have e1 := st (0+min k.x0 51) (0+1) k.x1 (by decide) E h.2.1 (by omega)
  have e2 := st (0+min k.x0 51+min k.x1 51) (0+1+1) k.x2 (by decide) E h.2.2 (by omega)
  have e3:dg k (0+min k.x0 51+min k.x1 51+min k.x2 51, 0+1+1+1)=some (.inr (0+min k.x0 51+min k.x1 51+min k.x2 51, 0+1+1+1)) := by
    unfold dg;dsimp only
    rw[gu (by decide)]
  unfold dl
  rw[aC e0, aC e1, aC e2, bk e3, Int.zero_add]
  rfl
def OkK (b:TBatch) (k:TKinds):Prop :=
  (b.fSeen.x0≤k.x0∧b.fKnown.x0.fLo≤k.x0∧k.x0≤b.fKnown.x0.fHi)∧(b.fSeen.x1≤k.x1∧b.fKnown.x1.fLo≤k.x1∧k.x1≤b.fKnown.x1.fHi)∧(b.fSeen.x2≤k.x2∧b.fKnown.x2.fLo≤k.x2∧k.x2≤b.fKnown.x2.fHi)
instance (b:TBatch) (k:TKinds):Decidable (OkK b k) := by unfold OkK;infer_instance
def mkK (b:TBatch) (x y:Nat):TKinds := ⟨x, y, b.fBarrows-x-y⟩
def wY (b:TBatch) (x:Nat) (l:List Nat):List TKinds := (l.map (mkK b x)).filter fun k=>decide (OkK b k)
def wX (b:TBatch) (l:List Nat):List TKinds := l.flatMap fun x=>wY b x (List.range (b.fBarrows.toNat+1-x))
def wl (b:TBatch):List TKinds := wX b (List.range (b.fBarrows.toNat+1))
theorem i8 (b:TBatch) (x:Nat) (l m:List Nat):wY b x (l++m)=wY b x l++wY b x m := by simp[wY]
theorem g5 {b:TBatch} {x:Nat} {l:List Nat} (h:∀y∈l, ¬OkK b (mkK b x y)):wY b x l=[] := by
  unfold wY
  rw[List.filter_eq_nil_iff]
  intro k hk
  obtain⟨y, hy, rfl⟩ := List.mem_map.1 hk
  simpa using h y hy
theorem kv (b:TBatch) (l m:List Nat):wX b (l++m)=wX b l++wX b m := by simp[wX]
theorem jV {b:TBatch} {l:List Nat} (h:∀x∈l, ∀y, ¬OkK b (mkK b x y)):wX b l=[] := by
  unfold wX
  rw[List.flatMap_eq_nil_iff]
  exact fun x hx=>g5 (fun y _=>h x hx y)
theorem whY_eq {b:TBatch} (hb:be b) {x:Nat} (hx0:max b.fSeen.x0 b.fKnown.x0.fLo≤(x:Int)) (hx1:(x:Int)≤b.fKnown.x0.fHi):∀(c:Nat) (y:Nat), max b.fSeen.x1 b.fKnown.x1.fLo≤(y:Int)→(y:Int)+c≤b.fKnown.x1.fHi+1→dh b x c y=wY b x (List.range' y c)
  | 0, y, _, _=>rfl
  | c+1, y, h0, h1=>by
    have ih := whY_eq hb hx0 hx1 c (y+1) (by omega) (by omega)
    unfold dh
    rw[List.range'_succ, show y::List.range' (y+1) c=[y]++List.range' (y+1) c from E, i8, ←ih]
    congr 1
    unfold wY mkK
    rw[List.map_cons, List.map_nil]
    by_cases h:max b.fSeen.x2 b.fKnown.x2.fLo≤b.fBarrows-x-y∧b.fBarrows-x-y≤b.fKnown.x2.fHi
    · rw[if_pos h, List.filter_cons_of_pos]
      · rfl
      · apply decide_eq_true
        unfold OkK
        dsimp only
        omega
    · rw[if_neg h, List.filter_cons_of_neg]
      · rfl
      · rw[decide_eq_true_eq]
        unfold OkK
        dsimp only
        omega
theorem gq {n a c:Nat} (h:a+c≤n):List.range n=List.range' 0 a++(List.range' a c++List.range' (a+c) (n-(a+c))) := by
  have h1:List.range' a c++List.range' (a+c) (n-(a+c))=List.range' a (n-a) := by
    rw[List.range'_append_1];congr 1;omega
  have h2:List.range' 0 a++List.range' (0+a) (n-a)=List.range' 0 (a+(n-a)) := List.range'_append_1
  rw[Nat.zero_add]at h2
  rw[h1, h2, List.range_eq_range']
  congr 1
  omega
theorem whY_all {b:TBatch} (hb:be b) {x:Nat} (hx0:max b.fSeen.x0 b.fKnown.x0.fLo≤(x:Int)) (hx1:(x:Int)≤b.fKnown.x0.fHi) :
    dh b x (b.fKnown.x1.fHi+1-max b.fSeen.x1 b.fKnown.x1.fLo).toNat (max b.fSeen.x1 b.fKnown.x1.fLo)=wY b x (List.range (b.fBarrows.toNat+1-x)) := by
  have hb' := hb
  unfold be at hb'
  obtain⟨lo, hlo⟩:∃lo:Nat, (lo:Int)=max b.fSeen.x1 b.fKnown.x1.fLo := ⟨(max b.fSeen.x1 b.fKnown.x1.fLo).toNat, by omega⟩
  rw[←hlo]
  by_cases hc:(lo:Int)≤b.fKnown.x1.fHi
  · have h1 := whY_eq hb hx0 hx1 (b.fKnown.x1.fHi+1-lo).toNat lo (by omega) (by omega)
    rw[h1]
    -- up to the barrows
    have h2:wY b x (List.range (b.fBarrows.toNat+1))=wY b x (List.range' lo (b.fKnown.x1.fHi+1-lo).toNat) := by
      rw[gq (n := b.fBarrows.toNat+1) (a := lo) (c := (b.fKnown.x1.fHi+1-lo).toNat) (by omega), i8, i8, g5 (l := List.range' 0 lo), g5 (l := List.range' (lo+_) _)]
      · simp
      · intro y hy
        have := List.mem_range'_1.1 hy
        unfold OkK mkK
        dsimp only
        omega
      · intro y hy
        have := List.mem_range'_1.1 hy
        unfold OkK mkK
        dsimp only
        omega
    rw[←h2, gq (n := b.fBarrows.toNat+1) (a := b.fBarrows.toNat+1-x) (c := x) (by omega), i8, List.range_eq_range', i8, g5 (l := List.range' _ x), g5 (l := List.range' (_+x) _)]
    · simp
    · intro y hy
      have := List.mem_range'_1.1 hy
      unfold OkK mkK
      dsimp only
      omega
    · intro y hy
      have := List.mem_range'_1.1 hy
      unfold OkK mkK
      dsimp only
      omega
  · rw[show(b.fKnown.x1.fHi+1-(lo:Int)).toNat=0 by omega, g5]
    · rfl
    · intro y hy
      unfold OkK mkK
      dsimp only
      omega
theorem whX_eq {b:TBatch} (hb:be b):∀(c:Nat) (x:Nat), max b.fSeen.x0 b.fKnown.x0.fLo≤(x:Int)→(x:Int)+c≤b.fKnown.x0.fHi+1→di b c x=wX b (List.range' x c)
  | 0, x, _, _=>rfl
  | c+1, x, h0, h1=>by
    have ih := whX_eq hb c (x+1) (by omega) (by omega)
    unfold di
    rw[List.range'_succ, show x::List.range' (x+1) c=[x]++List.range' (x+1) c from E, kv, ←ih, whY_all hb h0 (by omega)]
    congr 1
    simp[wX]
theorem wh_eq {b:TBatch} (hb:be b):dG b=wl b := by
  have hb' := hb
  unfold be at hb'
  unfold dG wl
  obtain⟨lo, hlo⟩:∃lo:Nat, (lo:Int)=max b.fSeen.x0 b.fKnown.x0.fLo := ⟨(max b.fSeen.x0 b.fKnown.x0.fLo).toNat, by omega⟩
  rw[←hlo]
  by_cases hc:(lo:Int)≤b.fKnown.x0.fHi
  · rw[whX_eq hb (b.fKnown.x0.fHi+1-lo).toNat lo (by omega) (by omega)]
    rw[gq (n := b.fBarrows.toNat+1) (a := lo) (c := (b.fKnown.x0.fHi+1-lo).toNat) (by omega), kv, kv, jV (l := List.range' 0 lo), jV (l := List.range' (lo+_) _)]
    · simp
    · intro x hx y
      have := List.mem_range'_1.1 hx
      unfold OkK mkK
      dsimp only
      omega
    · intro x hx y
      have := List.mem_range'_1.1 hx
      unfold OkK mkK
      dsimp only
      omega
  · rw[show(b.fKnown.x0.fHi+1-(lo:Int)).toNat=0 by omega, jV]
    · rfl
    · intro x hx y
      unfold OkK mkK
      dsimp only
      omega
def dM (b:TBatch):Prop := (1≤b.fBarrows∧b.fBarrows≤50)∧(0≤b.fSeen.x0∧0≤b.fSeen.x1∧0≤b.fSeen.x2)∧min b.fSeen.x0 51+min b.fSeen.x1 51+min b.fSeen.x2 51≤b.fBarrows
instance (b:TBatch):Decidable (dM b) := by unfold dM;infer_instance
def i5 (b:TBatch) (s:TSpan):Prop := 0≤s.fLo∧s.fLo≤s.fHi∧s.fHi≤b.fBarrows
instance (b:TBatch) (s:TSpan):Decidable (i5 b s) := by unfold i5;infer_instance
def dw (b:TBatch):Prop := i5 b b.fKnown.x0∧i5 b b.fKnown.x1∧i5 b b.fKnown.x2
instance (b:TBatch):Decidable (dw b) := by unfold dw;infer_instance
def bT (b:TBatch):Int := if dM b then if dw b then if wl b=[]then 9 else 0 else 1 else 1
theorem okB_of {b:TBatch} (h:dM b) (h':dw b):be b := by
  unfold dM at h
  unfold dw i5 at h'
  unfold be
  omega
theorem Check_0 {b:TBatch}:bT b=0↔dM b∧dw b∧wl b≠[] := by
  unfold bT
  by_cases h:dM b
  · by_cases h':dw b
    · by_cases h'':wl b=[]
      · simp[h, h', h'']
      · simp[h, h', h'']
    · simp[h, h']
  · simp[h]
theorem iA (k:TKinds):bd k=some (decide (0≤k.x0∧0≤k.x1∧0≤k.x2)) := jv k
theorem fi (b:TBatch) (i e:Int) (s:TSpan) (hi:0≤i∧i<3) (h1:aH b.fKnown.x0.fLo b.fKnown.x1.fLo b.fKnown.x2.fLo i=s.fLo) (h2:aH b.fKnown.x0.fHi b.fKnown.x1.fHi b.fKnown.x2.fHi i=s.fHi) :
    cb b (i, e)=if i5 b s then some (.inl (i+1, e))else some (.inr (.inl (i, 1))) := by
  unfold cb;dsimp only
  rw[eW hi.2, ah hi, h1, h2, bJ (by omega) (by omega)]
  by_cases h:i5 b s
  · rw[if_pos h]
    unfold i5 at h
    rw[if_neg (by simp;omega)]
  · rw[if_neg h]
    unfold i5 at h
    rw[if_pos (by simp;omega)]
theorem jE (b:TBatch):(dw b∧aZ (cb b) (0, 0)=some (.inr (3, 0)))∨(¬dw b∧∃i, aZ (cb b) (0, 0)=some (.inl (i, 1))) := by
  have e0 := fi b 0 0 b.fKnown.x0 (by decide) E E
  have e1 := fi b (0+1) 0 b.fKnown.x1 (by decide) E E
  have e2 := fi b (0+1+1) 0 b.fKnown.x2 (by decide) E E
  unfold dw
  by_cases h0:i5 b b.fKnown.x0
  · rw[if_pos h0]at e0
    by_cases h1:i5 b b.fKnown.x1
    · rw[if_pos h1]at e1
      by_cases h2:i5 b b.fKnown.x2
      · rw[if_pos h2]at e2
        refine .inl ⟨⟨h0, h1, h2⟩, ?_⟩
        rw[aC e0, aC e1, aC e2]
        exact bk E
      · rw[if_neg h2]at e2
        exact .inr ⟨fun h=>h2 h.2.2, _, by rw[aC e0, aC e1];exact bk e2⟩
    · rw[if_neg h1]at e1
      exact .inr ⟨fun h=>h1 h.2.1, _, by rw[aC e0];exact bk e1⟩
  · rw[if_neg h0]at e0
    exact .inr ⟨fun h=>h0 h.1, _, bk e0⟩
theorem dB (b:TBatch):bB b=some (bT b) := by
  unfold bB
  rw[kR, bnd E, iA]
  unfold bT
  by_cases hN:1≤b.fBarrows∧b.fBarrows≤50
  · rw[decide_eq_true hN]
    by_cases hs:0≤b.fSeen.x0∧0≤b.fSeen.x1∧0≤b.fSeen.x2
    · rw[decide_eq_true hs, j3 hs]
      simp only[Option.bind_some, Bool.not_true, Bool.false_eq_true, if_false]
      by_cases hz:min b.fSeen.x0 51+min b.fSeen.x1 51+min b.fSeen.x2 51≤b.fBarrows
      · have hok:dM b := ⟨hN, hs, hz⟩
        rw[if_pos hok, gu (by omega)]
        rcases jE b with⟨hk, hr⟩|⟨hk, i, hr⟩
        · rw[hr, if_pos hk]
          dsimp only[Option.bind_some]
          unfold ci
          dsimp only[Option.bind_some]
          rw[ah (okB_of hok hk), wh_eq (okB_of hok hk)]
          cases hw:wl b with
          | nil=>rfl
          | cons x xs=>rfl
        · rw[hr, if_neg hk]
          rfl
      · rw[if_neg (fun h:dM b=>hz h.2.2), eW (by omega)]
    · rw[decide_eq_false hs, if_neg (fun h:dM b=>hs h.2.1)]
      rfl
  · rw[decide_eq_false hN, if_neg (fun h:dM b=>hN h.1)]
    rfl
end Go.Proofs.Ytcleeakjghgbdaa
