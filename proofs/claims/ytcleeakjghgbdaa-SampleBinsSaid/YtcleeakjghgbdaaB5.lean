import Derived.Test.YtcleeakjghgbdaaB4
set_option linter.unusedSimpArgs false
set_option linter.unusedVariables false
namespace Go.Proofs.Ytcleeakjghgbdaa
theorem g1 (b:TBatch):TBatch.mk b.fBarrows (TKinds.mk b.fSeen.x0 b.fSeen.x1 b.fSeen.x2) (TArr3_TSpan.mk (TSpan.mk b.fKnown.x0.fLo b.fKnown.x0.fHi) (TSpan.mk b.fKnown.x1.fLo b.fKnown.x1.fHi) (TSpan.mk b.fKnown.x2.fLo b.fKnown.x2.fHi))=b := rfl
theorem kD (k:TKinds):TKinds.mk k.x0 k.x1 k.x2=k := rfl
theorem New_spec (b:TBatch):eS b=some (if bT b=0 then(some ⟨b, []⟩, 0)else(none, bT b)) := by
  unfold eS
  rw[dB, Option.bind_some]
  by_cases h:bT b=0
  · rw[if_neg (by simp[h]), if_pos h]
  · rw[if_pos (by simpa using h), if_neg h]
theorem Clone_eq {s:List TKinds} (hl:s.length≤1000000000):ba s=some s := by
  unfold ba
  simp[ah, hl]
theorem iD (B:TBatch) {T:List TKinds} (hT:T.length≤1000) (k:TKinds):bK ⟨B, T⟩ k=some (if 40≤(T.length:Int)then(2, ⟨B, T⟩)else if(gd B k).2≠0 then((gd B k).2, ⟨B, T⟩)else(0, ⟨(gd B k).1, T++[k]⟩)) := by
  unfold bK dn
  by_cases h:40≤(T.length:Int)
  · rw[eW h, if_pos h]
  · rw[gu h, if_neg h]
    dsimp only
    rw[kM, Option.bind_some, Option.bind_some]
    dsimp only
    by_cases h2:(gd B k).2=0
    · rw[if_neg (by simp[h2]), if_neg (by simp[h2]), Clone_eq (by omega), Option.bind_some, ah (by omega)]
    · rw[if_pos (by simpa using h2), if_pos h2]
theorem Back_nil (B:TBatch):bp ⟨B, []⟩=some (4, ⟨B, []⟩) := rfl
theorem kT {P:TBatch} {T:List TKinds} {k:TKinds} (hT:1≤T.length) (hT2:T.length≤1000) (hk:rdL T ((T.length-1:Nat):Int)=k) (h0:0≤P.fSeen.x0∧P.fSeen.x0≤100) (h1:0≤P.fSeen.x1∧P.fSeen.x1≤100) (h2:0≤P.fSeen.x2∧P.fSeen.x2≤100):bp ⟨ef P k, T⟩=some (0, ⟨P, T.take (T.length-1)⟩) := by
  have ew:w64 (((T.length:Nat):Int)-1)=((T.length-1:Nat):Int) := by rw[bJ (by omega) (by omega)];omega
  have d0:w64 (P.fSeen.x0+k.x0-k.x0)=P.fSeen.x0 := by rw[show P.fSeen.x0+k.x0-k.x0=P.fSeen.x0 by omega];exact bJ (by omega) (by omega)
  have d1:w64 (P.fSeen.x1+k.x1-k.x1)=P.fSeen.x1 := by rw[show P.fSeen.x1+k.x1-k.x1=P.fSeen.x1 by omega];exact bJ (by omega) (by omega)
  have d2:w64 (P.fSeen.x2+k.x2-k.x2)=P.fSeen.x2 := by rw[show P.fSeen.x2+k.x2-k.x2=P.fSeen.x2 by omega];exact bJ (by omega) (by omega)
  have e0:aF ⟨ef P k, T⟩ (0, P.fSeen.x0+k.x0, P.fSeen.x1+k.x1, P.fSeen.x2+k.x2)=some (.inl (1, P.fSeen.x0, P.fSeen.x1+k.x1, P.fSeen.x2+k.x2)) := by
    unfold aF;dsimp only
    rw[eW (by omega), ah (by omega), ah (by omega), ah (by omega), ew, hk]
    show some (Sum.inl (w64 (0+1), w64 (P.fSeen.x0+k.x0-k.x0), P.fSeen.x1+k.x1, P.fSeen.x2+k.x2))=_
    rw[d0]
    rfl
  have e1:aF ⟨ef P k, T⟩ (1, P.fSeen.x0, P.fSeen.x1+k.x1, P.fSeen.x2+k.x2)=some (.inl (2, P.fSeen.x0, P.fSeen.x1, P.fSeen.x2+k.x2)) := by
    unfold aF;dsimp only
    rw[eW (by omega), ah (by omega), ah (by omega), ah (by omega), ew, hk]
    show some (Sum.inl (w64 (1+1), P.fSeen.x0, w64 (P.fSeen.x1+k.x1-k.x1), P.fSeen.x2+k.x2))=_
    rw[d1]
    rfl
  have e2:aF ⟨ef P k, T⟩ (2, P.fSeen.x0, P.fSeen.x1, P.fSeen.x2+k.x2)=some (.inl (3, P.fSeen.x0, P.fSeen.x1, P.fSeen.x2)) := by
    unfold aF;dsimp only
    rw[eW (by omega), ah (by omega), ah (by omega), ah (by omega), ew, hk]
    show some (Sum.inl (w64 (2+1), P.fSeen.x0, P.fSeen.x1, w64 (P.fSeen.x2+k.x2-k.x2)))=_
    rw[d2]
    rfl
  have e3:aF ⟨ef P k, T⟩ (3, P.fSeen.x0, P.fSeen.x1, P.fSeen.x2)=some (.inr (3, P.fSeen.x0, P.fSeen.x1, P.fSeen.x2)) := by
    unfold aF;dsimp only
    rw[gu (by omega)]
  have hloop:aZ (aF ⟨ef P k, T⟩) (0, (ef P k).fSeen.x0, (ef P k).fSeen.x1, (ef P k).fSeen.x2)=some (3, P.fSeen.x0, P.fSeen.x1, P.fSeen.x2) := by
    show aZ (aF ⟨ef P k, T⟩) (0, P.fSeen.x0+k.x0, P.fSeen.x1+k.x1, P.fSeen.x2+k.x2)=_
    rw[aC e0, aC e1, aC e2, bk e3]
  unfold bp
  dsimp only
  rw[if_neg (by simp;intro e;rw[e]at hT;simp at hT), ah (by omega), hloop, Option.bind_some, ah (by omega), ew, Int.toNat_natCast]
  rfl
structure Inv (B:TBatch) (T:List TKinds) (Ls:List TBatch):Prop where
  len:Ls.length=T.length+1
  le:T.length≤40
  last:rdL Ls ((T.length:Nat):Int)=B
  chk:∀j:Nat, j<Ls.length→bT (rdL Ls (j:Int))=0
  step:∀j:Nat, j<T.length→rdL Ls ((j+1:Nat):Int)=ef (rdL Ls (j:Int)) (rdL T (j:Int))
theorem f6 {α:Type} [Inhabited α] {xs:List α} {n j:Nat} (h:j<n):rdL (xs.take n) (j:Int)=rdL xs (j:Int) := by
  unfold rdL
  rw[Int.toNat_natCast, List.getD_eq_getElem?_getD, List.getD_eq_getElem?_getD, List.getElem?_take_of_lt h]
theorem gX {α:Type} [Inhabited α] {xs:List α} {x:α} {j:Nat}:rdL (xs++[x]) (j:Int)=if j<xs.length then rdL xs (j:Int)else if j=xs.length then x else default := by
  unfold rdL
  rw[Int.toNat_natCast, List.getD_eq_getElem?_getD, List.getD_eq_getElem?_getD]
  by_cases h:j<xs.length
  · rw[if_pos h, List.getElem?_append_left h]
  · rw[if_neg h]
    by_cases e:j=xs.length
    · subst e;simp
    · rw[if_neg e, List.getElem?_eq_none (by simp;omega)]
      rfl
theorem Inv.start {b:TBatch} (h:bT b=0):Inv b [] [b] := ⟨E, by simp, E, fun j hj=>by
  have:j=0 := by simp at hj;omega
  subst this;exact h, fun j hj=>by simp at hj⟩
theorem Inv.back {B:TBatch} {T:List TKinds} {Ls:List TBatch} (h:Inv B T Ls) (hT:1≤T.length):Inv (rdL Ls ((T.length-1:Nat):Int)) (T.take (T.length-1)) (Ls.take (Ls.length-1))∧B=ef (rdL Ls ((T.length-1:Nat):Int)) (rdL T ((T.length-1:Nat):Int)) := by
  have h1 := h.len
  have h2 := h.le
  have hs := h.step (T.length-1) (by omega)
  rw[show T.length-1+1=T.length by omega, h.last]at hs
  have lt:(T.take (T.length-1)).length=T.length-1 := by rw[List.length_take];omega
  have ll:(Ls.take (Ls.length-1)).length=Ls.length-1 := by rw[List.length_take];omega
  refine⟨⟨by omega, by omega, ?_, fun j hj=>?_, fun j hj=>?_⟩, hs⟩
  · rw[lt, f6 (by omega)]
  · rw[f6 (by omega)]
    exact h.chk j (by omega)
  · rw[f6 (by omega), f6 (by omega), f6 (by omega)]
    exact h.step j (by omega)
theorem Inv.draw {B:TBatch} {T:List TKinds} {Ls:List TBatch} (h:Inv B T Ls) (hT:T.length<40) {k:TKinds} (hm:(gd B k).2=0):Inv (gd B k).1 (T++[k]) (Ls++[(gd B k).1]) := by
  obtain⟨m1, m2, m3, m4, m5⟩ := More_0 hm
  have h1 := h.len
  rw[m5]
  dsimp only
  refine⟨by simp;omega, by simp;omega, ?_, fun j hj=>?_, fun j hj=>?_⟩
  · rw[List.length_append, gX, if_neg (by simp;omega), if_pos (by simp;omega)]
  · rw[gX]
    by_cases e:j<Ls.length
    · rw[if_pos e];exact h.chk j e
    · rw[if_neg e, if_pos (by simp at hj;omega)];exact m4
  · rw[gX, gX, gX]
    simp at hj
    by_cases e:j<T.length
    · rw[if_pos (by omega), if_pos (by omega), if_pos e]
      exact h.step j e
    · have:j=T.length := by omega
      subst this
      rw[if_neg (by omega), if_pos (by omega), if_pos (by omega), if_neg (by omega), if_pos E, h.last]
end Go.Proofs.Ytcleeakjghgbdaa
