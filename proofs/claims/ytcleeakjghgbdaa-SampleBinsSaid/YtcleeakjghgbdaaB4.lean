import Derived.Test.YtcleeakjghgbdaaB3
set_option linter.unusedSimpArgs false
set_option linter.unusedVariables false
namespace Go.Proofs.Ytcleeakjghgbdaa
def zB:TBatch := ⟨0, ⟨0, 0, 0⟩, ⟨⟨0, 0⟩, ⟨0, 0⟩, ⟨0, 0⟩⟩⟩
def addK (a b:TKinds):TKinds := ⟨a.x0+b.x0, a.x1+b.x1, a.x2+b.x2⟩
def eR (k:TKinds):Int := min k.x0 51+min k.x1 51+min k.x2 51
def ef (b:TBatch) (k:TKinds):TBatch := ⟨b.fBarrows, addK b.fSeen k, b.fKnown⟩
def gd (b:TBatch) (k:TKinds):TBatch × Int :=
  if bT b≠0 then(zB, bT b)else if ¬(0≤k.x0∧0≤k.x1∧0≤k.x2)then(zB, 1)else if b.fBarrows-eR b.fSeen<eR k then(zB, 3)
  else if bT (ef b k)≠0 then(zB, bT (ef b k))else(ef b k, 0)
theorem iI (k:TKinds) (a b c:Int) (h:(0≤k.x0∧k.x0≤51)∧(0≤k.x1∧k.x1≤51)∧(0≤k.x2∧k.x2≤51)) (h':(0≤a∧a≤51)∧(0≤b∧b≤51)∧(0≤c∧c≤51)) :
    aZ (aX k) (0, a, b, c)=some (3, a+k.x0, b+k.x1, c+k.x2) := by
  have e0:aX k (0, a, b, c)=some (.inl (1, a+k.x0, b, c)) := by
    unfold aX;dsimp only
    rw[eW (by omega), ah (by omega), ah (by omega), ah (by omega)]
    show some (Sum.inl (w64 (0+1), w64 (a+k.x0), b, c))=_
    rw[bJ (x := a+k.x0) (by omega) (by omega)]
    rfl
  have e1:aX k (1, a+k.x0, b, c)=some (.inl (2, a+k.x0, b+k.x1, c)) := by
    unfold aX;dsimp only
    rw[eW (by omega), ah (by omega), ah (by omega), ah (by omega)]
    show some (Sum.inl (w64 (1+1), a+k.x0, w64 (b+k.x1), c))=_
    rw[bJ (x := b+k.x1) (by omega) (by omega)]
    rfl
  have e2:aX k (2, a+k.x0, b+k.x1, c)=some (.inl (3, a+k.x0, b+k.x1, c+k.x2)) := by
    unfold aX;dsimp only
    rw[eW (by omega), ah (by omega), ah (by omega), ah (by omega)]
    show some (Sum.inl (w64 (2+1), a+k.x0, b+k.x1, w64 (c+k.x2)))=_
    rw[bJ (x := c+k.x2) (by omega) (by omega)]
    rfl
  have e3:aX k (3, a+k.x0, b+k.x1, c+k.x2)=some (.inr (3, a+k.x0, b+k.x1, c+k.x2)) := by
    unfold aX;dsimp only
    rw[gu (by omega)]
  rw[aC e0, aC e1, aC e2, bk e3]
theorem im {b:TBatch} (h:bT b=0):(1≤b.fBarrows∧b.fBarrows≤50)∧(0≤b.fSeen.x0∧0≤b.fSeen.x1∧0≤b.fSeen.x2)∧b.fSeen.x0+b.fSeen.x1+b.fSeen.x2≤b.fBarrows := by
  have := (Check_0.1 h).1
  unfold dM at this
  omega
theorem kM (b:TBatch) (k:TKinds):ec b k=some (gd b k) := by
  unfold ec gd
  rw[dB, bnd E]
  by_cases h:bT b=0
  · rw[if_neg (by simp[h]), if_neg (by simp[h]), iA, bnd E]
    have hb := im h
    by_cases hk:0≤k.x0∧0≤k.x1∧0≤k.x2
    · have c1:eR b.fSeen=b.fSeen.x0+b.fSeen.x1+b.fSeen.x2 := by unfold eR;omega
      rw[if_neg (by simp[hk]), if_neg (by simp[hk]), j3 hk, bnd E, j3 hb.2.1, bnd E]
      have e1:min k.x0 51+min k.x1 51+min k.x2 51=eR k := rfl
      have e2:min b.fSeen.x0 51+min b.fSeen.x1 51+min b.fSeen.x2 51=eR b.fSeen := rfl
      rw[e1, e2, bJ (by omega) (by omega)]
      by_cases hs:b.fBarrows-eR b.fSeen<eR k
      · rw[eW hs, if_pos hs];rfl
      · rw[gu hs, if_neg hs]
        have hk2:k.x0≤51∧k.x1≤51∧k.x2≤51 := by unfold eR at hs;omega
        rw[iI k _ _ _ (by omega) (by omega), bnd E]
        have e3:(TBatch.mk b.fBarrows (TKinds.mk (b.fSeen.x0+k.x0) (b.fSeen.x1+k.x1) (b.fSeen.x2+k.x2)) b.fKnown)=ef b k := rfl
        dsimp only
        rw[e3, dB, bnd E]
        by_cases hc:bT (ef b k)=0
        · rw[if_neg (by simp[hc]), if_neg (by simp[hc])]
        · rw[if_pos (by simpa using hc), if_pos hc];rfl
    · rw[if_pos (by simp;omega), if_pos hk];rfl
  · rw[if_pos (by simpa using h), if_pos h];rfl
theorem jt (b:TBatch) (k:TKinds):dU b k=some ⟨(gd b k).1, (gd b k).2⟩ := by
  unfold dU gd
  rw[dC, bnd E]
  by_cases h:bT b=0
  · rw[if_pos (show(bT b==0)=true by simp[h]), if_neg (show ¬(bT b≠0) by simp[h]), jF]
    have hb := im h
    by_cases hk:0≤k.x0∧0≤k.x1∧0≤k.x2
    · have c1:eR b.fSeen=b.fSeen.x0+b.fSeen.x1+b.fSeen.x2 := by unfold eR;omega
      have e1:min k.x0 51+min k.x1 51+min k.x2 51=eR k := rfl
      have e2:min b.fSeen.x0 51+min b.fSeen.x1 51+min b.fSeen.x2 51=eR b.fSeen := rfl
      have hnn:¬¬(0≤k.x0∧0≤k.x1∧0≤k.x2) := fun x=>x hk
      rw[decide_eq_true hk, if_neg hnn]
      simp only[Option.bind_some, Bool.not_true, Bool.false_eq_true, if_false]
      rw[if_pos (show(bT b==0)=true by simp[h]), kU hk, kU hb.2.1]
      simp only[Option.bind_some]
      rw[e1, e2, bJ (x := b.fBarrows-eR b.fSeen) (by omega) (by omega)]
      by_cases hs:b.fBarrows-eR b.fSeen<eR k
      · rw[eW hs, if_pos hs, if_pos (by decide)];rfl
      · rw[gu hs, if_neg hs]
        have hk2:k.x0≤51∧k.x1≤51∧k.x2≤51 := by unfold eR at hs;omega
        have e4:fg k=aX k := rfl
        rw[if_neg (by simp[h]), e4, iI k _ _ _ (by omega) (by omega), bnd E]
        have e3:(TBatch.mk b.fBarrows (TKinds.mk (b.fSeen.x0+k.x0) (b.fSeen.x1+k.x1) (b.fSeen.x2+k.x2)) b.fKnown)=ef b k := rfl
        dsimp only
        rw[e3, dC, bnd E]
        by_cases hc:bT (ef b k)=0
        · rw[if_neg (by simp[hc]), if_neg (by simp[hc])]
        · rw[if_pos (by simpa using hc), if_pos hc];rfl
    · rw[decide_eq_false hk, if_pos hk]
      simp[zB]
  · rw[if_neg (by simpa using h), if_pos h, bnd E, if_neg (by simp), if_neg (by simpa using h), bnd E, if_neg (by simp), if_pos (by simpa using h)]
    rfl
theorem More_0 {b:TBatch} {k:TKinds} (h:(gd b k).2=0):bT b=0∧(0≤k.x0∧0≤k.x1∧0≤k.x2)∧eR k≤b.fBarrows-eR b.fSeen∧bT (ef b k)=0∧gd b k=(ef b k, 0) := by
  unfold gd at h ⊢
  by_cases h1:bT b=0
  · rw[if_neg (by simp[h1])]at h ⊢
    by_cases h2:0≤k.x0∧0≤k.x1∧0≤k.x2
    · rw[if_neg (by simp[h2])]at h ⊢
      by_cases h3:b.fBarrows-eR b.fSeen<eR k
      · rw[if_pos h3]at h;cases h
      · rw[if_neg h3]at h ⊢
        by_cases h4:bT (ef b k)=0
        · rw[if_neg (by simp[h4])]
          exact⟨h1, h2, by omega, h4, E⟩
        · rw[if_pos h4]at h
          exact absurd h h4
    · rw[if_pos h2]at h;cases h
  · rw[if_pos h1]at h
    exact absurd h h1
end Go.Proofs.Ytcleeakjghgbdaa
