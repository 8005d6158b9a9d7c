import Derived.Test.YtcleeakjghgbdaaB2
set_option linter.unusedSimpArgs false
set_option linter.unusedVariables false
namespace Go.Proofs.Ytcleeakjghgbdaa
theorem in_eq (n lo hi:Int):f8 n lo hi=some (decide (lo≤n∧n≤hi)) := by
  unfold f8;rw[Bool.decide_and]
theorem jF (k:TKinds):de k=some (decide (0≤k.x0∧0≤k.x1∧0≤k.x2)) := by
  unfold de
  rw[Bool.decide_and, Bool.decide_and, Bool.and_assoc]
theorem wY_len (b:TBatch) (x:Nat) (l:List Nat):(wY b x l).length≤l.length := by
  unfold wY
  exact Nat.le_trans (List.length_filter_le ..) (by simp)
theorem wX_len (b:TBatch) (h:b.fBarrows≤50) (l:List Nat):(wX b l).length≤l.length*51 := by
  induction l with
  | nil=>simp[wX]
  | cons x l ih =>
    have := wY_len b x (List.range (b.fBarrows.toNat+1-x))
    rw[List.length_range]at this
    unfold wX at ih ⊢
    rw[List.flatMap_cons, List.length_append, List.length_cons]
    omega
theorem ka (b:TBatch) (s4 s9:Int × List TKinds) (ok:Bool) (i sv vv lo hi:Int) (h:0≤i∧i<3) (hs:aH b.fSeen.x0 b.fSeen.x1 b.fSeen.x2 i=sv) (hv:aH s4.1 s9.1 (w64 ((w64 (b.fBarrows-s4.1))-s9.1)) i=vv)
    (hl:aH b.fKnown.x0.fLo b.fKnown.x1.fLo b.fKnown.x2.fLo i=lo) (hh:aH b.fKnown.x0.fHi b.fKnown.x1.fHi b.fKnown.x2.fHi i=hi) :
    bq b s4 s9 (ok, i)=some (.inl (ok&&decide (sv≤vv∧lo≤vv∧vv≤hi), i+1)) := by
  unfold bq;dsimp only
  rw[eW h.2, ah h, ah h, ah h, ah h, ah h, hs, hv, hl, hh, in_eq, bJ (by omega) (by omega)]
  cases ok with
  | false=>rfl
  | true =>
    by_cases hc:sv≤vv
    · simp[hc]
    · simp[hc]
theorem l3_done (b:TBatch) (x y:Int) (o o':List TKinds) (hx:0≤x∧x≤50) (hy:0≤y∧y≤51) (hN:0≤b.fBarrows∧b.fBarrows≤50) :
    aZ (bq b (x, o) (y, o')) (true, 0)=some (decide (OkK b ⟨x, y, b.fBarrows-x-y⟩), 3) := by
  have hz:w64 ((w64 (b.fBarrows-x))-y)=b.fBarrows-x-y := by rw[bJ (x := b.fBarrows-x) (by omega) (by omega), bJ (by omega) (by omega)]
  have e0 := ka b (x, o) (y, o') true 0 _ _ _ _ (by decide) E E E E
  have e1 := ka b (x, o) (y, o') (true&&decide (b.fSeen.x0≤x∧b.fKnown.x0.fLo≤x∧x≤b.fKnown.x0.fHi)) (0+1) _ _ _ _ (by decide) E E E E
  have e2 := ka b (x, o) (y, o') (true&&decide (b.fSeen.x0≤x∧b.fKnown.x0.fLo≤x∧x≤b.fKnown.x0.fHi)&&decide (b.fSeen.x1≤y∧b.fKnown.x1.fLo≤y∧y≤b.fKnown.x1.fHi)) (0+1+1) _ (b.fBarrows-x-y) _ _ (by decide) E hz E E
  rw[aC e0]
  have e1':bq b (x, o) (y, o') (true&&decide (b.fSeen.x0≤x∧b.fKnown.x0.fLo≤x∧x≤b.fKnown.x0.fHi), 0+1)=_ := e1
  have e0':(aH b.fSeen.x0 b.fSeen.x1 b.fSeen.x2 0≤aH x y (w64 ((w64 (b.fBarrows-x))-y)) 0∧aH b.fKnown.x0.fLo b.fKnown.x1.fLo b.fKnown.x2.fLo 0≤aH x y (w64 ((w64 (b.fBarrows-x))-y)) 0∧aH x y (w64 ((w64 (b.fBarrows-x))-y)) 0≤aH b.fKnown.x0.fHi b.fKnown.x1.fHi b.fKnown.x2.fHi 0)=(b.fSeen.x0≤x∧b.fKnown.x0.fLo≤x∧x≤b.fKnown.x0.fHi) := rfl
  show aZ _ (true&&decide (b.fSeen.x0≤x∧b.fKnown.x0.fLo≤x∧x≤b.fKnown.x0.fHi), 0+1)=_
  rw[aC e1]
  show aZ _ (true&&decide (b.fSeen.x0≤x∧b.fKnown.x0.fLo≤x∧x≤b.fKnown.x0.fHi)&&decide (b.fSeen.x1≤y∧b.fKnown.x1.fLo≤y∧y≤b.fKnown.x1.fHi), 0+1+1)=_
  rw[aC e2]
  have e3:∀c, bq b (x, o) (y, o') (c, 0+1+1+1)=some (.inr (c, 3)) := by
    intro c
    unfold bq;dsimp only
    rw[gu (by decide)]
    rfl
  rw[bk (e3 _)]
  refine congrArg some (Prod.ext ?_ E)
  rw[Bool.eq_iff_iff, decide_eq_true_eq]
  simp only[Bool.and_eq_true, decide_eq_true_eq, true_and]
  exact⟨fun⟨⟨p, q⟩, r⟩=>⟨p, q, r⟩, fun⟨p, q, r⟩=>⟨⟨p, q⟩, r⟩⟩
theorem wY_snoc (b:TBatch) (x k:Nat):wY b x (List.range (k+1))=wY b x (List.range k)++(if OkK b (mkK b x k)then[mkK b x k]else[]) := by
  rw[List.range_succ, i8]
  congr 1
  unfold wY
  by_cases h:OkK b (mkK b x k)
  · rw[if_pos h];simp[h]
  · rw[if_neg h];simp[h]
theorem wX_snoc (b:TBatch) (k:Nat):wX b (List.range (k+1))=wX b (List.range k)++wY b k (List.range (b.fBarrows.toNat+1-k)) := by
  rw[List.range_succ, kv]
  simp[wX]
theorem ju (b:TBatch) (hN:0≤b.fBarrows∧b.fBarrows≤50) (x:Nat) (hx:(x:Int)≤b.fBarrows) (o o':List TKinds) (ho:o'.length≤10000) :
    aZ (cf b ((x:Int), o)) (0, o')=some (((b.fBarrows.toNat+1-x:Nat):Int), o'++wY b x (List.range (b.fBarrows.toNat+1-x))) := by
  have := ko (body := cf b ((x:Int), o)) (fun k=>((k:Int), o'++wY b x (List.range k))) (b.fBarrows.toNat+1-x) (t := (((b.fBarrows.toNat+1-x:Nat):Int), o'++wY b x (List.range (b.fBarrows.toNat+1-x)))) (fun k hk=>by
    have hlen := wY_len b x (List.range k)
    rw[List.length_range]at hlen
    unfold cf;dsimp only
    rw[bJ (x := (x:Int)+(k:Int)) (by omega) (by omega), eW (by omega), l3_done b x k o _ (by omega) (by omega) hN, jz (by omega), bJ (x := b.fBarrows-x) (by omega) (by omega), bJ (x := b.fBarrows-x-k) (by omega) (by omega)]
    dsimp only[Option.bind_some]
    rw[wY_snoc]
    by_cases h:OkK b (mkK b x k)
    · have h':OkK b ⟨x, k, b.fBarrows-x-k⟩ := h
      rw[if_pos h, if_pos (decide_eq_true h'), ah (by rw[List.length_append];omega), List.append_assoc]
      rfl
    · have h':¬OkK b ⟨x, k, b.fBarrows-x-k⟩ := h
      rw[if_neg h, if_neg (by simpa using h'), List.append_nil]) (by
    unfold cf;dsimp only
    rw[bJ (x := (x:Int)+_) (by omega) (by omega), gu (by omega)])
  have e:wY b x (List.range 0)=[] := rfl
  simp only[e, List.append_nil]at this
  exact this
theorem kG (b:TBatch) (hN:0≤b.fBarrows∧b.fBarrows≤50):dJ b=some (wl b) := by
  unfold dJ
  have := ko (body := bY b) (fun k=>((k:Int), wX b (List.range k))) (b.fBarrows.toNat+1) (t := (((b.fBarrows.toNat+1:Nat):Int), wX b (List.range (b.fBarrows.toNat+1)))) (fun k hk=>by
    have hlen := wX_len b hN.2 (List.range k)
    rw[List.length_range]at hlen
    unfold bY;dsimp only
    rw[eW (by omega), ju b hN k (by omega) _ _ (by omega), jz (by omega), wX_snoc]
    rfl) (by
    unfold bY;dsimp only
    rw[gu (by omega)])
  have h0:aZ (bY b) (0, ([]:List TKinds))=_ := this
  rw[h0]
  rfl
theorem eI (b:TBatch) (i e:Int) (s:TSpan) (hi:0≤i∧i<3) (h1:aH b.fKnown.x0.fLo b.fKnown.x1.fLo b.fKnown.x2.fLo i=s.fLo) (h2:aH b.fKnown.x0.fHi b.fKnown.x1.fHi b.fKnown.x2.fHi i=s.fHi) :
    co b (e, i)=if i5 b s then some (.inl (e, i+1))else some (.inr (.inl (1, i))) := by
  unfold co;dsimp only
  rw[eW hi.2, ah hi, ah hi, ah hi, ah hi, h1, h2, bJ (by omega) (by omega)]
  by_cases h:i5 b s
  · rw[if_pos h]
    unfold i5 at h
    have a1:decide (s.fLo<0)=false := decide_eq_false (by omega)
    have a2:decide (s.fHi<s.fLo)=false := decide_eq_false (by omega)
    have a3:decide (b.fBarrows<s.fHi)=false := decide_eq_false (by omega)
    simp[a1, a2, a3]
  · rw[if_neg h]
    unfold i5 at h
    by_cases a1:s.fLo<0
    · simp[a1]
    · by_cases a2:s.fHi<s.fLo
      · simp[a1, a2]
      · have a3:b.fBarrows<s.fHi := by omega
        simp[a1, a2, a3]
theorem jd (b:TBatch):(dw b∧aZ (co b) (0, 0)=some (.inr (0, 3)))∨(¬dw b∧∃i, aZ (co b) (0, 0)=some (.inl (1, i))) := by
  have e0 := eI b 0 0 b.fKnown.x0 (by decide) E E
  have e1 := eI b (0+1) 0 b.fKnown.x1 (by decide) E E
  have e2 := eI b (0+1+1) 0 b.fKnown.x2 (by decide) E E
  unfold dw
  by_cases h0:i5 b b.fKnown.x0
  · rw[if_pos h0]at e0
    by_cases h1:i5 b b.fKnown.x1
    · rw[if_pos h1]at e1
      by_cases h2:i5 b b.fKnown.x2
      · rw[if_pos h2]at e2
        refine .inl ⟨⟨h0, h1, h2⟩, ?_⟩
        rw[aC e0, aC e1, aC e2]
        exact bk E
      · rw[if_neg h2]at e2
        exact .inr ⟨fun h=>h2 h.2.2, _, by rw[aC e0, aC e1];exact bk e2⟩
    · rw[if_neg h1]at e1
      exact .inr ⟨fun h=>h1 h.2.1, _, by rw[aC e0];exact bk e1⟩
  · rw[if_neg h0]at e0
    exact .inr ⟨fun h=>h0 h.1, _, bk e0⟩
theorem dC (b:TBatch):bF b=some (bT b) := by
  unfold bF
  rw[in_eq, bnd E, jF]
  unfold bT
  by_cases hN:1≤b.fBarrows∧b.fBarrows≤50
  · rw[decide_eq_true hN]
    by_cases hs:0≤b.fSeen.x0∧0≤b.fSeen.x1∧0≤b.fSeen.x2
    · rw[decide_eq_true hs, kU hs]
      simp only[Option.bind_some, Bool.not_true, Bool.false_eq_true, if_false]
      by_cases hz:min b.fSeen.x0 51+min b.fSeen.x1 51+min b.fSeen.x2 51≤b.fBarrows
      · have hok:dM b := ⟨hN, hs, hz⟩
        rw[if_pos hok, gu (by omega)]
        rcases jd b with⟨hk, hr⟩|⟨hk, i, hr⟩
        · rw[hr, if_pos hk]
          dsimp only[Option.bind_some]
          rw[kG b (by omega)]
          cases hw:wl b with
          | nil=>rfl
          | cons x xs =>
            simp
        · rw[hr, if_neg hk]
          rfl
      · rw[if_neg (fun h:dM b=>hz h.2.2), eW (by omega)]
    · rw[decide_eq_false hs, if_neg (fun h:dM b=>hs h.2.1)]
      rfl
  · rw[decide_eq_false hN, if_neg (fun h:dM b=>hN h.1)]
    rfl
end Go.Proofs.Ytcleeakjghgbdaa
