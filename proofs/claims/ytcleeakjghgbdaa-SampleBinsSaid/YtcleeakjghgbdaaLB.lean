import Derived.Test.YtcleeakjghgbdaaB5
set_option linter.unusedSimpArgs false
set_option linter.unusedVariables false
namespace Go.Proofs.Ytcleeakjghgbdaa
def pk (B:TBatch) (T:List TKinds) (Ls:List TBatch) (i:Nat):Bool × Int × Int × Int × Int × Int × Int × Int × Int × Int × Int × Int × List TKinds × List TBatch :=
 (false,(i:Int),B.fBarrows,B.fSeen.x0,B.fSeen.x1,B.fSeen.x2,B.fKnown.x0.fLo,B.fKnown.x0.fHi,B.fKnown.x1.fLo,B.fKnown.x1.fHi,B.fKnown.x2.fLo,B.fKnown.x2.fHi,T,Ls)
theorem step_ok {steps:List TStep} (hs:steps.length≤60) {i:Nat} (hi:i<steps.length) {B:TBatch} {T:List TKinds} {Ls:List TBatch} (h:Inv B T Ls):∃B' T' Ls',aP steps (pk B T Ls i)=some (.inl (pk B' T' Ls' (i+1)))∧Inv B' T' Ls':=by
 have h1:=h.len
 have h2:=h.le
 have ew:w64 (((Ls.length:Nat):Int)-1)=((T.length:Nat):Int):=by rw[bJ (by omega) (by omega)];omega
 have hB:=im (h.chk T.length (by omega))
 rw[h.last]at hB
 unfold aP pk
 dsimp only
 rw[eW (by omega),ah (by omega),jz (by omega)]
 by_cases hb:(rdL steps (i:Int)).fBack=true
 ·rw[if_pos hb]
  by_cases hT:T.length=0
  ·have hT':T=[]:=List.eq_nil_of_length_eq_zero hT
   subst hT'
   rw[if_pos (by simp;omega),g1,Back_nil,Option.bind_some]
   unfold aM
   dsimp only
   rw[if_neg (by simp),Option.bind_some,ah (by omega),ew,h.last,Option.bind_some,if_neg (by simp)]
   exact⟨B,[],Ls,E,h⟩
  ·obtain⟨hI,hB2⟩:=h.back (by omega)
   have hP:=im (h.chk (T.length-1) (by omega))
   generalize hPe:rdL Ls ((T.length-1:Nat):Int)=P at hI hB2 hP
   have hback:bp ⟨B,T⟩=some (0,⟨P,T.take (T.length-1)⟩):=by
    rw[hB2]
    exact kT (by omega) (by omega) E (by omega) (by omega) (by omega)
   have ew2:w64 (((T.length:Nat):Int)-1)=((T.length-1:Nat):Int):=by rw[bJ (by omega) (by omega)];omega
   rw[if_neg (by simp;omega),ah (by omega),g1,hback,Option.bind_some]
   unfold aM
   dsimp only
   rw[if_neg (by simp),Option.bind_some,ew,Int.toNat_natCast,ah (by omega),ew2,f6 (by omega),hPe,Option.bind_some,if_neg (by simp)]
   rw[show Ls.length-1=T.length by omega]at hI
   exact⟨P,_,_,E,hI⟩
 ·rw[if_neg hb,ah (by omega),ah (by omega),ew,h.last,g1,kD,jt,Option.bind_some]
  dsimp only
  generalize (rdL steps (i:Int)).fSeen=k
  by_cases hT:T.length<40
  ·rw[gu (by omega)]
   by_cases hm:(gd B k).2=0
   ·have ew3:w64 (((Ls.length+1:Nat):Int)-1)=((Ls.length:Nat):Int):=by rw[bJ (by omega) (by omega)];omega
    rw[if_pos (by simp[hm]),ah (by omega),ah (by omega),iD B (by omega) k,if_neg (by omega),if_neg (by simp[hm]),Option.bind_some]
    unfold aM
    dsimp only
    rw[if_neg (by simp[hm]),Option.bind_some,ew3,ah (by omega),gX,if_neg (Nat.lt_irrefl _),if_pos E,Option.bind_some,if_neg (by simp)]
    exact⟨_,_,_,E,h.draw hT hm⟩
   ·rw[if_neg (by simpa using hm),ah (by omega),iD B (by omega) k,if_neg (by omega),if_pos hm,Option.bind_some]
    unfold aM
    dsimp only
    rw[if_neg (by simp),Option.bind_some,ah (by omega),Option.bind_some,if_neg (by simp)]
    exact⟨B,T,Ls,E,h⟩
  ·rw[eW (by omega),ah (by omega),iD B (by omega) k,if_pos (by omega),Option.bind_some]
   unfold aM
   dsimp only
   rw[if_neg (by simp),Option.bind_some,ah (by omega),Option.bind_some,if_neg (by simp)]
   exact⟨B,T,Ls,E,h⟩
theorem SampleBins_true (b:TBatch) (steps:List TStep) (_:k8 b) (_:lm TStep_rg steps):bU b steps=some true:=by
 unfold bU
 rw[k4,Option.bind_some]
 by_cases hl:60<((steps.length:Nat):Int)
 ·rw[eW hl]
 ·rw[gu hl,New_spec,Option.bind_some]
  by_cases h:bT b=0
  ·rw[if_pos h]
   dsimp only
   rw[dC,Option.bind_some,if_neg (by simp[h]),if_neg (by simp)]
   have hinv:=lI (body:=aP steps)
    (fun s=>∃B T Ls i,s=pk B T Ls i∧i≤steps.length∧Inv B T Ls)
    (fun _ out=>∃u,out=.inr u)
    (fun s=>steps.length-s.2.1.toNat) (by
     rintro _ ⟨B,T,Ls,i,rfl,hi,hI⟩
     rcases Nat.lt_or_ge i steps.length with hlt|hge
     ·obtain⟨B',T',Ls',e,hI'⟩:=step_ok (by omega) hlt hI
      exact .inl ⟨_,e,⟨B',T',Ls',i+1,E,hlt,hI'⟩,by unfold pk;dsimp only;omega,fun t h=>h⟩
     ·refine .inr ⟨.inr (pk B T Ls i),?_,_,E⟩
      unfold aP pk
      dsimp only
      rw[gu (by omega)]) (pk b [] [b] 0) ⟨b,[],[b],0,E,Nat.zero_le _,Inv.start h⟩
   obtain⟨out,ho,u,rfl⟩:=hinv
   have ho':aZ (aP steps) (false,0,b.fBarrows,b.fSeen.x0,b.fSeen.x1,b.fSeen.x2,b.fKnown.x0.fLo,b.fKnown.x0.fHi,b.fKnown.x1.fLo,b.fKnown.x1.fHi,b.fKnown.x2.fLo,b.fKnown.x2.fHi,[],[b])=_:=ho
   rw[ho',Option.bind_some]
  ·rw[if_neg h]
   dsimp only
   rw[dC,Option.bind_some,if_neg (by simp[h]),if_pos (by simpa using h)]
end Go.Proofs.Ytcleeakjghgbdaa
