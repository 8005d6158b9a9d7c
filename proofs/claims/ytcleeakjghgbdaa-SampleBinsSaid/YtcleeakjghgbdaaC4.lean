import Derived.Test.YtcleeakjghgbdaaF
import Derived.Test.YtcleeakjghgbdaaGr
import Derived.Test.YtcleeakjghgbdaaC0
import Derived.Test.YtcleeakjghgbdaaC2
import Derived.Test.YtcleeakjghgbdaaGy
set_option maxHeartbeats 4000000
set_option maxRecDepth 100000
set_option linter.unusedVariables false
namespace Go.Proofs.Ytcleeakjghgbdaa
open Go.RowKit (Below)
attribute [local irreducible] OX QX CX EX OpY Calls CallsIn
theorem iM (p0:TBatch) (res:(List TKinds)) (h:dJ p0=some res) (W:World)  :
  Calls Try.prog 31 [.agg #[vI p0.fBarrows,vI p0.fSeen.x0,vI p0.fSeen.x1,vI p0.fSeen.x2,vI p0.fKnown.x0.fLo,vI p0.fKnown.x0.fHi,vI p0.fKnown.x1.fLo,vI p0.fKnown.x1.fHi,vI p0.fKnown.x2.fLo,vI p0.fKnown.x2.fHi]].toArray W fun e W2=>∃x:Option Addr × Nat × Nat,x.2.1=res.length∧e=.returned (.slice x.1 x.2.1 x.2.2)∧Ext W W2 [bR x.1 x.2.2 23 3 x.2.1 (aL ae res)]:=by
 unfold dJ at h
 refine ad (m:=69) Try.func31 E E (nB E) (cS (cR ?_))
 refine aV [vI p0.fBarrows,vI p0.fSeen.x0,vI p0.fSeen.x1,vI p0.fSeen.x2,vI p0.fKnown.x0.fLo,vI p0.fKnown.x0.fHi,vI p0.fKnown.x1.fLo,vI p0.fKnown.x1.fHi,vI p0.fKnown.x2.fLo,vI p0.fKnown.x2.fHi] E E E (fun p=>?_)
 refine oY E (yAS E) (oN (eT (cS (cR (oY E (yAS E) (oN (eT (cS (cS (cR (oY E (yAI E) (oN (eT (cB ?_))))))))))))))
 obtain⟨u5,l,h⟩:=bOs h
 refine gJ 23 3 ?_
 refine a8 (fun(s:(Int × (List TKinds))) L tm=>∃(D:Nat→Value) (G:Option Addr) (H:Nat) (F:Nat),F=s.2.length∧L=[ac p 28 [vI p0.fBarrows,vI p0.fSeen.x0,vI p0.fSeen.x1,vI p0.fSeen.x2,vI p0.fKnown.x0.fLo,vI p0.fKnown.x0.fHi,vI p0.fKnown.x1.fLo,vI p0.fKnown.x1.fHi,vI p0.fKnown.x2.fLo,vI p0.fKnown.x2.fHi],bR G H 23 3 F (aL ae s.2)]∧tm=(upd (upd (upd (upd D 1 (.pointer (some ⟨p,0,none⟩))) 2 (.slice none 0 0)) 3 (.slice G F H)) 4 (vI s.1))) 0 l ⟨_,none,0,0,E,E,(kp4 E)⟩ ?_ ?_
 ·rintro u L tm st ⟨f1,I,K,fd,rfl,rfl,rfl⟩ h
  unfold bY at h
  refine cS (cS (cR (oY E (yMI E) (oY E (yFA cU E) (oY E (yL 0 az E E E) (oY E (jx E E) (oN (eT ?_))))))))
  rcases iOs h with⟨n,h⟩|⟨n,h⟩
  ·refine cT (vB n) (cK (eT (cS (cB (cS (cR (oY E (yAI E) (oN (eT (cB ?_))))))))))
   obtain⟨fE,t,h⟩:=bOs h
   refine a8 (fun(s:(Int × (List TKinds))) L tm=>∃(D:Nat→Value) (G:Option Addr) (H:Nat) (F:Nat),F=s.2.length∧L=[ac p 28 [vI p0.fBarrows,vI p0.fSeen.x0,vI p0.fSeen.x1,vI p0.fSeen.x2,vI p0.fKnown.x0.fLo,vI p0.fKnown.x0.fHi,vI p0.fKnown.x1.fLo,vI p0.fKnown.x1.fHi,vI p0.fKnown.x2.fLo,vI p0.fKnown.x2.fHi],bR G H 23 3 F (aL ae s.2)]∧tm=(upd (upd (upd (upd (upd (upd D 1 (.pointer (some ⟨p,0,none⟩))) 2 (.slice none 0 0)) 3 (.slice G F H)) 4 (vI u.1)) 12 (.bool (decide (u.1≤p0.fBarrows)))) 5 (vI s.1))) 2 t ⟨_,I,K,u.2.length,E,E,(kp4 (kp (kp E)))⟩ ?_ ?_
   ·rintro r L tm st ⟨f2,d,w,fn,rfl,rfl,rfl⟩ h
    unfold cf at h
    refine cS (cS (cR (oY E (yMI E) (oY E (yMI E) (oY E (bf E E) (oY E (yFA cU E) (oY E (yL 0 az E E E) (oY E (jx E E) (oN (eT ?_))))))))))
    rcases iOs h with⟨M,h⟩|⟨M,h⟩
    ·refine cT (vB M) (cK (eT (cS (cB (cS (cR (oY E (yMI E) (oY E (yMI E) (oY E (yFA cU E) (oY E (yL 0 az E E E) (oY E (yMI E) (oY E (cG E E) (oY E (yMI E) (oY E (cG E E) ?_))))))))))))))
     refine oY E (dS [vI u.1,vI r.1,vI (w64 ((w64 (p0.fBarrows-u.1))-r.1))] fF eP iR (by kernel_rfl)) ?_
     refine aG eP E (fun S=>?_)
     refine cg E (yS 2 [vI u.1,vI r.1,vI (w64 ((w64 (p0.fBarrows-u.1))-r.1))] sz_23 E (nB E) E E E) (oN (eT (cS (cR (oY E (yAB E) (oN (eT (cS (cS (cR (oY E (yAI E) (oN (eT (cB ?_))))))))))))))
     obtain⟨o5,a,h⟩:=bOs h
     refine a8 (fun(s:(Bool × Int)) L tm=>∃(D:Nat→Value),L=[ac p 28 [vI p0.fBarrows,vI p0.fSeen.x0,vI p0.fSeen.x1,vI p0.fSeen.x2,vI p0.fKnown.x0.fLo,vI p0.fKnown.x0.fHi,vI p0.fKnown.x1.fLo,vI p0.fKnown.x1.fHi,vI p0.fKnown.x2.fLo,vI p0.fKnown.x2.fHi],bR d w 23 3 r.2.length (aL ae r.2),ac S 23 [vI u.1,vI r.1,vI (w64 ((w64 (p0.fBarrows-u.1))-r.1))]]∧tm=(upd (upd (upd (upd (upd (upd (upd (upd (upd (upd D 1 (.pointer (some ⟨p,0,none⟩))) 2 (.slice none 0 0)) 3 (.slice d r.2.length w)) 4 (vI u.1)) 12 (.bool (decide (u.1≤p0.fBarrows)))) 5 (vI r.1)) 20 (.bool (decide (w64 (u.1+r.1)≤p0.fBarrows)))) 6 (.pointer (some ⟨S,0,none⟩))) 7 (.bool s.1)) 8 (vI s.2))) 4 a ⟨_,E,(kp4 (kp4 (kp (kp E))))⟩ ?_ ?_
     ·rintro o L tm st ⟨z,rfl,rfl⟩ h
      unfold bq at h
      refine cS (cS (cR (oY E (yMI E) (oY E (cX E E) (oN (eT ?_))))))
      rcases iOs h with⟨N,h⟩|⟨N,h⟩
      ·refine cT (vB N) (cK (eT (cS (cB ?_))))
       refine aK 28 cm (by kernel_rfl) (by kernel_rfl) ?_
       refine qY E (yMB E) (qY E (yMB E) ?_)
       obtain⟨fl,i,h⟩:=bOs h
       refine qJ 9 (fun D=>(upd (upd (upd (upd (upd (upd (upd (upd (upd (upd (upd (upd D 1 (.pointer (some ⟨p,0,none⟩))) 2 (.slice none 0 0)) 3 (.slice d r.2.length w)) 4 (vI u.1)) 12 (.bool (decide (u.1≤p0.fBarrows)))) 5 (vI r.1)) 20 (.bool (decide (w64 (u.1+r.1)≤p0.fBarrows)))) 6 (.pointer (some ⟨S,0,none⟩))) 7 (.bool o.1)) 8 (vI o.2)) 33 (.bool (decide (o.2<3)))) 46 (.bool fl))) (fun D=>?_) (fun key=>?_)
       ·refine qY E (yMB E) ?_
        obtain⟨gf,j,h⟩:=bOs h
        refine qJ 15 (fun D=>(upd (upd (upd (upd (upd (upd (upd (upd (upd (upd (upd (upd D 1 (.pointer (some ⟨p,0,none⟩))) 2 (.slice none 0 0)) 3 (.slice d r.2.length w)) 4 (vI u.1)) 12 (.bool (decide (u.1≤p0.fBarrows)))) 5 (vI r.1)) 20 (.bool (decide (w64 (u.1+r.1)≤p0.fBarrows)))) 6 (.pointer (some ⟨S,0,none⟩))) 7 (.bool o.1)) 8 (vI o.2)) 33 (.bool (decide (o.2<3)))) 62 (.bool gf))) (fun D=>?_) (fun key=>?_)
        ·refine qY E (yAB E) (bt (oN (ay (eT (cR (oY E (yMI E) (oY E (bf E E) (oY E (yAI E) (oN ?_)))))))))
         obtain rfl:=sI h
         exact eN ⟨_,E,(kp4 (kp4 (kp (kp E))))⟩
        ·clear h;rcases iOs j with⟨f,h⟩|⟨f,h⟩
         ·refine qY (sT E E E E f) (yMI E) ?_
          obtain⟨O,h⟩:=gOs h
          refine qY (sT E E E E f) (aq cY O.1 O.2 E E) ?_
          refine qY (sT E E E E f) (yL 2 (v:=vI (aH u.1 r.1 (w64 ((w64 (p0.fBarrows-u.1))-r.1)) o.2)) az E E (by rcases in3 O with e|e|e <;> rw[e] <;> rfl)) ?_
          refine qY (sT E E E E f) (yMI E) (qY (sT E E E E f) (yFA d5 E) ?_)
          obtain⟨Q,h⟩:=gOs h
          refine qY (sT E E E E f) (aq iS Q.1 Q.2 E E) (qY (sT E E E E f) (yFA dc E) ?_)
          refine qY (sT E E E E f) (yL 0 (v:=vI (aH p0.fKnown.x0.fLo p0.fKnown.x1.fLo p0.fKnown.x2.fLo o.2)) az E E (by rcases in3 Q with e|e|e <;> rw[e] <;> rfl)) ?_
          refine qY (sT E E E E f) (yMI E) (qY (sT E E E E f) (yFA d5 E) ?_)
          obtain⟨U,h⟩:=gOs h
          refine qY (sT E E E E f) (aq iS U.1 U.2 E E) (qY (sT E E E E f) (yFA cz E) ?_)
          refine qY (sT E E E E f) (yL 0 (v:=vI (aH p0.fKnown.x0.fHi p0.fKnown.x1.fHi p0.fKnown.x2.fHi o.2)) az E E (by rcases in3 U with e|e|e <;> rw[e] <;> rfl)) ?_
          obtain⟨o0,k,h⟩:=bOs h
          refine qY (sT E E E E f) (yC [vI (aH u.1 r.1 (w64 ((w64 (p0.fBarrows-u.1))-r.1)) o.2),vI (aH p0.fKnown.x0.fLo p0.fKnown.x1.fLo p0.fKnown.x2.fLo o.2),vI (aH p0.fKnown.x0.fHi p0.fKnown.x1.fHi p0.fKnown.x2.fHi o.2)] go_28 E (fun W2 y=>iG (aH u.1 r.1 (w64 ((w64 (p0.fBarrows-u.1))-r.1)) o.2) (aH p0.fKnown.x0.fLo p0.fKnown.x1.fLo p0.fKnown.x2.fLo o.2) (aH p0.fKnown.x0.fHi p0.fKnown.x1.fHi p0.fKnown.x2.fHi o.2) o0 k W2 ) E) (qY E (ai (vB f) E) ?_)
          obtain rfl:=sI h
          exact key _ _ (kp4 (kp4 (kp4 E)))
         ·refine ab (sF E E E E f) (ab (sF E E E E f) (ab (sF E E E E f) (ab (sF E E E E f) (ab (sF E E E E f) (ab (sF E E E E f) (ab (sF E E E E f) (ab (sF E E E E f) (ab (sF E E E E f) (ab (sF E E E E f) (ab (sF E E E E f) (ab (sF E E E E f) (ab (sF E E E E f) (ab (sF E E E E f) (qY E (aj (vB f) E) ?_))))))))))))))
          obtain rfl:=sI h
          exact key _ _ (kp4 (kp4 (kp4 E)))
       ·clear h;rcases iOs i with⟨g,h⟩|⟨g,h⟩
        ·refine qY (sT E E E E g) (yMI E) ?_
         obtain⟨X,h⟩:=gOs h
         refine qY (sT E E E E g) (aq cY X.1 X.2 E E) ?_
         refine qY (sT E E E E g) (yL 2 (v:=vI (aH u.1 r.1 (w64 ((w64 (p0.fBarrows-u.1))-r.1)) o.2)) az E E (by rcases in3 X with e|e|e <;> rw[e] <;> rfl)) ?_
         refine qY (sT E E E E g) (yMI E) (qY (sT E E E E g) (yFA bA E) ?_)
         obtain⟨Y,h⟩:=gOs h
         refine qY (sT E E E E g) (aq cY Y.1 Y.2 E E) ?_
         refine qY (sT E E E E g) (yL 0 (v:=vI (aH p0.fSeen.x0 p0.fSeen.x1 p0.fSeen.x2 o.2)) az E E (by rcases in3 Y with e|e|e <;> rw[e] <;> rfl)) ?_
         refine qY (sT E E E E g) (js E E) (qY E (ai (vB g) E) ?_)
         obtain rfl:=sI h
         exact key _ _ (kp4 (kp4 (kp4 E)))
        ·refine ab (sF E E E E g) (ab (sF E E E E g) (ab (sF E E E E g) (ab (sF E E E E g) (ab (sF E E E E g) (ab (sF E E E E g) (ab (sF E E E E g) (ab (sF E E E E g) (qY E (aj (vB g) E) ?_))))))))
         obtain rfl:=sI h
         exact key _ _ (kp4 (kp4 (kp4 E)))
      ·refine cF (vB N) (aR (al ?_))
       obtain rfl:=sI h
       exact aD ⟨E,_,E,(kp4 (kp4 (kp (kp E))))⟩
     ·intro e L tm hJ
      obtain⟨rfl,b,rfl,rfl⟩:=hJ
      refine⟨(by intro hc;cases hc),?_⟩
      refine ak (eT (cS (cR (oY E (yMB E) (oN (eT ?_))))))
      rcases iOs h with⟨Z,h⟩|⟨Z,h⟩
      ·refine cT (vB Z) (cR (oY E (yMS E) (oY E (yN 2 [vI u.1,vI r.1,vI (w64 ((w64 (p0.fBarrows-u.1))-r.1))] bm E E E) ?_)))
       refine aY 1 (aL ae [(TKinds.mk u.1 r.1 (w64 ((w64 (p0.fBarrows-u.1))-r.1)))]) _ j4 fR eP jh (by decide) (by decide) (by kernel_rfl) (eL aB E) E (fun o6=>?_)
       obtain⟨c,h⟩:=gOs h
       refine dt 1 fR eP jh E E E (RdL.row 3 E) (eL aB E) (fm da _) (ff c (by decide)) E (fun o1 o2=>?_)
       refine oY E (yAS E) (oN (ay (eT (cR (oY E (yMI E) (oY E (bf E E) (oY E (yAI E) (oN (bM 2 ?_)))))))))
       obtain rfl:=sI h
       exact eN ⟨_,o1,o2,(r.2.length+1),(gB E E),E,(kp4 (kp (kp E)))⟩
      ·refine cF (vB Z) (cK (ay (eT (cR (oY E (yMI E) (oY E (bf E E) (oY E (yAI E) (oN (bM 2 ?_)))))))))
       obtain rfl:=sI h
       exact eN ⟨_,d,w,r.2.length,E,E,(kp4 (kp (kp E)))⟩
    ·refine cF (vB M) (aR (al ?_))
     obtain rfl:=sI h
     exact aD ⟨E,_,d,w,r.2.length,E,E,(kp4 (kp (kp E)))⟩
   ·intro e L tm hJ
    obtain⟨rfl,f0,R,q,f3,rfl,rfl,rfl⟩:=hJ
    refine⟨(by intro hc;cases hc),?_⟩
    refine ak (ay (eT (cR (oY E (yMI E) (oY E (bf E E) (oY E (yAI E) (oN ?_)))))))
    obtain rfl:=sI h
    exact eN ⟨_,R,q,fE.2.length,E,E,(kp4 E)⟩
  ·refine cF (vB n) (aR (al ?_))
   obtain rfl:=sI h
   exact aD ⟨E,_,I,K,u.2.length,E,E,(kp4 E)⟩
 ·intro e L tm hJ
  obtain⟨rfl,fr,V,T,o3,rfl,rfl,rfl⟩:=hJ
  refine⟨(by intro hc;cases hc),?_⟩
  refine ak (eT (cS (cR (oY E (yMS E) (oY E (yAS E) (oN (eT (ag ?_))))))))
  obtain rfl:=sI h
  exact am (.inl E) E (rVt (v:=.slice V u5.2.length T) E) (fun W2 y=>⟨(V,u5.2.length,T),E,E,(y.pick 1 E)⟩)
theorem bS (p0:TBatch) (res:Int) (h:bF p0=some res) (W:World)  :
  Calls Try.prog 6 [.agg #[vI p0.fBarrows,vI p0.fSeen.x0,vI p0.fSeen.x1,vI p0.fSeen.x2,vI p0.fKnown.x0.fLo,vI p0.fKnown.x0.fHi,vI p0.fKnown.x1.fLo,vI p0.fKnown.x1.fHi,vI p0.fKnown.x2.fLo,vI p0.fKnown.x2.fHi]].toArray W fun e W2=>e=.returned (vI res)∧Ext W W2 []:=by
 unfold bF at h
 refine ad (m:=59) Try.func6 E E (nB E) (cS (cR ?_))
 refine aV [vI p0.fBarrows,vI p0.fSeen.x0,vI p0.fSeen.x1,vI p0.fSeen.x2,vI p0.fKnown.x0.fLo,vI p0.fKnown.x0.fHi,vI p0.fKnown.x1.fLo,vI p0.fKnown.x1.fHi,vI p0.fKnown.x2.fLo,vI p0.fKnown.x2.fHi] E E E (fun Q=>?_)
 refine oY E (yAI E) (oN (eT (cS (cS ?_))))
 refine aK 18 cm (by kernel_rfl) (by kernel_rfl) ?_
 refine qY E (yFA cU E) (qY E (yL 0 az E E E) ?_)
 obtain⟨b,n,h⟩:=bOs h
 refine qY E (yC [vI p0.fBarrows,vI 1,vI 50] go_28 E (fun W2 u=>iG p0.fBarrows 1 50 b n W2 ) E) (qY E (dL E) (qY E (yMB E) ?_))
 obtain⟨c,l,h⟩:=bOs h
 refine qJ 5 (fun r=>(upd (upd (upd r 1 (.pointer (some ⟨Q,0,none⟩))) 2 (vI 0)) 13 (.bool c))) (fun r=>?_) (fun key=>?_)
 ·refine qY E (yMB E) ?_
  obtain⟨b8,t,h⟩:=bOs h
  refine qJ 7 (fun r=>(upd (upd (upd r 1 (.pointer (some ⟨Q,0,none⟩))) 2 (vI 0)) 21 (.bool b8))) (fun r=>?_) (fun key=>?_)
  ·refine bt (oN (eT ?_))
   rcases iOs h with⟨D,h⟩|⟨D,h⟩
   ·refine cT (vB D) (cS (cR (oY E (yAI E) (oN (eT (ag (aa ?_)))))))
    obtain rfl:=sI h
    exact am (.inl E) E (rVt (v:=vI 1) E) (fun W2 u=>⟨E,u.none⟩)
   ·refine cF (vB D) (cK (eT (cS (cS (cR (oY E (yAI E) (oN (eT (cB ?_)))))))))
    obtain⟨a,U,h⟩:=bOs h
    refine fu (fun(s:(Int × Int)) L tm=>∃(r:Nat→Value),L=[ac Q 28 [vI p0.fBarrows,vI p0.fSeen.x0,vI p0.fSeen.x1,vI p0.fSeen.x2,vI p0.fKnown.x0.fLo,vI p0.fKnown.x0.fHi,vI p0.fKnown.x1.fLo,vI p0.fKnown.x1.fHi,vI p0.fKnown.x2.fLo,vI p0.fKnown.x2.fHi]]∧tm=(upd (upd (upd r 1 (.pointer (some ⟨Q,0,none⟩))) 2 (vI s.1)) 3 (vI s.2))) 0 U ⟨_,E,(kp (kp (kp E)))⟩ ?_ ?_
    ·rintro w L tm st ⟨X,rfl,rfl⟩ h
     unfold co at h
     refine cS (cS (cR (oY E (yMI E) (oY E (cX E E) (oN (eT ?_))))))
     rcases iOs h with⟨F,h⟩|⟨F,h⟩
     ·refine cT (vB F) (cK (eT (cS (cB (cS ?_)))))
      refine aK 29 cm (by kernel_rfl) (by kernel_rfl) ?_
      refine qY E (yMI E) (qY E (yFA d5 E) ?_)
      obtain⟨G,h⟩:=gOs h
      refine qY E (aq iS G.1 G.2 E E) (qY E (yFA dc E) ?_)
      refine qY E (yL 0 (v:=vI (aH p0.fKnown.x0.fLo p0.fKnown.x1.fLo p0.fKnown.x2.fLo w.2)) az E E (by rcases in3 G with e|e|e <;> rw[e] <;> rfl)) ?_
      refine qY E (cX E E) (qY E (yMB E) ?_)
      obtain⟨z,Y,h⟩:=bOs h
      refine qJ 12 (fun r=>(upd (upd (upd (upd (upd r 1 (.pointer (some ⟨Q,0,none⟩))) 2 (vI w.1)) 3 (vI w.2)) 23 (.bool (decide (w.2<3)))) 44 (.bool z))) (fun r=>?_) (fun key=>?_)
      ·refine qY E (yMB E) ?_
       obtain⟨i,Z,h⟩:=bOs h
       refine qJ 9 (fun r=>(upd (upd (upd (upd (upd r 1 (.pointer (some ⟨Q,0,none⟩))) 2 (vI w.1)) 3 (vI w.2)) 23 (.bool (decide (w.2<3)))) 54 (.bool i))) (fun r=>?_) (fun key=>?_)
       ·refine bt (oN (eT ?_))
        rcases iOs h with⟨H,h⟩|⟨H,h⟩
        ·refine cT (vB H) (cS (cR (oY E (yAI E) (oN (eT (ag (aA (aa ?_))))))))
         obtain rfl:=sI h
         exact aD ⟨E,_,E,(kp (kp (kp E)))⟩
        ·refine cF (vB H) (cK (ay (eT (cR (oY E (yMI E) (oY E (bf E E) (oY E (yAI E) (oN ?_))))))))
         obtain rfl:=sI h
         exact eN ⟨_,E,(kp (kp (kp E)))⟩
       ·clear h;rcases iOs Z with⟨g,h⟩|⟨g,h⟩
        ·refine ab (sF E E E E g) (ab (sF E E E E g) (ab (sF E E E E g) (ab (sF E E E E g) (ab (sF E E E E g) (ab (sF E E E E g) (ab (sF E E E E g) (ab (sF E E E E g) (qY E (ai (vB g) E) ?_))))))))
         obtain rfl:=sI h
         exact key _ _ (kp4 (kp E))
        ·refine qY (sT E E E E g) (yMI E) (qY (sT E E E E g) (yFA d5 E) ?_)
         obtain⟨I,h⟩:=gOs h
         refine qY (sT E E E E g) (aq iS I.1 I.2 E E) (qY (sT E E E E g) (yFA cz E) ?_)
         refine qY (sT E E E E g) (yL 0 (v:=vI (aH p0.fKnown.x0.fHi p0.fKnown.x1.fHi p0.fKnown.x2.fHi w.2)) az E E (by rcases in3 I with e|e|e <;> rw[e] <;> rfl)) ?_
         refine qY (sT E E E E g) (yFA cU E) (qY (sT E E E E g) (yL 0 az E E E) (qY (sT E E E E g) (eZ E E) (qY E (aj (vB g) E) ?_)))
         obtain rfl:=sI h
         exact key _ _ (kp4 (kp E))
      ·clear h;rcases iOs Y with⟨f,h⟩|⟨f,h⟩
       ·refine ab (sF E E E E f) (ab (sF E E E E f) (ab (sF E E E E f) (ab (sF E E E E f) (ab (sF E E E E f) (ab (sF E E E E f) (ab (sF E E E E f) (ab (sF E E E E f) (ab (sF E E E E f) (ab (sF E E E E f) (ab (sF E E E E f) (qY E (ai (vB f) E) ?_)))))))))))
        obtain rfl:=sI h
        exact key _ _ (kp4 (kp E))
       ·refine qY (sT E E E E f) (yMI E) (qY (sT E E E E f) (yFA d5 E) ?_)
        obtain⟨K,h⟩:=gOs h
        refine qY (sT E E E E f) (aq iS K.1 K.2 E E) (qY (sT E E E E f) (yFA dc E) ?_)
        refine qY (sT E E E E f) (yL 0 (v:=vI (aH p0.fKnown.x0.fLo p0.fKnown.x1.fLo p0.fKnown.x2.fLo w.2)) az E E (by rcases in3 K with e|e|e <;> rw[e] <;> rfl)) ?_
        refine qY (sT E E E E f) (yMI E) (qY (sT E E E E f) (yFA d5 E) ?_)
        obtain⟨M,h⟩:=gOs h
        refine qY (sT E E E E f) (aq iS M.1 M.2 E E) (qY (sT E E E E f) (yFA cz E) ?_)
        refine qY (sT E E E E f) (yL 0 (v:=vI (aH p0.fKnown.x0.fHi p0.fKnown.x1.fHi p0.fKnown.x2.fHi w.2)) az E E (by rcases in3 M with e|e|e <;> rw[e] <;> rfl)) ?_
        refine qY (sT E E E E f) (eZ E E) (qY E (aj (vB f) E) ?_)
        obtain rfl:=sI h
        exact key _ _ (kp4 (kp E))
     ·refine cF (vB F) (aR (al ?_))
      obtain rfl:=sI h
      exact aD ⟨E,_,E,(kp (kp (kp E)))⟩
    ·intro e L tm hJ
     rcases a with j|f1
     ·dsimp only at h hJ
      obtain⟨rfl,V,rfl,rfl⟩:=hJ
      refine⟨(by intro hc;cases hc),?_⟩
      refine aA (aa ?_)
      obtain rfl:=sI h
      exact am (.inl E) E (rVt (v:=vI j.1) E) (fun W2 u=>⟨E,u.none⟩)
     ·dsimp only at h hJ
      obtain⟨rfl,T,rfl,rfl⟩:=hJ
      refine⟨(by intro hc;cases hc),?_⟩
      refine ak (eT (cS (cS (cR (oY E (yN 0 [vI p0.fBarrows,vI p0.fSeen.x0,vI p0.fSeen.x1,vI p0.fSeen.x2,vI p0.fKnown.x0.fLo,vI p0.fKnown.x0.fHi,vI p0.fKnown.x1.fLo,vI p0.fKnown.x1.fHi,vI p0.fKnown.x2.fLo,vI p0.fKnown.x2.fHi] a6 E E E) ?_)))))
      obtain⟨S,R,h⟩:=bOs h
      refine oC [.agg #[vI p0.fBarrows,vI p0.fSeen.x0,vI p0.fSeen.x1,vI p0.fSeen.x2,vI p0.fKnown.x0.fLo,vI p0.fKnown.x0.fHi,vI p0.fKnown.x1.fLo,vI p0.fKnown.x1.fHi,vI p0.fKnown.x2.fLo,vI p0.fKnown.x2.fHi]] _ _ _ E go_31 E (fun W2 u=>iM p0 S R W2 ) ?_
      rintro⟨f2,k,f3⟩ N
      replace N:k=S.length:=N;subst N
      refine oY E (bZ (us:=[]) fR E) (oY E (fc E E) (oN (eT ?_)))
      rcases iOs h with⟨O,h⟩|⟨O,h⟩
      ·refine cT (vB O) (cS (cR (oY E (yAI E) (oN (eT (ag (aa ?_)))))))
       obtain rfl:=sI h
       exact am (.inl E) E (rVt (v:=vI 9) E) (fun W2 u=>⟨E,u.none⟩)
      ·refine cF (vB O) (cK (eT (cS (cR (oY E (yAI E) (oN (eT (ag ?_))))))))
       obtain rfl:=sI h
       exact am (.inl E) E (rVt (v:=vI 0) E) (fun W2 u=>⟨E,u.none⟩)
  ·clear h;rcases iOs t with⟨o,h⟩|⟨o,h⟩
   ·refine ab (sF E E E E o) (ab (sF E E E E o) (ab (sF E E E E o) (ab (sF E E E E o) (ab (sF E E E E o) (ab (sF E E E E o) (qY E (ai (vB o) E) ?_))))))
    obtain rfl:=sI h
    exact key _ _ (kp (kp (kp E)))
   ·refine qY (sT E E E E o) (yFA bA E) (qY (sT E E E E o) (yN 0 [vI p0.fSeen.x0,vI p0.fSeen.x1,vI p0.fSeen.x2] bm E E E) ?_)
    obtain⟨x,q,h⟩:=bOs h
    refine qY (sT E E E E o) (yC [.agg #[vI p0.fSeen.x0,vI p0.fSeen.x1,vI p0.fSeen.x2]] kW E (fun W2 u=>dK p0.fSeen x q W2 ) E) (qY (sT E E E E o) (yFA cU E) (qY (sT E E E E o) (yL 0 az E E E) (qY (sT E E E E o) (eZ E E) (qY E (aj (vB o) E) ?_))))
    obtain rfl:=sI h
    exact key _ _ (kp (kp (kp E)))
 ·clear h;rcases iOs l with⟨d,h⟩|⟨d,h⟩
  ·refine ab (sF E E E E d) (ab (sF E E E E d) (ab (sF E E E E d) (ab (sF E E E E d) (qY E (ai (vB d) E) ?_))))
   obtain rfl:=sI h
   exact key _ _ (kp (kp (kp E)))
  ·refine qY (sT E E E E d) (yFA bA E) (qY (sT E E E E d) (yN 0 [vI p0.fSeen.x0,vI p0.fSeen.x1,vI p0.fSeen.x2] bm E E E) ?_)
   obtain⟨y,p,h⟩:=bOs h
   refine qY (sT E E E E d) (yC [.agg #[vI p0.fSeen.x0,vI p0.fSeen.x1,vI p0.fSeen.x2]] go_29 E (fun W2 u=>fY p0.fSeen y p W2 ) E) (qY (sT E E E E d) (dL E) (qY E (aj (vB d) E) ?_))
   obtain rfl:=sI h
   exact key _ _ (kp (kp (kp E)))
theorem en (p0:TBin) (res:(Int × TBin)) (h:bp p0=some res) (W:World) (Q:World) (R:Res) (r:Nat) (Aa:Option Addr) (u ca:Nat) (w:u=p0.f_taken.length) (hW:Ext Q W [R,ac r 74 [vI p0.f_batch.fBarrows,vI p0.f_batch.fSeen.x0,vI p0.f_batch.fSeen.x1,vI p0.f_batch.fSeen.x2,vI p0.f_batch.fKnown.x0.fLo,vI p0.f_batch.fKnown.x0.fHi,vI p0.f_batch.fKnown.x1.fLo,vI p0.f_batch.fKnown.x1.fHi,vI p0.f_batch.fKnown.x2.fLo,vI p0.f_batch.fKnown.x2.fHi,.slice Aa u ca],bR Aa ca 23 3 u (aL ae p0.f_taken)]) :
  Calls Try.prog 7 [.pointer (some ⟨r,0,none⟩)].toArray W fun e W2=>∃x:(Option Addr × Nat × Nat),x.2.1=res.2.f_taken.length∧e=.returned (vI res.1)∧Ext Q W2 [R,ac r 74 [vI res.2.f_batch.fBarrows,vI res.2.f_batch.fSeen.x0,vI res.2.f_batch.fSeen.x1,vI res.2.f_batch.fSeen.x2,vI res.2.f_batch.fKnown.x0.fLo,vI res.2.f_batch.fKnown.x0.fHi,vI res.2.f_batch.fKnown.x1.fLo,vI res.2.f_batch.fKnown.x1.fHi,vI res.2.f_batch.fKnown.x2.fLo,vI res.2.f_batch.fKnown.x2.fHi,.slice x.1 x.2.1 x.2.2],bR x.1 x.2.2 23 3 x.2.1 (aL ae res.2.f_taken)]:=by
 subst w
 unfold bp at h
 refine fM (m:=52) Try.func7 E E (nB E) hW (cS (cR (oY E (yAI E) (oN (eT (cS (cS (cR (oY E (aN E) (oY E (bE E) (oY E (yFA fL E) (oY E (yL 1 jQ E E E) (oY E (bZ (us:=[]) fR E) (oY E (fc E E) (oN (eT ?_))))))))))))))))
 rcases iOs h with⟨D,h⟩|⟨D,h⟩
 ·refine cT (vB D) (cS (cR (oY E (yAI E) (oN (eT (ag (aa ?_)))))))
  obtain rfl:=sI h
  exact am (.inl E) E (rVt (v:=vI 4) E) (fun W2 F=>⟨(Aa,p0.f_taken.length,ca),E,E,F.take 3⟩)
 ·refine cF (vB D) (cK (eT (cS (cR (oY E (aN E) (oY E (bE E) (oY E (yFA fL E) (oY E (yL 1 jQ E E E) (oY E (bZ (us:=[]) fR E) (oY E (cG E E) (oY E (yAI E) (oN (eT (cS (cS (cR (oY E (aN E) (oY E (bE E) (oY E (yFA fL E) (oY E (yL 1 jQ E E E) (oY E (yMI E) ?_)))))))))))))))))))))
  obtain⟨d,h⟩:=gOs h
  refine oY E (yI sl_52 (by decide) d.1 d.2 (RdL.row 2 E) (eL aB E) E E) ?_
  refine oY E (yM (A:=Aa) (j:=(Int.toNat (w64 ((p0.f_taken.length:Int)-1))*3)) [vI ((rdL p0.f_taken (w64 ((p0.f_taken.length:Int)-1))).x0),vI ((rdL p0.f_taken (w64 ((p0.f_taken.length:Int)-1))).x1),vI ((rdL p0.f_taken (w64 ((p0.f_taken.length:Int)-1))).x2)] bm (Nat.succ_pos _) (RdL.row 2 E) E (bx aB d.1 (bC d.2 E))) (oY E (yMI E) (oN (eT (cB ?_))))
  obtain⟨U,I,h⟩:=bOs h
  refine a8 (fun(s:(Int × Int × Int × Int)) L tm=>∃(O:Nat→Value),L=[R,ac r 74 [vI p0.f_batch.fBarrows,vI s.2.1,vI s.2.2.1,vI s.2.2.2,vI p0.f_batch.fKnown.x0.fLo,vI p0.f_batch.fKnown.x0.fHi,vI p0.f_batch.fKnown.x1.fLo,vI p0.f_batch.fKnown.x1.fHi,vI p0.f_batch.fKnown.x2.fLo,vI p0.f_batch.fKnown.x2.fHi,.slice Aa p0.f_taken.length ca],bR Aa ca 23 3 p0.f_taken.length (aL ae p0.f_taken)]∧tm=(upd (upd (upd (upd (upd O 0 (.pointer (some ⟨r,0,none⟩))) 2 (vI 0)) 3 (vI (w64 ((p0.f_taken.length:Int)-1)))) 24 (.agg #[vI ((rdL p0.f_taken (w64 ((p0.f_taken.length:Int)-1))).x0),vI ((rdL p0.f_taken (w64 ((p0.f_taken.length:Int)-1))).x1),vI ((rdL p0.f_taken (w64 ((p0.f_taken.length:Int)-1))).x2)])) 25 (vI s.1))) 0 I ⟨_,E,(kp4 (kp E))⟩ ?_ ?_
  ·rintro f L tm st ⟨M,rfl,rfl⟩ h
   unfold aF at h
   refine cS (cR (oY E (cX E E) (oN (eT (cS ?_)))))
   rcases iOs h with⟨G,h⟩|⟨G,h⟩
   ·refine cT (vB G) (cK (eT (cS (cB (cS (cR (oY E (yMI E) ?_)))))))
    obtain⟨K,h⟩:=gOs h
    refine oY E (iF (a:=((rdL p0.f_taken (w64 ((p0.f_taken.length:Int)-1))).x0)) (b:=((rdL p0.f_taken (w64 ((p0.f_taken.length:Int)-1))).x1)) (c:=((rdL p0.f_taken (w64 ((p0.f_taken.length:Int)-1))).x2)) fF az K.1 K.2 E E) (oY E (yAI E) (oY E (yAI E) (oN (eT ?_))))
    refine aK 13 cm (by kernel_rfl) (by kernel_rfl) ?_
    refine qY E (aN E) (qY E (yMI E) (qY E (bE E) (qY E (yFA iC E) (qY E (yFA bA E) ?_))))
    obtain⟨H,h⟩:=gOs h
    refine qY E (aq cY H.1 H.2 E E) ?_
    refine qY E (yL 1 (v:=vI (aH f.2.1 f.2.2.1 f.2.2.2 f.1)) az E E (by rcases in3 H with e|e|e <;> rw[e] <;> rfl)) ?_
    refine qY E (yMI E) (qY E (cG E E) (qY E (bE E) (qY E (yFA iC E) (qY E (yFA bA E) ?_))))
    obtain⟨g,h⟩:=gOs h
    refine qY E (aq cY g.1 g.2 E E) (bt ?_)
    refine cg E (fb 1 [vI p0.f_batch.fBarrows,vI (fH f.1 0 (w64 ((aH f.2.1 f.2.2.1 f.2.2.2 f.1)-(aH ((rdL p0.f_taken (w64 ((p0.f_taken.length:Int)-1))).x0) ((rdL p0.f_taken (w64 ((p0.f_taken.length:Int)-1))).x1) ((rdL p0.f_taken (w64 ((p0.f_taken.length:Int)-1))).x2) f.1))) f.2.1),vI (fH f.1 1 (w64 ((aH f.2.1 f.2.2.1 f.2.2.2 f.1)-(aH ((rdL p0.f_taken (w64 ((p0.f_taken.length:Int)-1))).x0) ((rdL p0.f_taken (w64 ((p0.f_taken.length:Int)-1))).x1) ((rdL p0.f_taken (w64 ((p0.f_taken.length:Int)-1))).x2) f.1))) f.2.2.1),vI (fH f.1 2 (w64 ((aH f.2.1 f.2.2.1 f.2.2.2 f.1)-(aH ((rdL p0.f_taken (w64 ((p0.f_taken.length:Int)-1))).x0) ((rdL p0.f_taken (w64 ((p0.f_taken.length:Int)-1))).x1) ((rdL p0.f_taken (w64 ((p0.f_taken.length:Int)-1))).x2) f.1))) f.2.2.2),vI p0.f_batch.fKnown.x0.fLo,vI p0.f_batch.fKnown.x0.fHi,vI p0.f_batch.fKnown.x1.fLo,vI p0.f_batch.fKnown.x1.fHi,vI p0.f_batch.fKnown.x2.fLo,vI p0.f_batch.fKnown.x2.fHi,.slice Aa p0.f_taken.length ca] iR E (by rcases in3 g with e|e|e <;> rw[e] <;> exact Nat.lt_of_lt_of_le (Nat.lt_succ_self _) (nB E)) (by rcases in3 g with e|e|e <;> rw[e] <;> rfl) E E E) ?_
    refine oN (ay (eT (cR (oY E (bf E E) (oY E (yMI E) (oN ?_))))))
    obtain rfl:=sI h
    exact eN ⟨_,E,(kp4 (kp E))⟩
   ·refine cF (vB G) (aR (al ?_))
    obtain rfl:=sI h
    exact aD ⟨E,_,E,(kp4 (kp E))⟩
  ·intro e L tm hJ
   obtain⟨rfl,N,rfl,rfl⟩:=hJ
   refine⟨(by intro hc;cases hc),?_⟩
   refine ak (eT (cS (cR (oY E (aN E) (oY E (aN E) (oY E (bE E) (oY E (yFA fL E) (oY E (yL 1 jQ E E E) (oY E (yMI E) ?_)))))))))
   obtain⟨o,h⟩:=gOs h
   refine oY E (la sl_52 o.1 o.2 (RdL.row 2 E) E E) (oY E (bE E) (oY E (yFA fL E) (jn 2 aB E (Int.toNat_le.2 o.2) (cg E (dE 1 (v:=.slice Aa (Int.toNat (w64 ((p0.f_taken.length:Int)-1))) ca) sz_52 E (Nat.lt_of_lt_of_le (Nat.lt_succ_self _) (nB E)) E E E) (oN (eT (cS (cR (oY E (yAI E) (oN (eT (ag ?_))))))))))))
   obtain rfl:=sI h
   exact am (.inl E) E (rVt (v:=vI 0) E) (fun W2 F=>⟨(Aa,Int.toNat (w64 ((p0.f_taken.length:Int)-1)),ca),(gI o.2 E),E,F.take 3⟩)
theorem gz (p0:TBatch) (p1:TKinds) (res:TMade) (h:dU p0 p1=some res) (W:World)  :
  Calls Try.prog 8 [.agg #[vI p0.fBarrows,vI p0.fSeen.x0,vI p0.fSeen.x1,vI p0.fSeen.x2,vI p0.fKnown.x0.fLo,vI p0.fKnown.x0.fHi,vI p0.fKnown.x1.fLo,vI p0.fKnown.x1.fHi,vI p0.fKnown.x2.fLo,vI p0.fKnown.x2.fHi],.agg #[vI p1.x0,vI p1.x1,vI p1.x2]].toArray W fun e W2=>e=.returned (.agg #[vI res.fB.fBarrows,vI res.fB.fSeen.x0,vI res.fB.fSeen.x1,vI res.fB.fSeen.x2,vI res.fB.fKnown.x0.fLo,vI res.fB.fKnown.x0.fHi,vI res.fB.fKnown.x1.fLo,vI res.fB.fKnown.x1.fHi,vI res.fB.fKnown.x2.fLo,vI res.fB.fKnown.x2.fHi,vI res.fE])∧Ext W W2 []:=by
 unfold dU at h
 refine ad (m:=55) Try.func8 E E (nB E) (cS (cR ?_))
 refine aV [vI p0.fBarrows,vI p0.fSeen.x0,vI p0.fSeen.x1,vI p0.fSeen.x2,vI p0.fKnown.x0.fLo,vI p0.fKnown.x0.fHi,vI p0.fKnown.x1.fLo,vI p0.fKnown.x1.fHi,vI p0.fKnown.x2.fLo,vI p0.fKnown.x2.fHi] E E E (fun U=>?_)
 refine aV [vI p1.x0,vI p1.x1,vI p1.x2] E E E (fun X=>?_)
 refine aG gj E (fun Y=>?_)
 refine oN (eT (cS (cR (oY E (yN 0 [vI p0.fBarrows,vI p0.fSeen.x0,vI p0.fSeen.x1,vI p0.fSeen.x2,vI p0.fKnown.x0.fLo,vI p0.fKnown.x0.fHi,vI p0.fKnown.x1.fLo,vI p0.fKnown.x1.fHi,vI p0.fKnown.x2.fLo,vI p0.fKnown.x2.fHi] a6 E E E) ?_))))
 obtain⟨y4,oO,h⟩:=bOs h
 refine oY E (yC [.agg #[vI p0.fBarrows,vI p0.fSeen.x0,vI p0.fSeen.x1,vI p0.fSeen.x2,vI p0.fKnown.x0.fLo,vI p0.fKnown.x0.fHi,vI p0.fKnown.x1.fLo,vI p0.fKnown.x1.fHi,vI p0.fKnown.x2.fLo,vI p0.fKnown.x2.fHi]] go_6 E (fun W2 f=>bS p0 y4 oO W2 ) E) (oY E (yAI E) (oN (eT (cS (cS (cR (oY E (yMI E) (oY E (fc E E) (oY E (yMB E) ?_)))))))))
 obtain⟨b7,oQ,h⟩:=bOs h
 refine oJ 4 (fun I=>(upd (upd (upd (upd (upd I 2 (.pointer (some ⟨U,0,none⟩))) 3 (.pointer (some ⟨X,0,none⟩))) 4 (.pointer (some ⟨Y,0,none⟩))) 5 (vI y4)) 15 (.bool b7))) (fun I=>?_) (fun key=>?_)
 ·refine oN (eT ?_)
  rcases iOs h with⟨gf,h⟩|⟨gf,h⟩
  ·refine cT (vB gf) (cR (oY E (yAI E) (oN (eT (cS (cS ?_))))))
   refine aK 13 cm (by kernel_rfl) (by kernel_rfl) ?_
   refine qY E (yMI E) (qY E (fc E E) (qY E (yMB E) ?_))
   obtain⟨oU,o0,h⟩:=bOs h
   refine qJ 10 (fun I=>(upd (upd (upd (upd (upd I 2 (.pointer (some ⟨U,0,none⟩))) 3 (.pointer (some ⟨X,0,none⟩))) 4 (.pointer (some ⟨Y,0,none⟩))) 5 (vI 1)) 28 (.bool oU))) (fun I=>?_) (fun key=>?_)
   ·refine bt (oN (eT ?_))
    rcases iOs h with⟨Z,h⟩|⟨Z,h⟩
    ·refine cT (vB Z) (cR (oY E (yAI E) (oN (eT (cS (cS (cR (oY E (yMI E) (oY E (bO E E) (oN (eT ?_)))))))))))
     rcases iOs h with⟨V,h⟩|⟨V,h⟩
     ·refine cT (vB V) (cS (cR (oY E (yMI E) ?_)))
      refine oY E (aw [vI 0,vI 0,vI 0,vI 0,vI 0,vI 0,vI 0,vI 0,vI 0,vI 0,vI 3] [(0,10),(10,1)] fD gj (by kernel_rfl)) ?_
      refine cg E (yS 2 [vI 0,vI 0,vI 0,vI 0,vI 0,vI 0,vI 0,vI 0,vI 0,vI 0,vI 3] gG E (nB E) E E E) (oN (eT (ag (aa ?_))))
      obtain rfl:=sI h
      exact am (.inl E) E (av 2 [vI 0,vI 0,vI 0,vI 0,vI 0,vI 0,vI 0,vI 0,vI 0,vI 0,vI 3] ia E E E) (fun W2 f=>⟨E,f.none⟩)
     ·refine cF (vB V) (cK (eT (cS (cS (cR (oY E (yAI E) (oN (eT (cB ?_)))))))))
      obtain⟨D,o1,h⟩:=bOs h
      refine a8 (fun(s:(Int × Int × Int × Int)) L tm=>∃(I:Nat→Value),L=[ac U 28 [vI p0.fBarrows,vI s.2.1,vI s.2.2.1,vI s.2.2.2,vI p0.fKnown.x0.fLo,vI p0.fKnown.x0.fHi,vI p0.fKnown.x1.fLo,vI p0.fKnown.x1.fHi,vI p0.fKnown.x2.fLo,vI p0.fKnown.x2.fHi],ac X 23 [vI p1.x0,vI p1.x1,vI p1.x2],ac Y 41 [vI 0,vI 0,vI 0,vI 0,vI 0,vI 0,vI 0,vI 0,vI 0,vI 0,vI 0]]∧tm=(upd (upd (upd (upd (upd I 2 (.pointer (some ⟨U,0,none⟩))) 3 (.pointer (some ⟨X,0,none⟩))) 4 (.pointer (some ⟨Y,0,none⟩))) 5 (vI 3)) 6 (vI s.1))) 0 o1 ⟨_,E,(kp4 (kp E))⟩ ?_ ?_
      ·rintro r L tm st ⟨o2,rfl,rfl⟩ h
       unfold gD at h
       refine cS (cS (cR (oY E (yMI E) (oY E (cX E E) (oN (eT ?_))))))
       rcases iOs h with⟨T,h⟩|⟨T,h⟩
       ·refine cT (vB T) (cK (eT (cS (cB ?_))))
        refine aK 10 cm (by kernel_rfl) (by kernel_rfl) ?_
        refine qY E (yMI E) (qY E (yFA bA E) ?_)
        obtain⟨S,h⟩:=gOs h
        refine qY E (aq cY S.1 S.2 E E) ?_
        refine qY E (yL 0 (v:=vI (aH r.2.1 r.2.2.1 r.2.2.2 r.1)) az E E (by rcases in3 S with e|e|e <;> rw[e] <;> rfl)) ?_
        refine qY E (yMI E) ?_
        obtain⟨R,h⟩:=gOs h
        refine qY E (aq cY R.1 R.2 E E) ?_
        refine qY E (yL 1 (v:=vI (aH p1.x0 p1.x1 p1.x2 r.1)) az E E (by rcases in3 R with e|e|e <;> rw[e] <;> rfl)) ?_
        refine qY E (bf E E) (qY E (yFA bA E) ?_)
        obtain⟨M,h⟩:=gOs h
        refine qY E (aq cY M.1 M.2 E E) (bt ?_)
        refine cg E (fb 0 [vI p0.fBarrows,vI (fH r.1 0 (w64 ((aH r.2.1 r.2.2.1 r.2.2.2 r.1)+(aH p1.x0 p1.x1 p1.x2 r.1))) r.2.1),vI (fH r.1 1 (w64 ((aH r.2.1 r.2.2.1 r.2.2.2 r.1)+(aH p1.x0 p1.x1 p1.x2 r.1))) r.2.2.1),vI (fH r.1 2 (w64 ((aH r.2.1 r.2.2.1 r.2.2.2 r.1)+(aH p1.x0 p1.x1 p1.x2 r.1))) r.2.2.2),vI p0.fKnown.x0.fLo,vI p0.fKnown.x0.fHi,vI p0.fKnown.x1.fLo,vI p0.fKnown.x1.fHi,vI p0.fKnown.x2.fLo,vI p0.fKnown.x2.fHi] iR E (by rcases in3 M with e|e|e <;> rw[e] <;> exact Nat.lt_of_lt_of_le (Nat.lt_succ_self _) (nB E)) (by rcases in3 M with e|e|e <;> rw[e] <;> rfl) E E E) ?_
        refine oN (ay (eT (cR (oY E (yMI E) (oY E (bf E E) (oY E (yAI E) (oN ?_)))))))
        obtain rfl:=sI h
        exact eN ⟨_,E,(kp4 (kp E))⟩
       ·refine cF (vB T) (aR (al ?_))
        obtain rfl:=sI h
        exact aD ⟨E,_,E,(kp4 (kp E))⟩
      ·intro e L tm hJ
       obtain⟨rfl,o3,rfl,rfl⟩:=hJ
       refine⟨(by intro hc;cases hc),?_⟩
       refine ak (eT (cS (cR (oY E (yN 0 [vI p0.fBarrows,vI D.2.1,vI D.2.2.1,vI D.2.2.2,vI p0.fKnown.x0.fLo,vI p0.fKnown.x0.fHi,vI p0.fKnown.x1.fLo,vI p0.fKnown.x1.fHi,vI p0.fKnown.x2.fLo,vI p0.fKnown.x2.fHi] a6 E E E) ?_))))
       obtain⟨f3,o4,h⟩:=bOs h
       refine oY E (yC [.agg #[vI p0.fBarrows,vI D.2.1,vI D.2.2.1,vI D.2.2.2,vI p0.fKnown.x0.fLo,vI p0.fKnown.x0.fHi,vI p0.fKnown.x1.fLo,vI p0.fKnown.x1.fHi,vI p0.fKnown.x2.fLo,vI p0.fKnown.x2.fHi]] go_6 E (fun W2 f=>bS (TBatch.mk p0.fBarrows (TKinds.mk D.2.1 D.2.2.1 D.2.2.2) p0.fKnown) f3 o4 W2 ) E) (oY E (yAI E) (oN (eT (cS (cS (cR (oY E (yMI E) (oY E (bO E E) (oN (eT ?_))))))))))
       rcases iOs h with⟨q,h⟩|⟨q,h⟩
       ·refine cT (vB q) (cS (cR (oY E (yMI E) ?_)))
        refine oY E (aw [vI 0,vI 0,vI 0,vI 0,vI 0,vI 0,vI 0,vI 0,vI 0,vI 0,vI f3] [(0,10),(10,1)] fD gj (by kernel_rfl)) ?_
        refine cg E (yS 2 [vI 0,vI 0,vI 0,vI 0,vI 0,vI 0,vI 0,vI 0,vI 0,vI 0,vI f3] gG E (nB E) E E E) (oN (eT (ag (aa ?_))))
        obtain rfl:=sI h
        exact am (.inl E) E (av 2 [vI 0,vI 0,vI 0,vI 0,vI 0,vI 0,vI 0,vI 0,vI 0,vI 0,vI f3] ia E E E) (fun W2 f=>⟨E,f.none⟩)
       ·refine cF (vB q) (cK (eT (cS (cR (oY E (yN 0 [vI p0.fBarrows,vI D.2.1,vI D.2.2.1,vI D.2.2.2,vI p0.fKnown.x0.fLo,vI p0.fKnown.x0.fHi,vI p0.fKnown.x1.fLo,vI p0.fKnown.x1.fHi,vI p0.fKnown.x2.fLo,vI p0.fKnown.x2.fHi] a6 E E E) ?_)))))
        refine oY E (aw [vI p0.fBarrows,vI D.2.1,vI D.2.2.1,vI D.2.2.2,vI p0.fKnown.x0.fLo,vI p0.fKnown.x0.fHi,vI p0.fKnown.x1.fLo,vI p0.fKnown.x1.fHi,vI p0.fKnown.x2.fLo,vI p0.fKnown.x2.fHi,vI 0] [(0,10),(10,1)] fD gj (by kernel_rfl)) ?_
        refine cg E (yS 2 [vI p0.fBarrows,vI D.2.1,vI D.2.2.1,vI D.2.2.2,vI p0.fKnown.x0.fLo,vI p0.fKnown.x0.fHi,vI p0.fKnown.x1.fLo,vI p0.fKnown.x1.fHi,vI p0.fKnown.x2.fLo,vI p0.fKnown.x2.fHi,vI 0] gG E (nB E) E E E) (oN (eT (ag ?_)))
        obtain rfl:=sI h
        exact am (.inl E) E (av 2 [vI p0.fBarrows,vI D.2.1,vI D.2.2.1,vI D.2.2.2,vI p0.fKnown.x0.fLo,vI p0.fKnown.x0.fHi,vI p0.fKnown.x1.fLo,vI p0.fKnown.x1.fHi,vI p0.fKnown.x2.fLo,vI p0.fKnown.x2.fHi,vI 0] ia E E E) (fun W2 f=>⟨E,f.none⟩)
    ·refine cF (vB Z) (cK (eT (cS (cS (cR (oY E (yMI E) (oY E (bO E E) (oN (eT ?_)))))))))
     rcases iOs h with⟨p,h⟩|⟨p,h⟩
     ·refine cT (vB p) (cS (cR (oY E (yMI E) ?_)))
      refine oY E (aw [vI 0,vI 0,vI 0,vI 0,vI 0,vI 0,vI 0,vI 0,vI 0,vI 0,vI 1] [(0,10),(10,1)] fD gj (by kernel_rfl)) ?_
      refine cg E (yS 2 [vI 0,vI 0,vI 0,vI 0,vI 0,vI 0,vI 0,vI 0,vI 0,vI 0,vI 1] gG E (nB E) E E E) (oN (eT (ag (aa ?_))))
      obtain rfl:=sI h
      exact am (.inl E) E (av 2 [vI 0,vI 0,vI 0,vI 0,vI 0,vI 0,vI 0,vI 0,vI 0,vI 0,vI 1] ia E E E) (fun W2 f=>⟨E,f.none⟩)
     ·refine cF (vB p) (cK (eT (cS (cS (cR (oY E (yAI E) (oN (eT (cB ?_)))))))))
      obtain⟨F,o5,h⟩:=bOs h
      refine a8 (fun(s:(Int × Int × Int × Int)) L tm=>∃(I:Nat→Value),L=[ac U 28 [vI p0.fBarrows,vI s.2.1,vI s.2.2.1,vI s.2.2.2,vI p0.fKnown.x0.fLo,vI p0.fKnown.x0.fHi,vI p0.fKnown.x1.fLo,vI p0.fKnown.x1.fHi,vI p0.fKnown.x2.fLo,vI p0.fKnown.x2.fHi],ac X 23 [vI p1.x0,vI p1.x1,vI p1.x2],ac Y 41 [vI 0,vI 0,vI 0,vI 0,vI 0,vI 0,vI 0,vI 0,vI 0,vI 0,vI 0]]∧tm=(upd (upd (upd (upd (upd I 2 (.pointer (some ⟨U,0,none⟩))) 3 (.pointer (some ⟨X,0,none⟩))) 4 (.pointer (some ⟨Y,0,none⟩))) 5 (vI 1)) 6 (vI s.1))) 0 o5 ⟨_,E,(kp4 (kp E))⟩ ?_ ?_
      ·rintro u L tm st ⟨o6,rfl,rfl⟩ h
       unfold gH at h
       refine cS (cS (cR (oY E (yMI E) (oY E (cX E E) (oN (eT ?_))))))
       rcases iOs h with⟨n,h⟩|⟨n,h⟩
       ·refine cT (vB n) (cK (eT (cS (cB ?_))))
        refine aK 10 cm (by kernel_rfl) (by kernel_rfl) ?_
        refine qY E (yMI E) (qY E (yFA bA E) ?_)
        obtain⟨l,h⟩:=gOs h
        refine qY E (aq cY l.1 l.2 E E) ?_
        refine qY E (yL 0 (v:=vI (aH u.2.1 u.2.2.1 u.2.2.2 u.1)) az E E (by rcases in3 l with e|e|e <;> rw[e] <;> rfl)) ?_
        refine qY E (yMI E) ?_
        obtain⟨t,h⟩:=gOs h
        refine qY E (aq cY t.1 t.2 E E) ?_
        refine qY E (yL 1 (v:=vI (aH p1.x0 p1.x1 p1.x2 u.1)) az E E (by rcases in3 t with e|e|e <;> rw[e] <;> rfl)) ?_
        refine qY E (bf E E) (qY E (yFA bA E) ?_)
        obtain⟨N,h⟩:=gOs h
        refine qY E (aq cY N.1 N.2 E E) (bt ?_)
        refine cg E (fb 0 [vI p0.fBarrows,vI (fH u.1 0 (w64 ((aH u.2.1 u.2.2.1 u.2.2.2 u.1)+(aH p1.x0 p1.x1 p1.x2 u.1))) u.2.1),vI (fH u.1 1 (w64 ((aH u.2.1 u.2.2.1 u.2.2.2 u.1)+(aH p1.x0 p1.x1 p1.x2 u.1))) u.2.2.1),vI (fH u.1 2 (w64 ((aH u.2.1 u.2.2.1 u.2.2.2 u.1)+(aH p1.x0 p1.x1 p1.x2 u.1))) u.2.2.2),vI p0.fKnown.x0.fLo,vI p0.fKnown.x0.fHi,vI p0.fKnown.x1.fLo,vI p0.fKnown.x1.fHi,vI p0.fKnown.x2.fLo,vI p0.fKnown.x2.fHi] iR E (by rcases in3 N with e|e|e <;> rw[e] <;> exact Nat.lt_of_lt_of_le (Nat.lt_succ_self _) (nB E)) (by rcases in3 N with e|e|e <;> rw[e] <;> rfl) E E E) ?_
        refine oN (ay (eT (cR (oY E (yMI E) (oY E (bf E E) (oY E (yAI E) (oN ?_)))))))
        obtain rfl:=sI h
        exact eN ⟨_,E,(kp4 (kp E))⟩
       ·refine cF (vB n) (aR (al ?_))
        obtain rfl:=sI h
        exact aD ⟨E,_,E,(kp4 (kp E))⟩
      ·intro e L tm hJ
       obtain⟨rfl,o7,rfl,rfl⟩:=hJ
       refine⟨(by intro hc;cases hc),?_⟩
       refine ak (eT (cS (cR (oY E (yN 0 [vI p0.fBarrows,vI F.2.1,vI F.2.2.1,vI F.2.2.2,vI p0.fKnown.x0.fLo,vI p0.fKnown.x0.fHi,vI p0.fKnown.x1.fLo,vI p0.fKnown.x1.fHi,vI p0.fKnown.x2.fLo,vI p0.fKnown.x2.fHi] a6 E E E) ?_))))
       obtain⟨fr,o8,h⟩:=bOs h
       refine oY E (yC [.agg #[vI p0.fBarrows,vI F.2.1,vI F.2.2.1,vI F.2.2.2,vI p0.fKnown.x0.fLo,vI p0.fKnown.x0.fHi,vI p0.fKnown.x1.fLo,vI p0.fKnown.x1.fHi,vI p0.fKnown.x2.fLo,vI p0.fKnown.x2.fHi]] go_6 E (fun W2 f=>bS (TBatch.mk p0.fBarrows (TKinds.mk F.2.1 F.2.2.1 F.2.2.2) p0.fKnown) fr o8 W2 ) E) (oY E (yAI E) (oN (eT (cS (cS (cR (oY E (yMI E) (oY E (bO E E) (oN (eT ?_))))))))))
       rcases iOs h with⟨a,h⟩|⟨a,h⟩
       ·refine cT (vB a) (cS (cR (oY E (yMI E) ?_)))
        refine oY E (aw [vI 0,vI 0,vI 0,vI 0,vI 0,vI 0,vI 0,vI 0,vI 0,vI 0,vI fr] [(0,10),(10,1)] fD gj (by kernel_rfl)) ?_
        refine cg E (yS 2 [vI 0,vI 0,vI 0,vI 0,vI 0,vI 0,vI 0,vI 0,vI 0,vI 0,vI fr] gG E (nB E) E E E) (oN (eT (ag (aa ?_))))
        obtain rfl:=sI h
        exact am (.inl E) E (av 2 [vI 0,vI 0,vI 0,vI 0,vI 0,vI 0,vI 0,vI 0,vI 0,vI 0,vI fr] ia E E E) (fun W2 f=>⟨E,f.none⟩)
       ·refine cF (vB a) (cK (eT (cS (cR (oY E (yN 0 [vI p0.fBarrows,vI F.2.1,vI F.2.2.1,vI F.2.2.2,vI p0.fKnown.x0.fLo,vI p0.fKnown.x0.fHi,vI p0.fKnown.x1.fLo,vI p0.fKnown.x1.fHi,vI p0.fKnown.x2.fLo,vI p0.fKnown.x2.fHi] a6 E E E) ?_)))))
        refine oY E (aw [vI p0.fBarrows,vI F.2.1,vI F.2.2.1,vI F.2.2.2,vI p0.fKnown.x0.fLo,vI p0.fKnown.x0.fHi,vI p0.fKnown.x1.fLo,vI p0.fKnown.x1.fHi,vI p0.fKnown.x2.fLo,vI p0.fKnown.x2.fHi,vI 0] [(0,10),(10,1)] fD gj (by kernel_rfl)) ?_
        refine cg E (yS 2 [vI p0.fBarrows,vI F.2.1,vI F.2.2.1,vI F.2.2.2,vI p0.fKnown.x0.fLo,vI p0.fKnown.x0.fHi,vI p0.fKnown.x1.fLo,vI p0.fKnown.x1.fHi,vI p0.fKnown.x2.fLo,vI p0.fKnown.x2.fHi,vI 0] gG E (nB E) E E E) (oN (eT (ag ?_)))
        obtain rfl:=sI h
        exact am (.inl E) E (av 2 [vI p0.fBarrows,vI F.2.1,vI F.2.2.1,vI F.2.2.2,vI p0.fKnown.x0.fLo,vI p0.fKnown.x0.fHi,vI p0.fKnown.x1.fLo,vI p0.fKnown.x1.fHi,vI p0.fKnown.x2.fLo,vI p0.fKnown.x2.fHi,vI 0] ia E E E) (fun W2 f=>⟨E,f.none⟩)
   ·clear h;rcases iOs o0 with⟨g,h⟩|⟨g,h⟩
    ·refine qY (sT E E E E g) (yN 1 [vI p1.x0,vI p1.x1,vI p1.x2] bm E E E) ?_
     obtain⟨oX,o9,h⟩:=bOs h
     refine qY (sT E E E E g) (yC [.agg #[vI p1.x0,vI p1.x1,vI p1.x2]] kW E (fun W2 f=>dK p1 oX o9 W2 ) E) (qY (sT E E E E g) (yFA cU E) (qY (sT E E E E g) (yL 0 az E E E) (qY (sT E E E E g) (yFA bA E) (qY (sT E E E E g) (yN 0 [vI p0.fSeen.x0,vI p0.fSeen.x1,vI p0.fSeen.x2] bm E E E) ?_))))
     obtain⟨oZ,og,h⟩:=bOs h
     refine qY (sT E E E E g) (yC [.agg #[vI p0.fSeen.x0,vI p0.fSeen.x1,vI p0.fSeen.x2]] kW E (fun W2 f=>dK p0.fSeen oZ og W2 ) E) (qY (sT E E E E g) (cG E E) (qY (sT E E E E g) (eZ E E) (qY E (ai (vB g) E) ?_)))
     obtain rfl:=sI h
     exact key _ _ (kp4 (kp E))
    ·refine ab (sF E E E E g) (ab (sF E E E E g) (ab (sF E E E E g) (ab (sF E E E E g) (ab (sF E E E E g) (ab (sF E E E E g) (ab (sF E E E E g) (ab (sF E E E E g) (ab (sF E E E E g) (qY E (aj (vB g) E) ?_)))))))))
     obtain rfl:=sI h
     exact key _ _ (kp4 (kp E))
  ·refine cF (vB gf) (cK (eT (cS (cS ?_))))
   refine aK 13 cm (by kernel_rfl) (by kernel_rfl) ?_
   refine qY E (yMI E) (qY E (fc E E) (qY E (yMB E) ?_))
   obtain⟨oV,oo,h⟩:=bOs h
   refine qJ 10 (fun I=>(upd (upd (upd (upd (upd I 2 (.pointer (some ⟨U,0,none⟩))) 3 (.pointer (some ⟨X,0,none⟩))) 4 (.pointer (some ⟨Y,0,none⟩))) 5 (vI y4)) 28 (.bool oV))) (fun I=>?_) (fun key=>?_)
   ·refine bt (oN (eT ?_))
    rcases iOs h with⟨z,h⟩|⟨z,h⟩
    ·refine cT (vB z) (cR (oY E (yAI E) (oN (eT (cS (cS (cR (oY E (yMI E) (oY E (bO E E) (oN (eT ?_)))))))))))
     rcases iOs h with⟨i,h⟩|⟨i,h⟩
     ·refine cT (vB i) (cS (cR (oY E (yMI E) ?_)))
      refine oY E (aw [vI 0,vI 0,vI 0,vI 0,vI 0,vI 0,vI 0,vI 0,vI 0,vI 0,vI 3] [(0,10),(10,1)] fD gj (by kernel_rfl)) ?_
      refine cg E (yS 2 [vI 0,vI 0,vI 0,vI 0,vI 0,vI 0,vI 0,vI 0,vI 0,vI 0,vI 3] gG E (nB E) E E E) (oN (eT (ag (aa ?_))))
      obtain rfl:=sI h
      exact am (.inl E) E (av 2 [vI 0,vI 0,vI 0,vI 0,vI 0,vI 0,vI 0,vI 0,vI 0,vI 0,vI 3] ia E E E) (fun W2 f=>⟨E,f.none⟩)
     ·refine cF (vB i) (cK (eT (cS (cS (cR (oY E (yAI E) (oN (eT (cB ?_)))))))))
      obtain⟨G,ou,h⟩:=bOs h
      refine a8 (fun(s:(Int × Int × Int × Int)) L tm=>∃(I:Nat→Value),L=[ac U 28 [vI p0.fBarrows,vI s.2.1,vI s.2.2.1,vI s.2.2.2,vI p0.fKnown.x0.fLo,vI p0.fKnown.x0.fHi,vI p0.fKnown.x1.fLo,vI p0.fKnown.x1.fHi,vI p0.fKnown.x2.fLo,vI p0.fKnown.x2.fHi],ac X 23 [vI p1.x0,vI p1.x1,vI p1.x2],ac Y 41 [vI 0,vI 0,vI 0,vI 0,vI 0,vI 0,vI 0,vI 0,vI 0,vI 0,vI 0]]∧tm=(upd (upd (upd (upd (upd I 2 (.pointer (some ⟨U,0,none⟩))) 3 (.pointer (some ⟨X,0,none⟩))) 4 (.pointer (some ⟨Y,0,none⟩))) 5 (vI 3)) 6 (vI s.1))) 0 ou ⟨_,E,(kp4 (kp E))⟩ ?_ ?_
      ·rintro d L tm st ⟨od,rfl,rfl⟩ h
       unfold gL at h
       refine cS (cS (cR (oY E (yMI E) (oY E (cX E E) (oN (eT ?_))))))
       rcases iOs h with⟨j,h⟩|⟨j,h⟩
       ·refine cT (vB j) (cK (eT (cS (cB ?_))))
        refine aK 10 cm (by kernel_rfl) (by kernel_rfl) ?_
        refine qY E (yMI E) (qY E (yFA bA E) ?_)
        obtain⟨k,h⟩:=gOs h
        refine qY E (aq cY k.1 k.2 E E) ?_
        refine qY E (yL 0 (v:=vI (aH d.2.1 d.2.2.1 d.2.2.2 d.1)) az E E (by rcases in3 k with e|e|e <;> rw[e] <;> rfl)) ?_
        refine qY E (yMI E) ?_
        obtain⟨x,h⟩:=gOs h
        refine qY E (aq cY x.1 x.2 E E) ?_
        refine qY E (yL 1 (v:=vI (aH p1.x0 p1.x1 p1.x2 d.1)) az E E (by rcases in3 x with e|e|e <;> rw[e] <;> rfl)) ?_
        refine qY E (bf E E) (qY E (yFA bA E) ?_)
        obtain⟨O,h⟩:=gOs h
        refine qY E (aq cY O.1 O.2 E E) (bt ?_)
        refine cg E (fb 0 [vI p0.fBarrows,vI (fH d.1 0 (w64 ((aH d.2.1 d.2.2.1 d.2.2.2 d.1)+(aH p1.x0 p1.x1 p1.x2 d.1))) d.2.1),vI (fH d.1 1 (w64 ((aH d.2.1 d.2.2.1 d.2.2.2 d.1)+(aH p1.x0 p1.x1 p1.x2 d.1))) d.2.2.1),vI (fH d.1 2 (w64 ((aH d.2.1 d.2.2.1 d.2.2.2 d.1)+(aH p1.x0 p1.x1 p1.x2 d.1))) d.2.2.2),vI p0.fKnown.x0.fLo,vI p0.fKnown.x0.fHi,vI p0.fKnown.x1.fLo,vI p0.fKnown.x1.fHi,vI p0.fKnown.x2.fLo,vI p0.fKnown.x2.fHi] iR E (by rcases in3 O with e|e|e <;> rw[e] <;> exact Nat.lt_of_lt_of_le (Nat.lt_succ_self _) (nB E)) (by rcases in3 O with e|e|e <;> rw[e] <;> rfl) E E E) ?_
        refine oN (ay (eT (cR (oY E (yMI E) (oY E (bf E E) (oY E (yAI E) (oN ?_)))))))
        obtain rfl:=sI h
        exact eN ⟨_,E,(kp4 (kp E))⟩
       ·refine cF (vB j) (aR (al ?_))
        obtain rfl:=sI h
        exact aD ⟨E,_,E,(kp4 (kp E))⟩
      ·intro e L tm hJ
       obtain⟨rfl,ow,rfl,rfl⟩:=hJ
       refine⟨(by intro hc;cases hc),?_⟩
       refine ak (eT (cS (cR (oY E (yN 0 [vI p0.fBarrows,vI G.2.1,vI G.2.2.1,vI G.2.2.2,vI p0.fKnown.x0.fLo,vI p0.fKnown.x0.fHi,vI p0.fKnown.x1.fLo,vI p0.fKnown.x1.fHi,vI p0.fKnown.x2.fLo,vI p0.fKnown.x2.fHi] a6 E E E) ?_))))
       obtain⟨fd,oD,h⟩:=bOs h
       refine oY E (yC [.agg #[vI p0.fBarrows,vI G.2.1,vI G.2.2.1,vI G.2.2.2,vI p0.fKnown.x0.fLo,vI p0.fKnown.x0.fHi,vI p0.fKnown.x1.fLo,vI p0.fKnown.x1.fHi,vI p0.fKnown.x2.fLo,vI p0.fKnown.x2.fHi]] go_6 E (fun W2 f=>bS (TBatch.mk p0.fBarrows (TKinds.mk G.2.1 G.2.2.1 G.2.2.2) p0.fKnown) fd oD W2 ) E) (oY E (yAI E) (oN (eT (cS (cS (cR (oY E (yMI E) (oY E (bO E E) (oN (eT ?_))))))))))
       rcases iOs h with⟨y,h⟩|⟨y,h⟩
       ·refine cT (vB y) (cS (cR (oY E (yMI E) ?_)))
        refine oY E (aw [vI 0,vI 0,vI 0,vI 0,vI 0,vI 0,vI 0,vI 0,vI 0,vI 0,vI fd] [(0,10),(10,1)] fD gj (by kernel_rfl)) ?_
        refine cg E (yS 2 [vI 0,vI 0,vI 0,vI 0,vI 0,vI 0,vI 0,vI 0,vI 0,vI 0,vI fd] gG E (nB E) E E E) (oN (eT (ag (aa ?_))))
        obtain rfl:=sI h
        exact am (.inl E) E (av 2 [vI 0,vI 0,vI 0,vI 0,vI 0,vI 0,vI 0,vI 0,vI 0,vI 0,vI fd] ia E E E) (fun W2 f=>⟨E,f.none⟩)
       ·refine cF (vB y) (cK (eT (cS (cR (oY E (yN 0 [vI p0.fBarrows,vI G.2.1,vI G.2.2.1,vI G.2.2.2,vI p0.fKnown.x0.fLo,vI p0.fKnown.x0.fHi,vI p0.fKnown.x1.fLo,vI p0.fKnown.x1.fHi,vI p0.fKnown.x2.fLo,vI p0.fKnown.x2.fHi] a6 E E E) ?_)))))
        refine oY E (aw [vI p0.fBarrows,vI G.2.1,vI G.2.2.1,vI G.2.2.2,vI p0.fKnown.x0.fLo,vI p0.fKnown.x0.fHi,vI p0.fKnown.x1.fLo,vI p0.fKnown.x1.fHi,vI p0.fKnown.x2.fLo,vI p0.fKnown.x2.fHi,vI 0] [(0,10),(10,1)] fD gj (by kernel_rfl)) ?_
        refine cg E (yS 2 [vI p0.fBarrows,vI G.2.1,vI G.2.2.1,vI G.2.2.2,vI p0.fKnown.x0.fLo,vI p0.fKnown.x0.fHi,vI p0.fKnown.x1.fLo,vI p0.fKnown.x1.fHi,vI p0.fKnown.x2.fLo,vI p0.fKnown.x2.fHi,vI 0] gG E (nB E) E E E) (oN (eT (ag ?_)))
        obtain rfl:=sI h
        exact am (.inl E) E (av 2 [vI p0.fBarrows,vI G.2.1,vI G.2.2.1,vI G.2.2.2,vI p0.fKnown.x0.fLo,vI p0.fKnown.x0.fHi,vI p0.fKnown.x1.fLo,vI p0.fKnown.x1.fHi,vI p0.fKnown.x2.fLo,vI p0.fKnown.x2.fHi,vI 0] ia E E E) (fun W2 f=>⟨E,f.none⟩)
    ·refine cF (vB z) (cK (eT (cS (cS (cR (oY E (yMI E) (oY E (bO E E) (oN (eT ?_)))))))))
     rcases iOs h with⟨b,h⟩|⟨b,h⟩
     ·refine cT (vB b) (cS (cR (oY E (yMI E) ?_)))
      refine oY E (aw [vI 0,vI 0,vI 0,vI 0,vI 0,vI 0,vI 0,vI 0,vI 0,vI 0,vI y4] [(0,10),(10,1)] fD gj (by kernel_rfl)) ?_
      refine cg E (yS 2 [vI 0,vI 0,vI 0,vI 0,vI 0,vI 0,vI 0,vI 0,vI 0,vI 0,vI y4] gG E (nB E) E E E) (oN (eT (ag (aa ?_))))
      obtain rfl:=sI h
      exact am (.inl E) E (av 2 [vI 0,vI 0,vI 0,vI 0,vI 0,vI 0,vI 0,vI 0,vI 0,vI 0,vI y4] ia E E E) (fun W2 f=>⟨E,f.none⟩)
     ·refine cF (vB b) (cK (eT (cS (cS (cR (oY E (yAI E) (oN (eT (cB ?_)))))))))
      obtain⟨H,oE,h⟩:=bOs h
      refine a8 (fun(s:(Int × Int × Int × Int)) L tm=>∃(I:Nat→Value),L=[ac U 28 [vI p0.fBarrows,vI s.2.1,vI s.2.2.1,vI s.2.2.2,vI p0.fKnown.x0.fLo,vI p0.fKnown.x0.fHi,vI p0.fKnown.x1.fLo,vI p0.fKnown.x1.fHi,vI p0.fKnown.x2.fLo,vI p0.fKnown.x2.fHi],ac X 23 [vI p1.x0,vI p1.x1,vI p1.x2],ac Y 41 [vI 0,vI 0,vI 0,vI 0,vI 0,vI 0,vI 0,vI 0,vI 0,vI 0,vI 0]]∧tm=(upd (upd (upd (upd (upd I 2 (.pointer (some ⟨U,0,none⟩))) 3 (.pointer (some ⟨X,0,none⟩))) 4 (.pointer (some ⟨Y,0,none⟩))) 5 (vI y4)) 6 (vI s.1))) 0 oE ⟨_,E,(kp4 (kp E))⟩ ?_ ?_
      ·rintro w L tm st ⟨oF,rfl,rfl⟩ h
       unfold fg at h
       refine cS (cS (cR (oY E (yMI E) (oY E (cX E E) (oN (eT ?_))))))
       rcases iOs h with⟨c,h⟩|⟨c,h⟩
       ·refine cT (vB c) (cK (eT (cS (cB ?_))))
        refine aK 10 cm (by kernel_rfl) (by kernel_rfl) ?_
        refine qY E (yMI E) (qY E (yFA bA E) ?_)
        obtain⟨f0,h⟩:=gOs h
        refine qY E (aq cY f0.1 f0.2 E E) ?_
        refine qY E (yL 0 (v:=vI (aH w.2.1 w.2.2.1 w.2.2.2 w.1)) az E E (by rcases in3 f0 with e|e|e <;> rw[e] <;> rfl)) ?_
        refine qY E (yMI E) ?_
        obtain⟨f1,h⟩:=gOs h
        refine qY E (aq cY f1.1 f1.2 E E) ?_
        refine qY E (yL 1 (v:=vI (aH p1.x0 p1.x1 p1.x2 w.1)) az E E (by rcases in3 f1 with e|e|e <;> rw[e] <;> rfl)) ?_
        refine qY E (bf E E) (qY E (yFA bA E) ?_)
        obtain⟨Q,h⟩:=gOs h
        refine qY E (aq cY Q.1 Q.2 E E) (bt ?_)
        refine cg E (fb 0 [vI p0.fBarrows,vI (fH w.1 0 (w64 ((aH w.2.1 w.2.2.1 w.2.2.2 w.1)+(aH p1.x0 p1.x1 p1.x2 w.1))) w.2.1),vI (fH w.1 1 (w64 ((aH w.2.1 w.2.2.1 w.2.2.2 w.1)+(aH p1.x0 p1.x1 p1.x2 w.1))) w.2.2.1),vI (fH w.1 2 (w64 ((aH w.2.1 w.2.2.1 w.2.2.2 w.1)+(aH p1.x0 p1.x1 p1.x2 w.1))) w.2.2.2),vI p0.fKnown.x0.fLo,vI p0.fKnown.x0.fHi,vI p0.fKnown.x1.fLo,vI p0.fKnown.x1.fHi,vI p0.fKnown.x2.fLo,vI p0.fKnown.x2.fHi] iR E (by rcases in3 Q with e|e|e <;> rw[e] <;> exact Nat.lt_of_lt_of_le (Nat.lt_succ_self _) (nB E)) (by rcases in3 Q with e|e|e <;> rw[e] <;> rfl) E E E) ?_
        refine oN (ay (eT (cR (oY E (yMI E) (oY E (bf E E) (oY E (yAI E) (oN ?_)))))))
        obtain rfl:=sI h
        exact eN ⟨_,E,(kp4 (kp E))⟩
       ·refine cF (vB c) (aR (al ?_))
        obtain rfl:=sI h
        exact aD ⟨E,_,E,(kp4 (kp E))⟩
      ·intro e L tm hJ
       obtain⟨rfl,oG,rfl,rfl⟩:=hJ
       refine⟨(by intro hc;cases hc),?_⟩
       refine ak (eT (cS (cR (oY E (yN 0 [vI p0.fBarrows,vI H.2.1,vI H.2.2.1,vI H.2.2.2,vI p0.fKnown.x0.fLo,vI p0.fKnown.x0.fHi,vI p0.fKnown.x1.fLo,vI p0.fKnown.x1.fHi,vI p0.fKnown.x2.fLo,vI p0.fKnown.x2.fHi] a6 E E E) ?_))))
       obtain⟨fn,oH,h⟩:=bOs h
       refine oY E (yC [.agg #[vI p0.fBarrows,vI H.2.1,vI H.2.2.1,vI H.2.2.2,vI p0.fKnown.x0.fLo,vI p0.fKnown.x0.fHi,vI p0.fKnown.x1.fLo,vI p0.fKnown.x1.fHi,vI p0.fKnown.x2.fLo,vI p0.fKnown.x2.fHi]] go_6 E (fun W2 f=>bS (TBatch.mk p0.fBarrows (TKinds.mk H.2.1 H.2.2.1 H.2.2.2) p0.fKnown) fn oH W2 ) E) (oY E (yAI E) (oN (eT (cS (cS (cR (oY E (yMI E) (oY E (bO E E) (oN (eT ?_))))))))))
       rcases iOs h with⟨f2,h⟩|⟨f2,h⟩
       ·refine cT (vB f2) (cS (cR (oY E (yMI E) ?_)))
        refine oY E (aw [vI 0,vI 0,vI 0,vI 0,vI 0,vI 0,vI 0,vI 0,vI 0,vI 0,vI fn] [(0,10),(10,1)] fD gj (by kernel_rfl)) ?_
        refine cg E (yS 2 [vI 0,vI 0,vI 0,vI 0,vI 0,vI 0,vI 0,vI 0,vI 0,vI 0,vI fn] gG E (nB E) E E E) (oN (eT (ag (aa ?_))))
        obtain rfl:=sI h
        exact am (.inl E) E (av 2 [vI 0,vI 0,vI 0,vI 0,vI 0,vI 0,vI 0,vI 0,vI 0,vI 0,vI fn] ia E E E) (fun W2 f=>⟨E,f.none⟩)
       ·refine cF (vB f2) (cK (eT (cS (cR (oY E (yN 0 [vI p0.fBarrows,vI H.2.1,vI H.2.2.1,vI H.2.2.2,vI p0.fKnown.x0.fLo,vI p0.fKnown.x0.fHi,vI p0.fKnown.x1.fLo,vI p0.fKnown.x1.fHi,vI p0.fKnown.x2.fLo,vI p0.fKnown.x2.fHi] a6 E E E) ?_)))))
        refine oY E (aw [vI p0.fBarrows,vI H.2.1,vI H.2.2.1,vI H.2.2.2,vI p0.fKnown.x0.fLo,vI p0.fKnown.x0.fHi,vI p0.fKnown.x1.fLo,vI p0.fKnown.x1.fHi,vI p0.fKnown.x2.fLo,vI p0.fKnown.x2.fHi,vI 0] [(0,10),(10,1)] fD gj (by kernel_rfl)) ?_
        refine cg E (yS 2 [vI p0.fBarrows,vI H.2.1,vI H.2.2.1,vI H.2.2.2,vI p0.fKnown.x0.fLo,vI p0.fKnown.x0.fHi,vI p0.fKnown.x1.fLo,vI p0.fKnown.x1.fHi,vI p0.fKnown.x2.fLo,vI p0.fKnown.x2.fHi,vI 0] gG E (nB E) E E E) (oN (eT (ag ?_)))
        obtain rfl:=sI h
        exact am (.inl E) E (av 2 [vI p0.fBarrows,vI H.2.1,vI H.2.2.1,vI H.2.2.2,vI p0.fKnown.x0.fLo,vI p0.fKnown.x0.fHi,vI p0.fKnown.x1.fLo,vI p0.fKnown.x1.fHi,vI p0.fKnown.x2.fLo,vI p0.fKnown.x2.fHi,vI 0] ia E E E) (fun W2 f=>⟨E,f.none⟩)
   ·clear h;rcases iOs oo with⟨o,h⟩|⟨o,h⟩
    ·refine qY (sT E E E E o) (yN 1 [vI p1.x0,vI p1.x1,vI p1.x2] bm E E E) ?_
     obtain⟨oT,oI,h⟩:=bOs h
     refine qY (sT E E E E o) (yC [.agg #[vI p1.x0,vI p1.x1,vI p1.x2]] kW E (fun W2 f=>dK p1 oT oI W2 ) E) (qY (sT E E E E o) (yFA cU E) (qY (sT E E E E o) (yL 0 az E E E) (qY (sT E E E E o) (yFA bA E) (qY (sT E E E E o) (yN 0 [vI p0.fSeen.x0,vI p0.fSeen.x1,vI p0.fSeen.x2] bm E E E) ?_))))
     obtain⟨oS,oK,h⟩:=bOs h
     refine qY (sT E E E E o) (yC [.agg #[vI p0.fSeen.x0,vI p0.fSeen.x1,vI p0.fSeen.x2]] kW E (fun W2 f=>dK p0.fSeen oS oK W2 ) E) (qY (sT E E E E o) (cG E E) (qY (sT E E E E o) (eZ E E) (qY E (ai (vB o) E) ?_)))
     obtain rfl:=sI h
     exact key _ _ (kp4 (kp E))
    ·refine ab (sF E E E E o) (ab (sF E E E E o) (ab (sF E E E E o) (ab (sF E E E E o) (ab (sF E E E E o) (ab (sF E E E E o) (ab (sF E E E E o) (ab (sF E E E E o) (ab (sF E E E E o) (qY E (aj (vB o) E) ?_)))))))))
     obtain rfl:=sI h
     exact key _ _ (kp4 (kp E))
 ·clear h;rcases iOs oQ with⟨K,h⟩|⟨K,h⟩
  ·refine oY (sT E E E E K) (yN 1 [vI p1.x0,vI p1.x1,vI p1.x2] bm E E E) ?_
   obtain⟨oR,oM,h⟩:=bOs h
   refine oY (sT E E E E K) (yC [.agg #[vI p1.x0,vI p1.x1,vI p1.x2]] go_29 E (fun W2 f=>fY p1 oR oM W2 ) E) (oY (sT E E E E K) (dL E) (oY E (ai (vB K) E) ?_))
   obtain rfl:=sI h
   exact key _ _ (kp4 (kp E))
  ·refine oSk (sF E E E E K) (oSk (sF E E E E K) (oSk (sF E E E E K) (oY E (aj (vB K) E) ?_)))
   obtain rfl:=sI h
   exact key _ _ (kp4 (kp E))
theorem iX (p0:TBatch) (p1:TKinds) (res:(TBatch × Int)) (h:ec p0 p1=some res) (W:World)  :
  Calls Try.prog 59 [.agg #[vI p0.fBarrows,vI p0.fSeen.x0,vI p0.fSeen.x1,vI p0.fSeen.x2,vI p0.fKnown.x0.fLo,vI p0.fKnown.x0.fHi,vI p0.fKnown.x1.fLo,vI p0.fKnown.x1.fHi,vI p0.fKnown.x2.fLo,vI p0.fKnown.x2.fHi],.agg #[vI p1.x0,vI p1.x1,vI p1.x2]].toArray W fun e W2=>e=.returned (.tuple #[.agg #[vI res.1.fBarrows,vI res.1.fSeen.x0,vI res.1.fSeen.x1,vI res.1.fSeen.x2,vI res.1.fKnown.x0.fLo,vI res.1.fKnown.x0.fHi,vI res.1.fKnown.x1.fLo,vI res.1.fKnown.x1.fHi,vI res.1.fKnown.x2.fLo,vI res.1.fKnown.x2.fHi],vI res.2])∧Ext W W2 []:=by
 unfold ec at h
 refine ad (m:=51) Try.func59 E E (nB E) (cS (cR ?_))
 refine aV [vI p0.fBarrows,vI p0.fSeen.x0,vI p0.fSeen.x1,vI p0.fSeen.x2,vI p0.fKnown.x0.fLo,vI p0.fKnown.x0.fHi,vI p0.fKnown.x1.fLo,vI p0.fKnown.x1.fHi,vI p0.fKnown.x2.fLo,vI p0.fKnown.x2.fHi] E E E (fun S=>?_)
 refine aV [vI p1.x0,vI p1.x1,vI p1.x2] E E E (fun p=>?_)
 refine aG eV E (fun R=>?_)
 refine oY E (yAI E) (oN (eT (cS (cS (cR (oY E (yN 0 [vI p0.fBarrows,vI p0.fSeen.x0,vI p0.fSeen.x1,vI p0.fSeen.x2,vI p0.fKnown.x0.fLo,vI p0.fKnown.x0.fHi,vI p0.fKnown.x1.fLo,vI p0.fKnown.x1.fHi,vI p0.fKnown.x2.fLo,vI p0.fKnown.x2.fHi] a6 E E E) ?_))))))
 obtain⟨q,X,h⟩:=bOs h
 refine oY E (yC [.agg #[vI p0.fBarrows,vI p0.fSeen.x0,vI p0.fSeen.x1,vI p0.fSeen.x2,vI p0.fKnown.x0.fLo,vI p0.fKnown.x0.fHi,vI p0.fKnown.x1.fLo,vI p0.fKnown.x1.fHi,vI p0.fKnown.x2.fLo,vI p0.fKnown.x2.fHi]] kE E (fun W2 o=>cd p0 q X W2 ) E) (oY E (yAI E) (oN (eT (cS (cR (oY E (yMI E) (oY E (bO E E) (oN (eT ?_)))))))))
 rcases iOs h with⟨G,h⟩|⟨G,h⟩
 ·refine cT (vB G) (cS (cR ?_))
  refine oY E (aw [vI 0,vI 0,vI 0,vI 0,vI 0,vI 0,vI 0,vI 0,vI 0,vI 0] [(0,1),(1,3),(4,6)] jI eV (by kernel_rfl)) ?_
  refine oY E (yMI E) (cg E (yS 2 [vI 0,vI 0,vI 0,vI 0,vI 0,vI 0,vI 0,vI 0,vI 0,vI 0] gV E (nB E) E E E) (oY E (yAI E) (oN (eT (ag (aa ?_))))))
  obtain rfl:=sI h
  exact aW (.inl E) E (av 2 [vI 0,vI 0,vI 0,vI 0,vI 0,vI 0,vI 0,vI 0,vI 0,vI 0] a6 E E E) (rVt (v:=vI q) E) (fun W2 o=>⟨E,o.none⟩)
 ·refine cF (vB G) (cK (eT (cS (cS (cR (oY E (yN 1 [vI p1.x0,vI p1.x1,vI p1.x2] bm E E E) ?_))))))
  obtain⟨n,Y,h⟩:=bOs h
  refine oY E (yC [.agg #[vI p1.x0,vI p1.x1,vI p1.x2]] go_58 E (fun W2 o=>cw p1 n Y W2 ) E) (oY E (dL E) (oN (eT ?_)))
  rcases iOs h with⟨H,h⟩|⟨H,h⟩
  ·refine cT (vB H) (cS (cR ?_))
   refine oY E (aw [vI 0,vI 0,vI 0,vI 0,vI 0,vI 0,vI 0,vI 0,vI 0,vI 0] [(0,1),(1,3),(4,6)] jI eV (by kernel_rfl)) ?_
   refine cg E (yS 2 [vI 0,vI 0,vI 0,vI 0,vI 0,vI 0,vI 0,vI 0,vI 0,vI 0] gV E (nB E) E E E) (oY E (yAI E) (oN (eT (ag (aa ?_)))))
   obtain rfl:=sI h
   exact aW (.inl E) E (av 2 [vI 0,vI 0,vI 0,vI 0,vI 0,vI 0,vI 0,vI 0,vI 0,vI 0] a6 E E E) (rVt (v:=vI 1) E) (fun W2 o=>⟨E,o.none⟩)
  ·refine cF (vB H) (cK (eT (cS (cS ?_))))
   refine aK 9 cm (by kernel_rfl) (by kernel_rfl) ?_
   refine qY E (yN 1 [vI p1.x0,vI p1.x1,vI p1.x2] bm E E E) ?_
   obtain⟨Z,I,h⟩:=bOs h
   refine qY E (yC [.agg #[vI p1.x0,vI p1.x1,vI p1.x2]] jy E (fun W2 o=>bo p1 Z I W2 ) E) (qY E (yFA cU E) (qY E (yL 0 az E E E) (qY E (yFA bA E) (qY E (yN 0 [vI p0.fSeen.x0,vI p0.fSeen.x1,vI p0.fSeen.x2] bm E E E) ?_))))
   obtain⟨V,K,h⟩:=bOs h
   refine qY E (yC [.agg #[vI p0.fSeen.x0,vI p0.fSeen.x1,vI p0.fSeen.x2]] jy E (fun W2 o=>bo p0.fSeen V K W2 ) E) (qY E (cG E E) (qY E (eZ E E) (bt (oN (eT ?_)))))
   rcases iOs h with⟨u,h⟩|⟨u,h⟩
   ·refine cT (vB u) (cS (cR ?_))
    refine oY E (aw [vI 0,vI 0,vI 0,vI 0,vI 0,vI 0,vI 0,vI 0,vI 0,vI 0] [(0,1),(1,3),(4,6)] jI eV (by kernel_rfl)) ?_
    refine cg E (yS 2 [vI 0,vI 0,vI 0,vI 0,vI 0,vI 0,vI 0,vI 0,vI 0,vI 0] gV E (nB E) E E E) (oY E (yAI E) (oN (eT (ag (aa ?_)))))
    obtain rfl:=sI h
    exact aW (.inl E) E (av 2 [vI 0,vI 0,vI 0,vI 0,vI 0,vI 0,vI 0,vI 0,vI 0,vI 0] a6 E E E) (rVt (v:=vI 3) E) (fun W2 o=>⟨E,o.none⟩)
   ·refine cF (vB u) (cK (eT (cS (cS (cR (oY E (yN 1 [vI p1.x0,vI p1.x1,vI p1.x2] bm E E E) (oY E (yMI E) (oN (eT (cB ?_))))))))))
    obtain⟨g,M,h⟩:=bOs h
    refine a8 (fun(s:(Int × Int × Int × Int)) L tm=>∃(T:Nat→Value),L=[ac S 28 [vI p0.fBarrows,vI s.2.1,vI s.2.2.1,vI s.2.2.2,vI p0.fKnown.x0.fLo,vI p0.fKnown.x0.fHi,vI p0.fKnown.x1.fLo,vI p0.fKnown.x1.fHi,vI p0.fKnown.x2.fLo,vI p0.fKnown.x2.fHi],ac p 23 [vI p1.x0,vI p1.x1,vI p1.x2],ac R 28 [vI 0,vI 0,vI 0,vI 0,vI 0,vI 0,vI 0,vI 0,vI 0,vI 0]]∧tm=(upd (upd (upd (upd (upd T 2 (.pointer (some ⟨S,0,none⟩))) 4 (.pointer (some ⟨R,0,none⟩))) 5 (vI 0)) 30 (.agg #[vI p1.x0,vI p1.x1,vI p1.x2])) 31 (vI s.1))) 0 M ⟨_,E,(kp4 (kp E))⟩ ?_ ?_
    ·rintro f L tm st ⟨N,rfl,rfl⟩ h
     unfold aX at h
     refine cS (cR (oY E (cX E E) (oN (eT (cS ?_)))))
     rcases iOs h with⟨d,h⟩|⟨d,h⟩
     ·refine cT (vB d) (cK (eT (cS (cB (cS (cR (oY E (yMI E) ?_)))))))
      obtain⟨F,h⟩:=gOs h
      refine oY E (iF (a:=p1.x0) (b:=p1.x1) (c:=p1.x2) fF az F.1 F.2 E E) (oY E (yAI E) (oY E (yAI E) (oN (eT (cR (oY E (yMI E) (oY E (yFA bA E) ?_)))))))
      obtain⟨w,h⟩:=gOs h
      refine oY E (aq cY w.1 w.2 E E) ?_
      refine oY E (yL 0 (v:=vI (aH f.2.1 f.2.2.1 f.2.2.2 f.1)) az E E (by rcases in3 w with e|e|e <;> rw[e] <;> rfl)) ?_
      refine oY E (yMI E) (oY E (bf E E) (oY E (yFA bA E) ?_))
      obtain⟨r,h⟩:=gOs h
      refine oY E (aq cY r.1 r.2 E E) ?_
      refine cg E (fb 0 [vI p0.fBarrows,vI (fH f.1 0 (w64 ((aH f.2.1 f.2.2.1 f.2.2.2 f.1)+(aH p1.x0 p1.x1 p1.x2 f.1))) f.2.1),vI (fH f.1 1 (w64 ((aH f.2.1 f.2.2.1 f.2.2.2 f.1)+(aH p1.x0 p1.x1 p1.x2 f.1))) f.2.2.1),vI (fH f.1 2 (w64 ((aH f.2.1 f.2.2.1 f.2.2.2 f.1)+(aH p1.x0 p1.x1 p1.x2 f.1))) f.2.2.2),vI p0.fKnown.x0.fLo,vI p0.fKnown.x0.fHi,vI p0.fKnown.x1.fLo,vI p0.fKnown.x1.fHi,vI p0.fKnown.x2.fLo,vI p0.fKnown.x2.fHi] iR E (by rcases in3 r with e|e|e <;> rw[e] <;> exact Nat.lt_of_lt_of_le (Nat.lt_succ_self _) (nB E)) (by rcases in3 r with e|e|e <;> rw[e] <;> rfl) E E E) ?_
      refine oN (ay (eT (cR (oY E (bf E E) (oY E (yMI E) (oN ?_))))))
      obtain rfl:=sI h
      exact eN ⟨_,E,(kp4 (kp E))⟩
     ·refine cF (vB d) (aR (al ?_))
      obtain rfl:=sI h
      exact aD ⟨E,_,E,(kp4 (kp E))⟩
    ·intro e L tm hJ
     obtain⟨rfl,O,rfl,rfl⟩:=hJ
     refine⟨(by intro hc;cases hc),?_⟩
     refine ak (eT (cS (cS (cR (oY E (yN 0 [vI p0.fBarrows,vI g.2.1,vI g.2.2.1,vI g.2.2.2,vI p0.fKnown.x0.fLo,vI p0.fKnown.x0.fHi,vI p0.fKnown.x1.fLo,vI p0.fKnown.x1.fHi,vI p0.fKnown.x2.fLo,vI p0.fKnown.x2.fHi] a6 E E E) ?_)))))
     obtain⟨Q,U,h⟩:=bOs h
     refine oY E (yC [.agg #[vI p0.fBarrows,vI g.2.1,vI g.2.2.1,vI g.2.2.2,vI p0.fKnown.x0.fLo,vI p0.fKnown.x0.fHi,vI p0.fKnown.x1.fLo,vI p0.fKnown.x1.fHi,vI p0.fKnown.x2.fLo,vI p0.fKnown.x2.fHi]] kE E (fun W2 o=>cd (TBatch.mk p0.fBarrows (TKinds.mk g.2.1 g.2.2.1 g.2.2.2) p0.fKnown) Q U W2 ) E) (oY E (yAI E) (oN (eT (cS (cR (oY E (yMI E) (oY E (bO E E) (oN (eT ?_)))))))))
     rcases iOs h with⟨D,h⟩|⟨D,h⟩
     ·refine cT (vB D) (cS (cR ?_))
      refine oY E (aw [vI 0,vI 0,vI 0,vI 0,vI 0,vI 0,vI 0,vI 0,vI 0,vI 0] [(0,1),(1,3),(4,6)] jI eV (by kernel_rfl)) ?_
      refine oY E (yMI E) (cg E (yS 2 [vI 0,vI 0,vI 0,vI 0,vI 0,vI 0,vI 0,vI 0,vI 0,vI 0] gV E (nB E) E E E) (oY E (yAI E) (oN (eT (ag (aa ?_))))))
      obtain rfl:=sI h
      exact aW (.inl E) E (av 2 [vI 0,vI 0,vI 0,vI 0,vI 0,vI 0,vI 0,vI 0,vI 0,vI 0] a6 E E E) (rVt (v:=vI Q) E) (fun W2 o=>⟨E,o.none⟩)
     ·refine cF (vB D) (cK (eT (cS (cR (oY E (yN 0 [vI p0.fBarrows,vI g.2.1,vI g.2.2.1,vI g.2.2.2,vI p0.fKnown.x0.fLo,vI p0.fKnown.x0.fHi,vI p0.fKnown.x1.fLo,vI p0.fKnown.x1.fHi,vI p0.fKnown.x2.fLo,vI p0.fKnown.x2.fHi] a6 E E E) (cg E (yS 2 [vI p0.fBarrows,vI g.2.1,vI g.2.2.1,vI g.2.2.2,vI p0.fKnown.x0.fLo,vI p0.fKnown.x0.fHi,vI p0.fKnown.x1.fLo,vI p0.fKnown.x1.fHi,vI p0.fKnown.x2.fLo,vI p0.fKnown.x2.fHi] gV E (nB E) E E E) (oY E (yAI E) (oN (eT (ag ?_))))))))))
      obtain rfl:=sI h
      exact aW (.inl E) E (av 2 [vI p0.fBarrows,vI g.2.1,vI g.2.2.1,vI g.2.2.2,vI p0.fKnown.x0.fLo,vI p0.fKnown.x0.fHi,vI p0.fKnown.x1.fLo,vI p0.fKnown.x1.fHi,vI p0.fKnown.x2.fLo,vI p0.fKnown.x2.fHi] a6 E E E) (rVt (v:=vI 0) E) (fun W2 o=>⟨E,o.none⟩)
end Go.Proofs.Ytcleeakjghgbdaa
set_option maxHeartbeats 4000000
set_option maxRecDepth 100000
namespace Go.Proofs.Ytcleeakjghgbdaa
open Go.RowKit (Below)
attribute [local irreducible] OX QX CX EX OpY Calls CallsIn
theorem gN (p0:TBin) (p1:TKinds) (res:(TBatch × Int × TBin)) (h:dn p0 p1=some res) (W:World) (w:World) (R:Res) (o:Nat) (Aa:Option Addr) (g ca:Nat) (r:g=p0.f_taken.length) (hW:Ext w W [R,ac o 74 [vI p0.f_batch.fBarrows,vI p0.f_batch.fSeen.x0,vI p0.f_batch.fSeen.x1,vI p0.f_batch.fSeen.x2,vI p0.f_batch.fKnown.x0.fLo,vI p0.f_batch.fKnown.x0.fHi,vI p0.f_batch.fKnown.x1.fLo,vI p0.f_batch.fKnown.x1.fHi,vI p0.f_batch.fKnown.x2.fLo,vI p0.f_batch.fKnown.x2.fHi,.slice Aa g ca],bR Aa ca 23 3 g (aL ae p0.f_taken)]) :
  Calls Try.prog 32 [.pointer (some ⟨o,0,none⟩),.agg #[vI p1.x0,vI p1.x1,vI p1.x2]].toArray W fun e W2=>∃x:(Option Addr × Nat × Nat),x.2.1=res.2.2.f_taken.length∧e=.returned (.tuple #[.agg #[vI res.1.fBarrows,vI res.1.fSeen.x0,vI res.1.fSeen.x1,vI res.1.fSeen.x2,vI res.1.fKnown.x0.fLo,vI res.1.fKnown.x0.fHi,vI res.1.fKnown.x1.fLo,vI res.1.fKnown.x1.fHi,vI res.1.fKnown.x2.fLo,vI res.1.fKnown.x2.fHi],vI res.2.1])∧Ext w W2 [R,ac o 74 [vI res.2.2.f_batch.fBarrows,vI res.2.2.f_batch.fSeen.x0,vI res.2.2.f_batch.fSeen.x1,vI res.2.2.f_batch.fSeen.x2,vI res.2.2.f_batch.fKnown.x0.fLo,vI res.2.2.f_batch.fKnown.x0.fHi,vI res.2.2.f_batch.fKnown.x1.fLo,vI res.2.2.f_batch.fKnown.x1.fHi,vI res.2.2.f_batch.fKnown.x2.fLo,vI res.2.2.f_batch.fKnown.x2.fHi,.slice x.1 x.2.1 x.2.2],bR x.1 x.2.2 23 3 x.2.1 (aL ae res.2.2.f_taken)]:=by
 subst r
 unfold dn at h
 refine fM (m:=14) Try.func32 E E (nB E) hW (cS (cR ?_))
 refine aV [vI p1.x0,vI p1.x1,vI p1.x2] E E E (fun D=>?_)
 refine aG eV E (fun F=>?_)
 refine oY E (yAI E) (oN (eT (cS ?_)))
 refine aK 8 cm (by kernel_rfl) (by kernel_rfl) ?_
 refine qY E (aN E) (qY E (bE E) (qY E (yFA iC E) (qY E (yN 1 [vI p0.f_batch.fBarrows,vI p0.f_batch.fSeen.x0,vI p0.f_batch.fSeen.x1,vI p0.f_batch.fSeen.x2,vI p0.f_batch.fKnown.x0.fLo,vI p0.f_batch.fKnown.x0.fHi,vI p0.f_batch.fKnown.x1.fLo,vI p0.f_batch.fKnown.x1.fHi,vI p0.f_batch.fKnown.x2.fLo,vI p0.f_batch.fKnown.x2.fHi] a6 E E E) (qY E (yN 3 [vI p1.x0,vI p1.x1,vI p1.x2] bm E E E) ?_))))
 obtain⟨f,d,h⟩:=bOs h
 refine qY E (yC [.agg #[vI p0.f_batch.fBarrows,vI p0.f_batch.fSeen.x0,vI p0.f_batch.fSeen.x1,vI p0.f_batch.fSeen.x2,vI p0.f_batch.fKnown.x0.fLo,vI p0.f_batch.fKnown.x0.fHi,vI p0.f_batch.fKnown.x1.fLo,vI p0.f_batch.fKnown.x1.fHi,vI p0.f_batch.fKnown.x2.fLo,vI p0.f_batch.fKnown.x2.fHi],.agg #[vI p1.x0,vI p1.x1,vI p1.x2]] go_59 E (fun W2 u=>iX p0.f_batch p1 f d W2 ) E) (qY E (yE E E) (qY E (yE E E) (bt (cg E (yS 4 [vI f.1.fBarrows,vI f.1.fSeen.x0,vI f.1.fSeen.x1,vI f.1.fSeen.x2,vI f.1.fKnown.x0.fLo,vI f.1.fKnown.x0.fHi,vI f.1.fKnown.x1.fLo,vI f.1.fKnown.x1.fHi,vI f.1.fKnown.x2.fLo,vI f.1.fKnown.x2.fHi] gV E (nB E) E E E) (oY E (yAI E) (oN (eT (ag ?_))))))))
 obtain rfl:=sI h
 exact aW (.inl E) E (av 4 [vI f.1.fBarrows,vI f.1.fSeen.x0,vI f.1.fSeen.x1,vI f.1.fSeen.x2,vI f.1.fKnown.x0.fLo,vI f.1.fKnown.x0.fHi,vI f.1.fKnown.x1.fLo,vI f.1.fKnown.x1.fHi,vI f.1.fKnown.x2.fLo,vI f.1.fKnown.x2.fHi] a6 E E E) (rVt (v:=vI f.2) E) (fun W2 u=>⟨(Aa,p0.f_taken.length,ca),E,E,u.take 3⟩)
theorem d4 (p0:(List TKinds)) (res:(List TKinds)) (h:ba p0=some res) (W:World) (Aa:Option Addr) (f ca:Nat) (r:f=p0.length) (g:Rd W Aa f ca (aL ae p0)) :
  Calls Try.prog 33 [.slice Aa f ca].toArray W fun e W2=>∃x:Option Addr × Nat × Nat,x.2.1=res.length∧e=.returned (.slice x.1 x.2.1 x.2.2)∧Ext W W2 [bR x.1 x.2.2 23 3 x.2.1 (aL ae res)]:=by
 subst r
 unfold ba at h
 refine ad (m:=8) Try.func33 E E (nB E) (cS (cR (oY E (yAS E) (oN (eT (cS (cS (cR (oY E (yMS E) (oY E (y_eqnil fR E E) (oN (eT ?_))))))))))))
 rcases ar (Option.isNone Aa)with o|o
 ·refine cT (vB o) ?_
  have z6:=rd_none (Option.isNone_iff_eq_none.1 o▸g) aB (by decide)
  replace h:=(gOs h).2
  rw[z6]at h
  refine cS (cR (oY E (yAS E) (oN (eT (ag (aa ?_))))))
  obtain rfl:=sI h
  exact am (.inl E) E (rVt (v:=.slice none 0 0) E) (fun W2 u=>⟨(none,0,0),E,E,((u.nilrow 23 3).pick 0 E)⟩)
 ·refine cF (vB o) (cK (eT (cS (cR ?_))))
  refine iV ae fR eP jh E (fun F=>?_)
  refine oY E (yMS E) ?_
  obtain⟨d,h⟩:=gOs h
  refine dt 0 fR eP jh E E E (RdL.arg g) (eL aB E) (fm da _) (ff d (by decide)) E (fun w D=>?_)
  refine oY E (yAS E) (oN (eT (ag ?_)))
  obtain rfl:=sI h
  exact am (.inl E) E (rVt (v:=.slice w (0+p0.length) D) E) (fun W2 u=>⟨(w,(0+p0.length),D),(gB E E),E,(u.pick 0 E)⟩)
theorem dq (p0:TBin) (p1:TKinds) (res:(Int × TBin)) (h:bK p0 p1=some res) (W:World) (V:World) (R:Res) (g:Nat) (Aa:Option Addr) (u ca:Nat) (D:u=p0.f_taken.length) (hW:Ext V W [R,ac g 74 [vI p0.f_batch.fBarrows,vI p0.f_batch.fSeen.x0,vI p0.f_batch.fSeen.x1,vI p0.f_batch.fSeen.x2,vI p0.f_batch.fKnown.x0.fLo,vI p0.f_batch.fKnown.x0.fHi,vI p0.f_batch.fKnown.x1.fLo,vI p0.f_batch.fKnown.x1.fHi,vI p0.f_batch.fKnown.x2.fLo,vI p0.f_batch.fKnown.x2.fHi,.slice Aa u ca],bR Aa ca 23 3 u (aL ae p0.f_taken)]) :
  Calls Try.prog 9 [.pointer (some ⟨g,0,none⟩),.agg #[vI p1.x0,vI p1.x1,vI p1.x2]].toArray W fun e W2=>∃x:(Option Addr × Nat × Nat),x.2.1=res.2.f_taken.length∧e=.returned (vI res.1)∧Ext V W2 [R,ac g 74 [vI res.2.f_batch.fBarrows,vI res.2.f_batch.fSeen.x0,vI res.2.f_batch.fSeen.x1,vI res.2.f_batch.fSeen.x2,vI res.2.f_batch.fKnown.x0.fLo,vI res.2.f_batch.fKnown.x0.fHi,vI res.2.f_batch.fKnown.x1.fLo,vI res.2.f_batch.fKnown.x1.fHi,vI res.2.f_batch.fKnown.x2.fLo,vI res.2.f_batch.fKnown.x2.fHi,.slice x.1 x.2.1 x.2.2],bR x.1 x.2.2 23 3 x.2.1 (aL ae res.2.f_taken)]:=by
 subst D
 unfold bK at h
 refine fM (m:=40) Try.func9 E E (nB E) hW (cS (cR ?_))
 refine aV [vI p1.x0,vI p1.x1,vI p1.x2] E E E (fun T=>?_)
 refine oY E (yAI E) (oN (eT (cS (cS (cR (oY E (aN E) (oY E (bE E) (oY E (yFA fL E) (oY E (yL 1 jQ E E E) (oY E (bZ (us:=[]) fR E) (oY E (js E E) (oN (eT ?_)))))))))))))
 rcases iOs h with⟨F,h⟩|⟨F,h⟩
 ·refine cT (vB F) (cS (cR (oY E (yAI E) (oN (eT (ag (aa ?_)))))))
  obtain rfl:=sI h
  exact am (.inl E) E (rVt (v:=vI 2) E) (fun W2 r=>⟨(Aa,p0.f_taken.length,ca),E,E,r.take 3⟩)
 ·refine cF (vB F) (cK (eT (cS (cR (oY E (aN E) (oY E (j9 [.pointer (some ⟨g,0,none⟩)] [] E E) (oY E (cC E) (oN (eT (cS (cR (oY E (du E) (oY E (yN 3 [vI p1.x0,vI p1.x1,vI p1.x2] bm E E E) ?_)))))))))))))
  obtain⟨f,Q,h⟩:=bOs h
  refine f7 [1,2] [.pointer (some ⟨g,0,none⟩)] [.agg #[vI p1.x0,vI p1.x1,vI p1.x2]] [] (fun(x:(Option Addr × Nat × Nat))=>x.2.1=f.2.2.f_taken.length) (fun _=>.tuple #[.agg #[vI f.1.fBarrows,vI f.1.fSeen.x0,vI f.1.fSeen.x1,vI f.1.fSeen.x2,vI f.1.fKnown.x0.fLo,vI f.1.fKnown.x0.fHi,vI f.1.fKnown.x1.fLo,vI f.1.fKnown.x1.fHi,vI f.1.fKnown.x2.fLo,vI f.1.fKnown.x2.fHi],vI f.2.1]) (fun x=>[ac g 74 [vI f.2.2.f_batch.fBarrows,vI f.2.2.f_batch.fSeen.x0,vI f.2.2.f_batch.fSeen.x1,vI f.2.2.f_batch.fSeen.x2,vI f.2.2.f_batch.fKnown.x0.fLo,vI f.2.2.f_batch.fKnown.x0.fHi,vI f.2.2.f_batch.fKnown.x1.fLo,vI f.2.2.f_batch.fKnown.x1.fHi,vI f.2.2.f_batch.fKnown.x2.fLo,vI f.2.2.f_batch.fKnown.x2.fHi,.slice x.1 x.2.1 x.2.2],bR x.1 x.2.2 23 3 x.2.1 (aL ae f.2.2.f_taken)]) (fun _=>[]) (Foc.c2 E E) (by decide) E go_32 E E (fun _=>E) (fun W2 r=>gN p0 p1 f Q W2 _ (gk [R,ac g 74 [vI p0.f_batch.fBarrows,vI p0.f_batch.fSeen.x0,vI p0.f_batch.fSeen.x1,vI p0.f_batch.fSeen.x2,vI p0.f_batch.fKnown.x0.fLo,vI p0.f_batch.fKnown.x0.fHi,vI p0.f_batch.fKnown.x1.fLo,vI p0.f_batch.fKnown.x1.fHi,vI p0.f_batch.fKnown.x2.fLo,vI p0.f_batch.fKnown.x2.fHi,.slice Aa p0.f_taken.length ca],bR Aa ca 23 3 p0.f_taken.length (aL ae p0.f_taken),ac T 23 [vI p1.x0,vI p1.x1,vI p1.x2]] [1,2]) g Aa p0.f_taken.length ca E r) ?_
  rintro⟨H,S,I⟩ G
  replace G:S=f.2.2.f_taken.length:=G;subst G
  try dsimp only[jM,lsz,lss,List.append_nil]
  refine oY E (a5 E) (oY E (yE E E) (oY E (yE E E) ?_))
  refine aG eV E (fun q=>?_)
  refine cg E (yS 4 [vI f.1.fBarrows,vI f.1.fSeen.x0,vI f.1.fSeen.x1,vI f.1.fSeen.x2,vI f.1.fKnown.x0.fLo,vI f.1.fKnown.x0.fHi,vI f.1.fKnown.x1.fLo,vI f.1.fKnown.x1.fHi,vI f.1.fKnown.x2.fLo,vI f.1.fKnown.x2.fHi] gV E (nB E) E E E) (oY E (yAI E) (oN (eT (cS (cS (cR (oY E (yMI E) (oY E (bO E E) (oN (eT ?_))))))))))
  rcases iOs h with⟨d,h⟩|⟨d,h⟩
  ·refine cT (vB d) (cS (cR (oY E (yMI E) (oY E (yAI E) (oN (eT (ag (aa ?_))))))))
   obtain rfl:=sI h
   exact am (.inl E) E (rVt (v:=vI f.2.1) E) (fun W2 r=>⟨(H,f.2.2.f_taken.length,I),E,E,r.take 3⟩)
  ·refine cF (vB d) (cK (eT (cS ?_)))
   obtain⟨o,K,h⟩:=bOs h
   obtain⟨M,h⟩:=gOs h
   refine kX [[],[],[],[],[3],[3,4],[3,4,5],[3,4,5,6],[],[8],[3,4,5,6,7,8,9],[0,2,3,4,5,6,7,8,9,10],[0,2,3,4,5,6,7,8,9,10,11],[0,2,3,4,5,6,7,8,9,10,11,12],[0,1,2,3,4,5,6,7,8,9,10,11,12,13],[0,1,2,3,4,5,6,7,8,9,10,11,12,13,14],[0,1,2,3,4,5,6,7,8,9,10,11,12,13,14,15]] [(none,0,[true,true,true,true,true]),(none,0,[true,false,true,true,true]),(none,0,[true,true,true,true,true]),(none,0,[true,true,true,true,true]),(none,0,[true,true,true,true,true]),(none,0,[true,true,true,true,true]),(none,0,[true,true,true,true,true]),(none,1,[true,true,true,true,true]),(none,0,[true,true,true,true,true,false]),(none,1,[true,true,true,true,true,false]),(some 5,0,[true,true,true,true,true,true,true]),(none,0,[true,true,true,true,true,true,true]),(none,0,[true,true,true,true,true,true,true]),(some 1,0,[true,true,true,true,true,true,true]),(none,0,[true,true,true,true,true,true,true]),(none,0,[true,true,true,true,true,true,true]),(some 1,0,[true,true,true,true,true,true,true])] [⟨fun _=>.pointer (some ⟨g,0,none⟩),fun _=>noR,fun _=>[]⟩,⟨fun _=>.pointer (some ⟨g,0,none⟩),fun _=>noR,fun _=>[]⟩,⟨fun _=>.agg #[vI f.1.fBarrows,vI f.1.fSeen.x0,vI f.1.fSeen.x1,vI f.1.fSeen.x2,vI f.1.fKnown.x0.fLo,vI f.1.fKnown.x0.fHi,vI f.1.fKnown.x1.fLo,vI f.1.fKnown.x1.fHi,vI f.1.fKnown.x2.fLo,vI f.1.fKnown.x2.fHi],fun _=>noR,fun _=>[]⟩,⟨fun _=>.pointer (some ⟨g,0,none⟩),fun _=>noR,fun _=>[]⟩,⟨fun _=>.pointer (some ⟨g,0,none⟩),fun _=>noR,fun _=>[]⟩,⟨fun _=>.pointer (some ⟨g,0+10,none⟩),fun _=>noR,fun _=>[]⟩,⟨fun _=>.slice H f.2.2.f_taken.length I,fun _=>noR,fun _=>[]⟩,⟨fun ξ11=>.slice (ξ11 7 0).1 o.length (ξ11 7 0).2.2.1,fun _=>noR,fun ξ11=>[bR (ξ11 7 0).1 (ξ11 7 0).2.2.1 23 3 o.length (aL ae o)]⟩,⟨fun _=>.agg #[vI p1.x0,vI p1.x1,vI p1.x2],fun _=>noR,fun _=>[]⟩,⟨fun ξ11=>.slice (some ⟨(ξ11 9 0).2.1,0,none⟩) 1 1,fun _=>noR,fun ξ11=>[bR (some ⟨(ξ11 9 0).2.1,0,none⟩) 1 23 3 1 (aL ae [p1])]⟩,⟨fun ξ11=>.slice (ξ11 10 0).1 (o.length+1) (ξ11 10 0).2.2.1,fun ξ11=>bR (ξ11 10 0).1 (ξ11 10 0).2.2.1 23 3 (o.length+1) (aL ae (o++[p1])),fun _=>[]⟩,⟨fun _=>.pointer (some ⟨g,0,none⟩),fun _=>noR,fun _=>[]⟩,⟨fun _=>.pointer (some ⟨g,0+0,none⟩),fun _=>noR,fun _=>[]⟩,⟨fun _=>undef,fun _=>ac g 74 [vI f.1.fBarrows,vI f.1.fSeen.x0,vI f.1.fSeen.x1,vI f.1.fSeen.x2,vI f.1.fKnown.x0.fLo,vI f.1.fKnown.x0.fHi,vI f.1.fKnown.x1.fLo,vI f.1.fKnown.x1.fHi,vI f.1.fKnown.x2.fLo,vI f.1.fKnown.x2.fHi,.slice H f.2.2.f_taken.length I],fun _=>[]⟩,⟨fun _=>.pointer (some ⟨g,0,none⟩),fun _=>noR,fun _=>[]⟩,⟨fun _=>.pointer (some ⟨g,0+10,none⟩),fun _=>noR,fun _=>[]⟩,⟨fun _=>undef,fun ξ11=>ac g 74 [vI f.1.fBarrows,vI f.1.fSeen.x0,vI f.1.fSeen.x1,vI f.1.fSeen.x2,vI f.1.fKnown.x0.fLo,vI f.1.fKnown.x0.fHi,vI f.1.fKnown.x1.fLo,vI f.1.fKnown.x1.fHi,vI f.1.fKnown.x2.fLo,vI f.1.fKnown.x2.fHi,.slice (ξ11 10 0).1 (o.length+1) (ξ11 10 0).2.2.1],fun _=>[]⟩] 5 cm (by kernel_rfl) (by kernel_rfl) ⟨⟨fun ξ11 ξ11' h=>⟨E,E,E⟩,fun _=>E⟩,⟨fun ξ11 ξ11' h=>⟨E,E,E⟩,fun _=>E⟩,⟨fun ξ11 ξ11' h=>⟨E,E,E⟩,fun _=>E⟩,⟨fun ξ11 ξ11' h=>⟨E,E,E⟩,fun _=>E⟩,⟨fun ξ11 ξ11' h=>⟨E,E,E⟩,fun _=>E⟩,⟨fun ξ11 ξ11' h=>⟨E,E,E⟩,fun _=>E⟩,⟨fun ξ11 ξ11' h=>⟨E,E,E⟩,fun _=>E⟩,⟨fun ξ11 ξ11' h=>⟨by simp only[h 7 (.inl E)],E,by simp only[h 7 (.inl E)]⟩,fun _=>E⟩,⟨fun ξ11 ξ11' h=>⟨E,E,E⟩,fun _=>E⟩,⟨fun ξ11 ξ11' h=>⟨by simp only[h 9 (.inl E)],E,by simp only[h 9 (.inl E)]⟩,fun _=>E⟩,⟨fun ξ11 ξ11' h=>⟨by simp only[h 10 (.inl E)],by simp only[h 10 (.inl E)],E⟩,fun _=>E⟩,⟨fun ξ11 ξ11' h=>⟨E,E,E⟩,fun _=>E⟩,⟨fun ξ11 ξ11' h=>⟨E,E,E⟩,fun _=>E⟩,⟨fun ξ11 ξ11' h=>⟨E,E,E⟩,fun _=>E⟩,⟨fun ξ11 ξ11' h=>⟨E,E,E⟩,fun _=>E⟩,⟨fun ξ11 ξ11' h=>⟨E,E,E⟩,fun _=>E⟩,⟨fun ξ11 ξ11' h=>⟨E,by simp only[h 10 (.inr E)],E⟩,fun _=>E⟩,trivial⟩ E (fun ξ11=>?_)
   refine jY E (fun L2=>?_) ?_
   ·dsimp only[bP,lca,lna]
    refine oY E (aN E) (oN ?_)
    exact cW (fun _=>(none,0,0,[],noR)) E (List.append_nil _)
   dsimp only[g8,lsz,lss,lna,lca,List.append_nil]
   refine jY E (fun L2=>?_) ?_
   ·dsimp only[bP,lca,lna]
    refine oY E (aN E) (oN ?_)
    exact cW (fun _=>(none,0,0,[],noR)) E (List.append_nil _)
   dsimp only[g8,lsz,lss,lna,lca,List.append_nil]
   refine jY E (fun L2=>?_) ?_
   ·dsimp only[bP,lca,lna]
    refine oY E (yN 4 [vI f.1.fBarrows,vI f.1.fSeen.x0,vI f.1.fSeen.x1,vI f.1.fSeen.x2,vI f.1.fKnown.x0.fLo,vI f.1.fKnown.x0.fHi,vI f.1.fKnown.x1.fLo,vI f.1.fKnown.x1.fHi,vI f.1.fKnown.x2.fLo,vI f.1.fKnown.x2.fHi] a6 E E E) (oN ?_)
    exact cW (fun _=>(none,0,0,[],noR)) E (List.append_nil _)
   dsimp only[g8,lsz,lss,lna,lca,List.append_nil]
   refine jY E (fun L2=>?_) ?_
   ·dsimp only[bP,lca,lna]
    refine oY E (aN E) (oN ?_)
    exact cW (fun _=>(none,0,0,[],noR)) E (List.append_nil _)
   dsimp only[g8,lsz,lss,lna,lca,List.append_nil]
   refine jY E (fun L2=>?_) ?_
   ·dsimp only[bP,lca,lna]
    refine oY E (bE E) (oN ?_)
    exact cW (fun _=>(none,0,0,[],noR)) E (List.append_nil _)
   dsimp only[g8,lsz,lss,lna,lca,List.append_nil]
   refine jY E (fun L2=>?_) ?_
   ·dsimp only[bP,lca,lna]
    refine oY E (yFA fL E) (oN ?_)
    exact cW (fun _=>(none,0,0,[],noR)) E (List.append_nil _)
   dsimp only[g8,lsz,lss,lna,lca,List.append_nil]
   refine jY E (fun L2=>?_) ?_
   ·dsimp only[bP,lca,lna]
    refine oY E (yL 1 jQ E E E) (oN ?_)
    exact cW (fun _=>(none,0,0,[],noR)) E (List.append_nil _)
   dsimp only[g8,lsz,lss,lna,lca,List.append_nil]
   refine jY E (fun L2=>?_) ?_
   ·dsimp only[bP,lca,lna]
    refine oC [.slice H f.2.2.f_taken.length I] _ _ _ E go_33 E (fun W2 r=>d4 f.2.2.f_taken o K W2 H f.2.2.f_taken.length I E ((RdL.row 2 E) W2 r)) ?_
    rintro⟨U,X,Y⟩ w
    replace w:X=o.length:=w;subst w
    refine oN ?_
    exact cW (fun _=>(U,0,Y,[],noR)) E E
   dsimp only[g8,lsz,lss,lna,lca,List.append_nil]
   refine jY E (fun L2=>?_) ?_
   ·dsimp only[bP,lca,lna]
    refine oY E (yN 3 [vI p1.x0,vI p1.x1,vI p1.x2] bm E E E) (oN ?_)
    exact cW (fun _=>(none,0,0,[],noR)) E (List.append_nil _)
   dsimp only[g8,lsz,lss,lna,lca,List.append_nil]
   refine jY E (fun L2=>?_) ?_
   ·dsimp only[bP,lca,lna]
    refine aY 1 (aL ae [p1]) _ j4 fR eP jh (by decide) (by decide) (by kernel_rfl) (eL aB E) E (fun Z=>?_)
    refine oN ?_
    exact cW (fun _=>(none,Z,0,[],noR)) E E
   dsimp only[g8,lsz,lss,lna,lca,List.append_nil]
   refine jY E (fun L2=>?_) ?_
   ·dsimp only[bP,lca,lna]
    refine dt 5 fR eP jh E E E (RdL.row 6 E) (eL aB E) (fm da _) (ff M (by decide)) E (fun N O=>?_)
    refine oN ?_
    first|exact cW (fun _=>(N,0,O,[],noR)) E E|exact cW (fun _=>(N,0,O,[],noR)) E (List.append_nil _)
   dsimp only[g8,lsz,lss,lna,lca,List.append_nil]
   refine jY E (fun L2=>?_) ?_
   ·dsimp only[bP,lca,lna]
    refine oY E (bE E) (oN ?_)
    exact cW (fun _=>(none,0,0,[],noR)) E (List.append_nil _)
   dsimp only[g8,lsz,lss,lna,lca,List.append_nil]
   refine jY E (fun L2=>?_) ?_
   ·dsimp only[bP,lca,lna]
    refine oY E (yFA iC E) (oN ?_)
    exact cW (fun _=>(none,0,0,[],noR)) E (List.append_nil _)
   dsimp only[g8,lsz,lss,lna,lca,List.append_nil]
   refine gx_n E (fun L2=>?_) ?_
   ·dsimp only[bP,lca,lna]
    refine cg E (yS 1 [vI f.1.fBarrows,vI f.1.fSeen.x0,vI f.1.fSeen.x1,vI f.1.fSeen.x2,vI f.1.fKnown.x0.fLo,vI f.1.fKnown.x0.fHi,vI f.1.fKnown.x1.fLo,vI f.1.fKnown.x1.fHi,vI f.1.fKnown.x2.fLo,vI f.1.fKnown.x2.fHi] gV E (nB E) E E E) (oN ?_)
    first|exact ii (fun _=>(none,0,0,[],noR)) E|exact ii (fun _=>(none,0,0,[],noR)) (List.append_nil _)
   dsimp only[g8,lsz,lss,lna,lca,List.append_nil]
   refine jY E (fun L2=>?_) ?_
   ·dsimp only[bP,lca,lna]
    refine oY E (bE E) (oN ?_)
    exact cW (fun _=>(none,0,0,[],noR)) E (List.append_nil _)
   dsimp only[g8,lsz,lss,lna,lca,List.append_nil]
   refine jY E (fun L2=>?_) ?_
   ·dsimp only[bP,lca,lna]
    refine oY E (yFA fL E) (oN ?_)
    exact cW (fun _=>(none,0,0,[],noR)) E (List.append_nil _)
   dsimp only[g8,lsz,lss,lna,lca,List.append_nil]
   refine gx_n E (fun L2=>?_) ?_
   ·dsimp only[bP,lca,lna]
    refine cg E (dE 1 (v:=.slice (ξ11 10 0).1 (o.length+1) (ξ11 10 0).2.2.1) sz_52 E (Nat.lt_of_lt_of_le (Nat.lt_succ_self _) (nB E)) E E E) (oN ?_)
    first|exact ii (fun _=>(none,0,0,[],noR)) E|exact ii (fun _=>(none,0,0,[],noR)) (List.append_nil _)
   dsimp only[g8,lsz,lss,lna,lca,List.append_nil]
   refine gx_nil (eT (cS (cR ?_)))
   try dsimp only[lna,lca,lsz,lss]
   refine oY E (yAI E) (oN (eT (ag ?_)))
   obtain rfl:=sI h
   refine ex_mv 2 5 (by decide) E ?_
   try dsimp only[lsz,lss]
   exact am (.inl E) E (rVt (v:=vI 0) E) (fun W2 r=>⟨((ξ11 10 0).1,(o.length+1),(ξ11 10 0).2.2.1),(gB E E),E,r.take 3⟩)
theorem bH (p0:TBin) (res:TBatch) (h:aM p0=some res) (W:World) (bp0:Nat) (g:Option Addr) (f o:Nat) (r:f=p0.f_taken.length) (u:Rd W g f o (aL ae p0.f_taken)) (d:Rd W (some ⟨bp0,0,none⟩) 1 1 [vI p0.f_batch.fBarrows,vI p0.f_batch.fSeen.x0,vI p0.f_batch.fSeen.x1,vI p0.f_batch.fSeen.x2,vI p0.f_batch.fKnown.x0.fLo,vI p0.f_batch.fKnown.x0.fHi,vI p0.f_batch.fKnown.x1.fLo,vI p0.f_batch.fKnown.x1.fHi,vI p0.f_batch.fKnown.x2.fLo,vI p0.f_batch.fKnown.x2.fHi,.slice g f o]) :
  Calls Try.prog 10 [.pointer (some ⟨bp0,0,none⟩)].toArray W fun e W2=>e=.returned (.agg #[vI res.fBarrows,vI res.fSeen.x0,vI res.fSeen.x1,vI res.fSeen.x2,vI res.fKnown.x0.fLo,vI res.fKnown.x0.fHi,vI res.fKnown.x1.fLo,vI res.fKnown.x1.fHi,vI res.fKnown.x2.fLo,vI res.fKnown.x2.fHi])∧Ext W W2 []:=by
 subst r
 unfold aM at h
 refine ad (m:=7) Try.func10 E E (nB E) (cS (cR ?_))
 refine aG eV E (fun D=>?_)
 refine oN (eT (cS (cR (oY E (dN (v:=slA (some ⟨bp0,0,none⟩) 0) E) (oY E (bE E) (oY E (yFR (A:=(some ⟨bp0,0,none⟩)) (j:=0) iC E) (oY E (yM (A:=(some ⟨bp0,0,none⟩)) (j:=(0+0)) [vI p0.f_batch.fBarrows,vI p0.f_batch.fSeen.x0,vI p0.f_batch.fSeen.x1,vI p0.f_batch.fSeen.x2,vI p0.f_batch.fKnown.x0.fLo,vI p0.f_batch.fKnown.x0.fHi,vI p0.f_batch.fKnown.x1.fLo,vI p0.f_batch.fKnown.x1.fHi,vI p0.f_batch.fKnown.x2.fLo,vI p0.f_batch.fKnown.x2.fHi] a6 (Nat.succ_pos _) (RdL.arg d) E (dO E)) (cg E (yS 0 [vI p0.f_batch.fBarrows,vI p0.f_batch.fSeen.x0,vI p0.f_batch.fSeen.x1,vI p0.f_batch.fSeen.x2,vI p0.f_batch.fKnown.x0.fLo,vI p0.f_batch.fKnown.x0.fHi,vI p0.f_batch.fKnown.x1.fLo,vI p0.f_batch.fKnown.x1.fHi,vI p0.f_batch.fKnown.x2.fLo,vI p0.f_batch.fKnown.x2.fHi] gV E (nB E) E E E) (oN (eT (ag ?_)))))))))))
 obtain rfl:=sI h
 exact am (.inl E) E (av 0 [vI p0.f_batch.fBarrows,vI p0.f_batch.fSeen.x0,vI p0.f_batch.fSeen.x1,vI p0.f_batch.fSeen.x2,vI p0.f_batch.fKnown.x0.fLo,vI p0.f_batch.fKnown.x0.fHi,vI p0.f_batch.fKnown.x1.fLo,vI p0.f_batch.fKnown.x1.fHi,vI p0.f_batch.fKnown.x2.fLo,vI p0.f_batch.fKnown.x2.fHi] a6 E E E) (fun W2 w=>⟨E,w.none⟩)
end Go.Proofs.Ytcleeakjghgbdaa
