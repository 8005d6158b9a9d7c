import Derived.Test.YtbblpokfbmekfaaGreatF
import Derived.Test.YtbblpokfbmekfaaGreatG8
import Derived.Test.YtbblpokfbmekfaaGreatGv
import Derived.Test.YtbblpokfbmekfaaGreatC5
import Derived.Test.YtbblpokfbmekfaaGreatC16
set_option maxHeartbeats 4000000
set_option maxRecDepth 100000
set_option linter.unusedVariables false
namespace Go.Proofs.YtbblpokfbmekfaaGreat
open Go.RowKit (Below)
attribute [local irreducible] OX QX CX EX OpY Calls CallsIn
theorem dM (p0:TL) (p1:(List Int)) (p2:Int) (p3:TTrace) (res:Int) (h:bK p0 p1 p2 p3=some res) (W:World) (Aa:Option Addr) (a ca:Nat) (fE:a=p0.fNo.length) (Y:Rd W Aa a ca (encL TNode_cells p0.fNo)) (Ab:Option Addr) (i cb:Nat) (d:List (Hd × TC)) (fN:i=p0.fC.length) (U:Rd W Ab i cb (encL TClaim_cells2 d)) (F:NestW W (fun z:TC=>z.fO) THop_cells d p0.fC) (Ac:Option Addr) (k cc:Nat) (fn:k=p1.length) (Z:Rd W Ac k cc (encL cI p1)) (K:Option Addr) (x N:Nat) (fl:x=p3.fCase.length) (V:Rd W K x N (encL cI p3.fCase)) (Q:Option Addr) (y X:Nat) (g1:y=p3.fC.length) (M:Rd W Q y X (encL cI p3.fC)) :
  Calls Tryz.prog 44 [.agg #[.slice Aa a ca,.slice Ab i cb],.slice Ac k cc,vI p2,.agg #[.slice K x N,.slice Q y X]].toArray W fun e W2=>e=.returned (vI res)∧Ext W W2 []:=by
 subst fE
 subst fN
 subst fn
 subst fl
 subst g1
 unfold bK at h
 refine ah (m:=114) Tryz.func44 O O (nB O) (cS (cR ?_))
 refine aO [.slice Aa p0.fNo.length ca,.slice Ab p0.fC.length cb] O O O (fun b1=>?_)
 refine aO [.slice K p3.fCase.length N,.slice Q p3.fC.length X] O O O (fun b2=>?_)
 refine oY O (yAI O) (oN (aa (cS (cR (oY O (yN 0 [.slice Aa p0.fNo.length ca,.slice Ab p0.fC.length cb] aR O O O) (oY O (yMS O) (oY O (yMI O) ?_)))))))
 obtain⟨y3,r2,h⟩:=bOs h
 refine oY O (yC [.agg #[.slice Aa p0.fNo.length ca,.slice Ab p0.fC.length cb],.slice Ac p1.length cc,vI p2] go_38 O (fun W2 r=>qN p0 p1 p2 y3 r2 W2 Aa p0.fNo.length ca O ((RdL.arg Y) W2 r) Ab p0.fC.length cb d O ((RdL.arg U) W2 r) (NestL.at (NestL.arg F) W2 r) Ac p1.length cc O ((RdL.arg Z) W2 r)) O) (oY O (yAI O) (oN (aa (cS (cS (cR (oY O (yMI O) (oY O (ft O O) (oN (aa ?_))))))))))
 rcases iOs h with⟨g3,h⟩|⟨g3,h⟩
 ·refine cT (vB g3) (cS (cR (oY O (yMI O) (oY O (yAI O) (oN (aa (aq (ab ?_))))))))
  obtain rfl:=sI h
  exact ao (.inl O) O (rVt (v:=vI y3) O) (fun W2 r=>⟨O,r.none⟩)
 ·refine cF (vB g3) (cK (aa (cS (cS (cR (oY O (yN 0 [.slice Aa p0.fNo.length ca,.slice Ab p0.fC.length cb] aR O O O) (oY O (yFA lG O) (oY O (yL 1 fk O O O) ?_))))))))
  obtain⟨y6,r3,h⟩:=bOs h
  refine oY O (yC [.agg #[.slice Aa p0.fNo.length ca,.slice Ab p0.fC.length cb],.slice K p3.fCase.length N] go_101 O (fun W2 r=>rM p0 p3.fCase y6 r3 W2 Aa p0.fNo.length ca O ((RdL.arg Y) W2 r) Ab p0.fC.length cb d O ((RdL.arg U) W2 r) (NestL.at (NestL.arg F) W2 r) K p3.fCase.length N O ((RdL.arg V) W2 r)) O) (oY O (fa O) (oN (aa ?_)))
  rcases iOs h with⟨gf,h⟩|⟨gf,h⟩
  ·refine cT (vB gf) (cS (cR (oY O (yAI O) (oN (aa (aq (ab ?_)))))))
   obtain rfl:=sI h
   exact ao (.inl O) O (rVt (v:=vI 8) O) (fun W2 r=>⟨O,r.none⟩)
  ·refine cF (vB gf) (cK (aa (cS (cR (oY O (yAI O) (oN (aa (cS (cS (cR (oY O (yAI O) (oN (aa (ae ?_))))))))))))))
   obtain⟨r4,ga,h⟩:=bOs h
   refine cC (fun(s:(Int × Int × Int)) L tm=>∃(w:Nat→Value),L=[aj b1 25 [.slice Aa p0.fNo.length ca,.slice Ab p0.fC.length cb],aj b2 64 [.slice K p3.fCase.length N,.slice Q p3.fC.length X]]∧tm=(upd (upd (upd (upd (upd (upd (upd w 1 (.slice Ac p1.length cc)) 2 (vI p2)) 4 (.pointer (some ⟨b1,0,none⟩))) 7 (.pointer (some ⟨b2,0,none⟩))) 8 (vI s.1)) 10 (vI s.2.1)) 11 (vI s.2.2))) 0 ga ⟨_,O,(kp4 (kp (kp (kp O))))⟩ ?_ ?_
   ·rintro g L tm st ⟨gb,rfl,rfl⟩ h
    unfold cq at h
    refine cS (cS (cR (oY O (yMI O) (oY O (yFA gc O) (oY O (yL 1 fk O O O) (oY O (a8 (us:=[]) bj O) (oY O (bN O O) (oN (aa ?_)))))))))
    rcases iOs h with⟨b,h⟩|⟨b,h⟩
    ·refine cT (vB b) (cK (aa (cS (ae (cS ?_)))))
     refine bl 8 di (by kernel_rfl) (by kernel_rfl) ?_
     refine qY O (yN 0 [.slice Aa p0.fNo.length ca,.slice Ab p0.fC.length cb] aR O O O) (qY O (yFA gc O) (qY O (yL 1 fk O O O) (qY O (yMI O) ?_)))
     obtain⟨T,h⟩:=gOs h
     refine qY O (yI dC (by decide) T.1 T.2 (RdL.arg M) (eL ax O) O O) ?_
     refine qY O (yR (A:=Q) (j:=(Int.toNat g.2.2*1)) (v:=vI (rdL p3.fC g.2.2)) bW (RdL.arg M) O (aG ax T.1 (av T.2 O) O)) ?_
     obtain⟨f,o0,h⟩:=bOs h
     refine qY O (yC [.agg #[.slice Aa p0.fNo.length ca,.slice Ab p0.fC.length cb],vI (rdL p3.fC g.2.2)] go_105 O (fun W2 r=>nz p0 (rdL p3.fC g.2.2) f o0 W2 Aa p0.fNo.length ca O ((RdL.arg Y) W2 r) Ab p0.fC.length cb d O ((RdL.arg U) W2 r) (NestL.at (NestL.arg F) W2 r)) O) (qY O (yAI O) (dq (oN (aa (cS (cS (cR (oY O (yMI O) (oY O (bN O O) (oN (aa ?_)))))))))))
     rcases iOs h with⟨c,h⟩|⟨c,h⟩
     ·refine cT (vB c) (cS (cR (oY O (yAI O) (oN (aa (aq (ab (al (ab ?_)))))))))
      obtain rfl:=sI h
      exact aC ⟨O,_,O,(kp4 (kp (kp (kp O))))⟩
     ·refine cF (vB c) (cK (aa (cS ?_)))
      refine oQ 13 di (by kernel_rfl) (by kernel_rfl) (by kernel_rfl) ?_
      refine kD O (fun _=>yFA bp O) (kD O (fun _=>yL 0 (v:=.slice Ab p0.fC.length cb) eZ O O O) (kD O (fun _=>yMI O) ?_))
      obtain⟨I,h⟩:=gOs h
      refine kD O (fun _=>yI kx (by decide) I.1 I.2 (RdL.arg U) (eL ad (NestP.hn F.p O)) O O) ?_
      refine kD O (fun _=>yFR (A:=Ab) (j:=(Int.toNat f*2)) db O) (kD O (fun _=>yR (A:=Ab) (j:=((Int.toNat f*2)+1)) (v:=.slice ((rdL d f).1.1) ((rdL p0.fC f).fO.length) ((rdL d f).1.2.2)) kd (RdL.arg U) O (eG ad I.1 (av I.2 (NestP.hn F.p O)) (congrArg (fun n:Nat=>some (Value.slice (rdL d f).1.1 n (rdL d f).1.2.2)) (NestP.len F.p I.1 (av I.2 O))))) (kD O (fun _=>yFA lG O) (kD O (fun _=>yL 1 (v:=.slice K p3.fCase.length N) fk O O O) (kD O (fun _=>yMI O) ?_))))
      obtain⟨S,h⟩:=gOs h
      refine kD O (fun _=>yI dC (by decide) S.1 S.2 (RdL.arg V) (eL ax O) O O) ?_
      refine kD O (fun _=>yR (A:=K) (j:=(Int.toNat f*1)) (v:=vI (rdL p3.fCase f)) bW (RdL.arg V) O (aG ax S.1 (av S.2 O) O)) ?_
      obtain⟨R,h⟩:=gOs h
      refine kD O (fun _=>yI nF (by decide) R.1 R.2 (NestL.rd (NestL.arg F) I.1 (av I.2 O)) (eL aA O) O O) ?_
      refine kD O (fun _=>yM (A:=((rdL d f).1.1)) (j:=(Int.toNat (rdL p3.fCase f)*2)) [vI ((rdL ((rdL p0.fC f).fO) (rdL p3.fCase f)).fFrom),vI ((rdL ((rdL p0.fC f).fO) (rdL p3.fCase f)).fTo)] mN (Nat.succ_pos _) (NestL.rd (NestL.arg F) I.1 (av I.2 O)) O (bR aA R.1 (av R.2 O))) ?_
      refine ax_nil O jd (fun f0=>?_)
      refine d9 O (yS 2 [vI ((rdL ((rdL p0.fC f).fO) (rdL p3.fCase f)).fFrom),vI ((rdL ((rdL p0.fC f).fO) (rdL p3.fCase f)).fTo)] se O (nB O) O O O) (oN (kQ (aa (cS (cS (cR (oY O (yMI O) (oY O (ge O O) (oY O (yMB O) ?_)))))))))
      obtain⟨f1,o1,h⟩:=bOs h
      refine oJ 6 (fun w=>(upd (upd (upd (upd (upd (upd (upd (upd (upd (upd (upd (upd w 1 (.slice Ac p1.length cc)) 2 (vI p2)) 4 (.pointer (some ⟨b1,0,none⟩))) 7 (.pointer (some ⟨b2,0,none⟩))) 8 (vI g.1)) 10 (vI g.2.1)) 11 (vI g.2.2)) 31 (.bool (decide (g.2.2<(p3.fC.length:Int))))) 12 (vI f)) 42 (.bool (decide (f<0)))) 13 (.pointer (some ⟨f0,0,none⟩))) 64 (.bool f1))) (fun w=>?_) (fun key=>?_)
      ·refine oY O (yMB O) ?_
       refine oJ 9 (fun w=>(upd (upd (upd (upd (upd (upd (upd (upd (upd (upd (upd (upd w 1 (.slice Ac p1.length cc)) 2 (vI p2)) 4 (.pointer (some ⟨b1,0,none⟩))) 7 (.pointer (some ⟨b2,0,none⟩))) 8 (vI g.1)) 10 (vI g.2.1)) 11 (vI g.2.2)) 31 (.bool (decide (g.2.2<(p3.fC.length:Int))))) 12 (vI f)) 42 (.bool (decide (f<0)))) 13 (.pointer (some ⟨f0,0,none⟩))) 74 (.bool (f1||((decide (0<g.2.2))&&(((rdL ((rdL p0.fC f).fO) (rdL p3.fCase f)).fFrom) !=g.2.1)))))) (fun w=>?_) (fun key=>?_)
       ·refine oN (aa ?_)
        rcases iOs h with⟨f2,h⟩|⟨f2,h⟩
        ·refine cT (vB f2) (cS (cR (oY O (yAI O) (oN (aa (aq (ab (al (ab (aX 2 ?_))))))))))
         obtain rfl:=sI h
         exact aC ⟨O,_,O,(kp4 (kp (kp (kp O))))⟩
        ·refine cF (vB f2) (cK (aa (cS (cS (cR (oY O (yAI O) (oN (aa (ae ?_)))))))))
         obtain⟨r5,oq,h⟩:=bOs h
         refine cC (fun(s:(Int × Int)) L tm=>∃(w:Nat→Value),L=[aj b1 25 [.slice Aa p0.fNo.length ca,.slice Ab p0.fC.length cb],aj b2 64 [.slice K p3.fCase.length N,.slice Q p3.fC.length X],aj f0 111 [vI ((rdL ((rdL p0.fC f).fO) (rdL p3.fCase f)).fFrom),vI ((rdL ((rdL p0.fC f).fO) (rdL p3.fCase f)).fTo)]]∧tm=(upd (upd (upd (upd (upd (upd (upd (upd (upd (upd (upd (upd (upd w 1 (.slice Ac p1.length cc)) 2 (vI p2)) 4 (.pointer (some ⟨b1,0,none⟩))) 7 (.pointer (some ⟨b2,0,none⟩))) 8 (vI s.1)) 10 (vI g.2.1)) 11 (vI g.2.2)) 31 (.bool (decide (g.2.2<(p3.fC.length:Int))))) 12 (vI f)) 42 (.bool (decide (f<0)))) 13 (.pointer (some ⟨f0,0,none⟩))) 74 (.bool (f1||((decide (0<g.2.2))&&(((rdL ((rdL p0.fC f).fO) (rdL p3.fCase f)).fFrom) !=g.2.1))))) 14 (vI s.2))) 2 oq ⟨_,O,(kp4 (kp4 (kp4 (kp O))))⟩ ?_ ?_
         ·rintro op L tm st ⟨om,rfl,rfl⟩ h
          unfold fv at h
          refine cS (cS (cR (oY O (yMI O) (oY O (yMI O) (oY O (bN O O) (oN (aa ?_)))))))
          rcases iOs h with⟨f3,h⟩|⟨f3,h⟩
          ·refine cT (vB f3) (cK (aa (cS (ae (cS ?_)))))
           refine bl 11 di (by kernel_rfl) (by kernel_rfl) ?_
           refine qY O (yFA gc O) (qY O (yL 1 fk O O O) (qY O (yMI O) ?_))
           obtain⟨q,h⟩:=gOs h
           refine qY O (yI dC (by decide) q.1 q.2 (RdL.arg M) (eL ax O) O O) ?_
           refine qY O (yR (A:=Q) (j:=(Int.toNat op.2*1)) (v:=vI (rdL p3.fC op.2)) bW (RdL.arg M) O (aG ax q.1 (av q.2 O) O)) (qY O (yFA gc O) (qY O (yL 1 fk O O O) (qY O (yMI O) ?_)))
           obtain⟨l,h⟩:=gOs h
           refine qY O (yI dC (by decide) l.1 l.2 (RdL.arg M) (eL ax O) O O) ?_
           refine qY O (yR (A:=Q) (j:=(Int.toNat g.2.2*1)) (v:=vI (rdL p3.fC g.2.2)) bW (RdL.arg M) O (aG ax l.1 (av l.2 O) O)) (qY O (ge O O) (dq (oN (aa ?_))))
           rcases iOs h with⟨f4,h⟩|⟨f4,h⟩
           ·refine cT (vB f4) (cS (cR (oY O (yAI O) (oN (aa (aq (al (ab ?_))))))))
            obtain rfl:=sI h
            exact aC ⟨O,_,O,(kp4 (kp4 (kp4 (kp O))))⟩
           ·refine cF (vB f4) (cK (au (aa (cR (oY O (yMI O) (oY O (bF O O) (oY O (yAI O) (oN ?_))))))))
            obtain rfl:=sI h
            exact eN ⟨_,O,(kp4 (kp4 (kp4 (kp O))))⟩
          ·refine cF (vB f3) (aJ (ak ?_))
           obtain rfl:=sI h
           exact aC ⟨O,_,O,(kp4 (kp4 (kp4 (kp O))))⟩
         ·intro e L tm hJ
          rcases r5 with u1|u2
          ·dsimp only at h hJ
           obtain⟨rfl,ot,rfl,rfl⟩:=hJ
           refine⟨(by intro hc;cases hc),?_⟩
           refine al (ab (al (ab (aX 2 ?_))))
           obtain rfl:=sI h
           exact aC ⟨O,_,O,(kp4 (kp (kp (kp O))))⟩
          ·dsimp only at h hJ
           obtain⟨rfl,oa,rfl,rfl⟩:=hJ
           refine⟨(by intro hc;cases hc),?_⟩
           refine ai (aa (cR (oY O (yFA lO O) (oY O (yL 2 bW O O O) (oY O (yAI O) (oN (au (aa (cR (oY O (yMI O) (oY O (bF O O) (oY O (yAI O) (oN (aX 2 ?_))))))))))))))
           obtain rfl:=sI h
           exact eN ⟨_,O,(kp4 (kp (kp (kp O))))⟩
       ·rcases aD f1 with u|u
        ·refine oSk (sF O O O O u) (oSk (sF O O O O u) (oSk (sF O O O O u) (oSk O (oSk O (oSk O (oSk O (oSk (sF O O O O u) (oY O (ar (vB u) O) ?_))))))))
         exact key _ _ (keep (keep (keep (keep (keep (keep (keep (keep (keep (keep (keep (keep O O) O) O) O) O) O) O) O) O) O) O) (vB (pH u)))
        ·refine oY (sT O O O O u) (yMI O) (oY (sT O O O O u) (i8 O O) (oY (sT O O O O u) (yMB O) ?_))
         refine oJ 5 (fun w=>(upd (upd (upd (upd (upd (upd (upd (upd (upd (upd (upd (upd (upd w 1 (.slice Ac p1.length cc)) 2 (vI p2)) 4 (.pointer (some ⟨b1,0,none⟩))) 7 (.pointer (some ⟨b2,0,none⟩))) 8 (vI g.1)) 10 (vI g.2.1)) 11 (vI g.2.2)) 31 (.bool (decide (g.2.2<(p3.fC.length:Int))))) 12 (vI f)) 42 (.bool (decide (f<0)))) 13 (.pointer (some ⟨f0,0,none⟩))) 65 (.bool f1)) 73 (.bool ((decide (0<g.2.2))&&(((rdL ((rdL p0.fC f).fO) (rdL p3.fCase f)).fFrom) !=g.2.1))))) (fun w=>?_) (fun key=>?_)
         ·refine oY O (ap (vB u) O) ?_
          exact key _ _ (keep (keep (keep (keep (keep (keep (keep (keep (keep (keep (keep (keep O O) O) O) O) O) O) O) O) O) O) O) (vB (pL u)))
         ·rcases aD (decide (0<g.2.2))with D|D
          ·refine oY (sT O O O O D) (yFA iX O) (oY (sT O O O O D) (yL 2 bW O O O) (oY (sT O O O O D) (yMI O) (oY (sT O O O O D) (ft O O) (oY (sT O O O O u) (ar (vB D) O) ?_))))
           exact key _ _ (keep (keep (keep (keep (keep (keep (keep (keep (keep (keep (keep (keep (keep O O) O) O) O) O) O) O) O) O) O) O) O) (vB (mq D)))
          ·refine oSk (sF O O O O D) (oSk (sF O O O O D) (oSk (sF O O O O D) (oSk (sF O O O O D) (oY (sT O O O O u) (ap (vB D) O) ?_))))
           exact key _ _ (keep (keep (keep (keep (keep (keep (keep (keep (keep (keep (keep (keep (keep O O) O) O) O) O) O) O) O) O) O) O) O) (vB (mb D)))
      ·clear h;rcases iOs o1 with⟨E,h⟩|⟨E,h⟩
       ·refine oY (sT O O O O E) (yMS O) (oY (sT O O O O E) (yFA iX O) (oY (sT O O O O E) (yL 2 bW O O O) ?_))
        obtain⟨r6,oi,h⟩:=bOs h
        refine oY (sT O O O O E) (yC [.slice Ac p1.length cc,vI ((rdL ((rdL p0.fC f).fO) (rdL p3.fCase f)).fFrom)] go_82 O (fun W2 r=>mU p1 ((rdL ((rdL p0.fC f).fO) (rdL p3.fCase f)).fFrom) r6 oi W2 Ac p1.length cc O ((RdL.arg Z) W2 r)) O) (oY (sT O O O O E) (fa O) (oY O (ar (vB E) O) ?_))
        obtain rfl:=sI h
        exact key _ _ (kp4 (kp4 (kp4 O)))
       ·refine oSk (sF O O O O E) (oSk (sF O O O O E) (oSk (sF O O O O E) (oSk (sF O O O O E) (oSk (sF O O O O E) (oY O (ap (vB E) O) ?_)))))
        obtain rfl:=sI h
        exact key _ _ (kp4 (kp4 (kp4 O)))
    ·refine cF (vB b) (aJ (ak ?_))
     obtain rfl:=sI h
     exact aC ⟨O,_,O,(kp4 (kp (kp (kp O))))⟩
   ·intro e L tm hJ
    rcases r4 with ri|t
    ·dsimp only at h hJ
     obtain⟨rfl,oj,rfl,rfl⟩:=hJ
     refine⟨(by intro hc;cases hc),?_⟩
     refine al (ab ?_)
     obtain rfl:=sI h
     exact ao (.inl O) O (rVt (v:=vI ri.1) O) (fun W2 r=>⟨O,r.none⟩)
    ·dsimp only at h hJ
     obtain⟨rfl,ok,rfl,rfl⟩:=hJ
     refine⟨(by intro hc;cases hc),?_⟩
     refine ai (aa (cS (cS (cR (oY O (yFA gc O) (oY O (yL 1 fk O O O) (oY O (a8 (us:=[]) bj O) (oY O (ge O O) (oY O (yMB O) ?_)))))))))
     obtain⟨fr,r0,h⟩:=bOs h
     refine oJ 5 (fun w=>(upd (upd (upd (upd (upd w 2 (vI p2)) 7 (.pointer (some ⟨b2,0,none⟩))) 8 (vI t.1)) 10 (vI t.2.1)) 102 (.bool fr))) (fun w=>?_) (fun key=>?_)
     ·refine oY O (yMB O) ?_
      refine oJ 10 (fun w=>(upd (upd w 8 (vI t.1)) 113 (.bool (fr||((decide (0<(p3.fC.length:Int)))&&(t.2.1 !=p2)))))) (fun w=>?_) (fun key=>?_)
      ·refine oN (aa ?_)
       rcases iOs h with⟨f9,h⟩|⟨f9,h⟩
       ·refine cT (vB f9) (cS (cR (oY O (yAI O) (oN (aa (aq (ab ?_)))))))
        obtain rfl:=sI h
        exact ao (.inl O) O (rVt (v:=vI 8) O) (fun W2 r=>⟨O,r.none⟩)
       ·refine cF (vB f9) (cK (aa (cS (cR (oY O (yAI O) (oN (aa (aq ?_))))))))
        obtain rfl:=sI h
        exact ao (.inl O) O (rVt (v:=vI 0) O) (fun W2 r=>⟨O,r.none⟩)
      ·rcases aD fr with o|o
       ·refine oSk (sF O O O O o) (oSk (sF O O O O o) (oSk (sF O O O O o) (oSk (sF O O O O o) (oSk (sF O O O O o) (oSk O (oSk O (oSk O (oSk (sF O O O O o) (oY O (ar (vB o) O) ?_)))))))))
        exact key _ _ (keep (keep O O) (vB (pH o)))
       ·refine oY (sT O O O O o) (yFA gc O) (oY (sT O O O O o) (yL 1 fk O O O) (oY (sT O O O O o) (a8 (us:=[]) bj O) (oY (sT O O O O o) (i8 O O) (oY (sT O O O O o) (yMB O) ?_))))
        refine oJ 4 (fun w=>(upd (upd (upd w 8 (vI t.1)) 103 (.bool fr)) 112 (.bool ((decide (0<(p3.fC.length:Int)))&&(t.2.1 !=p2))))) (fun w=>?_) (fun key=>?_)
        ·refine oY O (ap (vB o) O) ?_
         exact key _ _ (keep (keep O O) (vB (pL o)))
        ·rcases aD (decide (0<(p3.fC.length:Int)))with G|G
         ·refine oY (sT O O O O G) (yMI O) (oY (sT O O O O G) (yMI O) (oY (sT O O O O G) (ft O O) (oY (sT O O O O o) (ar (vB G) O) ?_)))
          exact key _ _ (keep (keep (keep O O) O) (vB (mq G)))
         ·refine oSk (sF O O O O G) (oSk (sF O O O O G) (oSk (sF O O O O G) (oY (sT O O O O o) (ap (vB G) O) ?_)))
          exact key _ _ (keep (keep (keep O O) O) (vB (mb G)))
     ·clear h;rcases iOs r0 with⟨H,h⟩|⟨H,h⟩
      ·refine oY (sT O O O O H) (yMS O) (oY (sT O O O O H) (yMI O) ?_)
       obtain⟨rj,r1,h⟩:=bOs h
       refine oY (sT O O O O H) (yC [.slice Ac p1.length cc,vI p2] go_82 O (fun W2 r=>mU p1 p2 rj r1 W2 Ac p1.length cc O ((RdL.arg Z) W2 r)) O) (oY (sT O O O O H) (fa O) (oY O (ar (vB H) O) ?_))
       obtain rfl:=sI h
       exact key _ _ (kp4 (kp O))
      ·refine oSk (sF O O O O H) (oSk (sF O O O O H) (oSk (sF O O O O H) (oSk (sF O O O O H) (oY O (ap (vB H) O) ?_))))
       obtain rfl:=sI h
       exact key _ _ (kp4 (kp O))
theorem mf (p0:TTrace) (p1:Int) (p2:Int) (p3:Int) (res:TTrace) (h:eP p0 p1 p2 p3=some res) (W:World) (Aa:Option Addr) (E ca:Nat) (M:E=p0.fCase.length) (N:Rd W Aa E ca (encL cI p0.fCase)) (Ab:Option Addr) (F cb:Nat) (Q:F=p0.fC.length) (U:Rd W Ab F cb (encL cI p0.fC)) (wb:World) (Hb:World→Prop) (hB:∀W3,Below W.heap.size W W3→Below wb.heap.size wb W3∧Hb W3) :
  Calls Tryz.prog 45 [.agg #[.slice Aa E ca,.slice Ab F cb],.int .u8 p1,.int .u8 p2,vI p3].toArray W fun e W2=>∃x:((Hd × Res) × (Hd × Res)),(x.1.1.2.1=res.fCase.length∧Pv cI wb (fun W4=>Hb W4∧Res.holds x.1.2 W4) x.1.1 res.fCase∧x.2.1.2.1=res.fC.length∧Pv cI wb (fun W4=>Hb W4∧Res.holds x.2.2 W4) x.2.1 res.fC)∧e=.returned (.agg #[.slice x.1.1.1 x.1.1.2.1 x.1.1.2.2,.slice x.2.1.1 x.2.1.2.1 x.2.1.2.2])∧Ext W W2 [x.1.2,x.2.2]:=by
 subst M
 subst Q
 unfold eP at h
 refine ah (m:=67) Tryz.func45 O O (nB O) (cS (cR ?_))
 refine aO [.slice Aa p0.fCase.length ca,.slice Ab p0.fC.length cb] O O O (fun R=>?_)
 refine aT rE O (fun q=>?_)
 refine oN (aa (cS ?_))
 obtain⟨T,h⟩:=gOs h
 obtain⟨X,h⟩:=gOs h
 refine j9 [[],[],[1],[0,1,2],[],[],[5],[0,1,2,3,4,5,6],[0,1,2,3,4,5,6,7],[],[0,1,2,3,4,5,6,7,8,9]] [(none,1,[true,true]),(none,0,[true,true,false]),(none,0,[true,true,false]),(some 2,0,[true,true,true]),(none,1,[true,true,false]),(none,0,[true,true,false,false]),(none,0,[true,true,false,false]),(some 3,0,[true,true,true,true]),(none,0,[true,true,true,true]),(none,1,[true,true,false,false]),(some 4,0,[true,true,true,true,true])] [⟨fun ξ3=>.slice (some ⟨(ξ3 0 0).2.1,0,none⟩) 0 0,fun _=>noR,fun ξ3=>[be (some ⟨(ξ3 0 0).2.1,0,none⟩) 0 3 1 0 (encL cI ([]:List Int))]⟩,⟨fun _=>.pointer (some ⟨R,0+0,none⟩),fun _=>noR,fun _=>[]⟩,⟨fun _=>.slice Aa p0.fCase.length ca,fun _=>noR,fun _=>[]⟩,⟨fun ξ3=>.slice (ξ3 3 0).1 (0+p0.fCase.length) (ξ3 3 0).2.2.1,fun ξ3=>be (ξ3 3 0).1 (ξ3 3 0).2.2.1 3 1 (0+p0.fCase.length) (encL cI (([]:List Int)++p0.fCase)),fun _=>[]⟩,⟨fun ξ3=>.slice (some ⟨(ξ3 4 0).2.1,0,none⟩) 0 0,fun _=>noR,fun ξ3=>[be (some ⟨(ξ3 4 0).2.1,0,none⟩) 0 3 1 0 (encL cI ([]:List Int))]⟩,⟨fun _=>.pointer (some ⟨R,0+1,none⟩),fun _=>noR,fun _=>[]⟩,⟨fun _=>.slice Ab p0.fC.length cb,fun _=>noR,fun _=>[]⟩,⟨fun ξ3=>.slice (ξ3 7 0).1 (0+p0.fC.length) (ξ3 7 0).2.2.1,fun ξ3=>be (ξ3 7 0).1 (ξ3 7 0).2.2.1 3 1 (0+p0.fC.length) (encL cI (([]:List Int)++p0.fC)),fun _=>[]⟩,⟨fun ξ3=>.agg #[.slice (ξ3 3 0).1 (0+p0.fCase.length) (ξ3 3 0).2.2.1,.slice (ξ3 7 0).1 (0+p0.fC.length) (ξ3 7 0).2.2.1],fun _=>noR,fun _=>[]⟩,⟨fun ξ3=>.pointer (some ⟨(ξ3 9 0).2.1,0,none⟩),fun _=>noR,fun ξ3=>[aj (ξ3 9 0).2.1 64 [.slice none 0 0,.slice none 0 0]]⟩,⟨fun _=>undef,fun ξ3=>aj (ξ3 9 0).2.1 64 [.slice (ξ3 3 0).1 (0+p0.fCase.length) (ξ3 3 0).2.2.1,.slice (ξ3 7 0).1 (0+p0.fC.length) (ξ3 7 0).2.2.1],fun _=>[]⟩] 2 di (by kernel_rfl) (by kernel_rfl) ⟨⟨fun ξ3 ξ3' h=>⟨by simp only[h 0 (.inl O)],O,by simp only[h 0 (.inl O)]⟩,fun _=>O⟩,⟨fun ξ3 ξ3' h=>⟨O,O,O⟩,fun _=>O⟩,⟨fun ξ3 ξ3' h=>⟨O,O,O⟩,fun _=>O⟩,⟨fun ξ3 ξ3' h=>⟨by simp only[h 3 (.inl O)],by simp only[h 3 (.inl O)],O⟩,fun _=>O⟩,⟨fun ξ3 ξ3' h=>⟨by simp only[h 4 (.inl O)],O,by simp only[h 4 (.inl O)]⟩,fun _=>O⟩,⟨fun ξ3 ξ3' h=>⟨O,O,O⟩,fun _=>O⟩,⟨fun ξ3 ξ3' h=>⟨O,O,O⟩,fun _=>O⟩,⟨fun ξ3 ξ3' h=>⟨by simp only[h 7 (.inl O)],by simp only[h 7 (.inl O)],O⟩,fun _=>O⟩,⟨fun ξ3 ξ3' h=>⟨by simp only[h 3 (.inr O),h 7 (.inr O)],O,O⟩,fun _=>O⟩,⟨fun ξ3 ξ3' h=>⟨by simp only[h 9 (.inl O)],O,by simp only[h 9 (.inl O)]⟩,fun _=>O⟩,⟨fun ξ3 ξ3' h=>⟨O,by simp only[h 3 (.inr O),h 7 (.inr O),h 9 (.inr O)],O⟩,fun _=>O⟩,trivial⟩ O (fun ξ3=>?_)
 refine fq O (fun L2=>?_) ?_
 ·dsimp only[aP,lca,lna]
  refine fT cI bj j7 kY O (fun t=>?_)
  refine oN ?_
  exact aE (fun _=>(none,t,0,[],noR)) O O
 dsimp only[dG,lsz,lss,lna,lca,List.append_nil]
 refine fq O (fun L2=>?_) ?_
 ·dsimp only[aP,lca,lna]
  refine oY O (yFA lG O) (oN ?_)
  exact aE (fun _=>(none,0,0,[],noR)) O (List.append_nil _)
 dsimp only[dG,lsz,lss,lna,lca,List.append_nil]
 refine fq O (fun L2=>?_) ?_
 ·dsimp only[aP,lca,lna]
  refine oY O (yL 0 fk O O O) (oN ?_)
  exact aE (fun _=>(none,0,0,[],noR)) O (List.append_nil _)
 dsimp only[dG,lsz,lss,lna,lca,List.append_nil]
 refine fq O (fun L2=>?_) ?_
 ·dsimp only[aP,lca,lna]
  refine cr 2 bj j7 kY O O O (RdL.arg N) (eL ax O) (eA mj _) (eF T (by decide)) O (fun p n=>?_)
  refine oN ?_
  first|exact aE (fun _=>(p,0,n,[],noR)) O O|exact aE (fun _=>(p,0,n,[],noR)) O (List.append_nil _)
 dsimp only[dG,lsz,lss,lna,lca,List.append_nil]
 refine fq O (fun L2=>?_) ?_
 ·dsimp only[aP,lca,lna]
  refine fT cI bj j7 kY O (fun a=>?_)
  refine oN ?_
  exact aE (fun _=>(none,a,0,[],noR)) O O
 dsimp only[dG,lsz,lss,lna,lca,List.append_nil]
 refine fq O (fun L2=>?_) ?_
 ·dsimp only[aP,lca,lna]
  refine oY O (yFA gc O) (oN ?_)
  exact aE (fun _=>(none,0,0,[],noR)) O (List.append_nil _)
 dsimp only[dG,lsz,lss,lna,lca,List.append_nil]
 refine fq O (fun L2=>?_) ?_
 ·dsimp only[aP,lca,lna]
  refine oY O (yL 0 fk O O O) (oN ?_)
  exact aE (fun _=>(none,0,0,[],noR)) O (List.append_nil _)
 dsimp only[dG,lsz,lss,lna,lca,List.append_nil]
 refine fq O (fun L2=>?_) ?_
 ·dsimp only[aP,lca,lna]
  refine cr 3 bj j7 kY O O O (RdL.arg U) (eL ax O) (eA mj _) (eF X (by decide)) O (fun l Y=>?_)
  refine oN ?_
  first|exact aE (fun _=>(l,0,Y,[],noR)) O O|exact aE (fun _=>(l,0,Y,[],noR)) O (List.append_nil _)
 dsimp only[dG,lsz,lss,lna,lca,List.append_nil]
 refine fq O (fun L2=>?_) ?_
 ·dsimp only[aP,lca,lna]
  refine oY O (cf [.slice (ξ3 3 0).1 (0+p0.fCase.length) (ξ3 3 0).2.2.1,.slice (ξ3 7 0).1 (0+p0.fC.length) (ξ3 7 0).2.2.1] [(0,1),(1,1)] ust_64 rE (by kernel_rfl)) ?_
  refine oN ?_
  exact aE (fun _=>(none,0,0,[],noR)) O (List.append_nil _)
 dsimp only[dG,lsz,lss,lna,lca,List.append_nil]
 refine fq O (fun L2=>?_) ?_
 ·dsimp only[aP,lca,lna]
  refine aT rE O (fun S=>?_)
  refine oN ?_
  exact aE (fun _=>(none,S,0,[],noR)) O O
 dsimp only[dG,lsz,lss,lna,lca,List.append_nil]
 refine gx_n O (fun L2=>?_) ?_
 ·dsimp only[aP,lca,lna]
  refine d9 O (yS 4 [.slice (ξ3 3 0).1 (0+p0.fCase.length) (ξ3 3 0).2.2.1,.slice (ξ3 7 0).1 (0+p0.fC.length) (ξ3 7 0).2.2.1] ro O (nB O) O O O) (oN ?_)
  first|exact fc (fun _=>(none,0,0,[],noR)) O|exact fc (fun _=>(none,0,0,[],noR)) (List.append_nil _)
 dsimp only[dG,lsz,lss,lna,lca,List.append_nil]
 refine pF (aa (cS (ae (cS (cR (oY O (yMI O) ?_))))))
 refine oY O (y_rem (by decide) O O) ?_
 refine oY O (ge O O) (oY O (yMB O) ?_)
 refine oJ 5 (fun G=>(upd (upd (upd (upd (upd (upd G 1 (.int .u8 p1)) 2 (.int .u8 p2)) 3 (vI p3)) 8 (.pointer (some ⟨q,0,none⟩))) 9 (.pointer (some ⟨(ξ3 9 0).2.1,0,none⟩))) 28 (.bool (((Int.tmod p2 4)==1)&&(decide (0<(((0+p0.fCase.length):Nat):Int))))))) (fun G=>?_) (fun key=>?_)
 ·refine oY O (yAB O) (oN (aa ?_))
  rcases iOs h with⟨H,h⟩|⟨H,h⟩
  ·refine cT (vB H) ?_
   refine bl 13 di (by kernel_rfl) (by kernel_rfl) ?_
   refine qY O (yFA lG O) (qY O (yL 4 fk O O O) (qY O (yMI O) (qY O (y_convert ui_5 ui_3 O) (qY O (yFA lG O) (qY O (yL 4 fk O O O) (qY O (a8 (us:=[]) bj O) ?_))))))
   obtain⟨Z,h⟩:=gOs h
   refine qY O (y_rem Z O O) ?_
   obtain⟨r,h⟩:=gOs h
   refine qY O (yI dC (by decide) r.1 r.2 (RdL.row 2 O) (eL ax (md O)) O O) ?_
   refine qY O (yR (A:=(ξ3 3 0).1) (j:=(Int.toNat (Int.tmod (w64 p1) (((0+p0.fCase.length):Nat):Int))*1)) (v:=vI (rdL (([]:List Int)++p0.fCase) (Int.tmod (w64 p1) (((0+p0.fCase.length):Nat):Int)))) bW (RdL.row 2 O) O (aG ax r.1 (av r.2 (md O)) O)) (qY O (yMI O) (qY O (bF O O) ?_))
   obtain⟨u,h⟩:=gOs h
   refine qY O (yI dC (by decide) u.1 u.2 (RdL.row 2 O) (eL ax (md O)) O O) ?_
   refine dq (d9 O (dP 2 (xs:=(([]:List Int)++p0.fCase)) ax (w64 ((rdL (([]:List Int)++p0.fCase) (Int.tmod (w64 p1) (((0+p0.fCase.length):Nat):Int)))+p3)) rI O u.1 (av u.2 (md O)) O O O O) (oN (au (aa (cS (cR (oY O (yN 4 [.slice (ξ3 3 0).1 (0+p0.fCase.length) (ξ3 3 0).2.2.1,.slice (ξ3 7 0).1 (0+p0.fC.length) (ξ3 7 0).2.2.1] kM O O O) (d9 O (yS 1 [.slice (ξ3 3 0).1 (0+p0.fCase.length) (ξ3 3 0).2.2.1,.slice (ξ3 7 0).1 (0+p0.fC.length) (ξ3 7 0).2.2.1] ro O (nB O) O O O) (oN (aa (aq ?_)))))))))))
   obtain rfl:=sI h
   exact ao (.inl O) O (dL 1 [.slice (ξ3 3 0).1 (0+p0.fCase.length) (ξ3 3 0).2.2.1,.slice (ξ3 7 0).1 (0+p0.fC.length) (ξ3 7 0).2.2.1] kM O O O) (fun W2 o=>⟨((((ξ3 3 0).1,(0+p0.fCase.length),(ξ3 3 0).2.2.1),be (ξ3 3 0).1 (ξ3 3 0).2.2.1 3 1 (0+p0.fCase.length) (encL cI ((([]:List Int)++p0.fCase).set (Int.toNat (Int.tmod (w64 p1) (((0+p0.fCase.length):Nat):Int))) (w64 ((rdL (([]:List Int)++p0.fCase) (Int.tmod (w64 p1) (((0+p0.fCase.length):Nat):Int)))+p3))))),(((ξ3 7 0).1,(0+p0.fC.length),(ξ3 7 0).2.2.1),be (ξ3 7 0).1 (ξ3 7 0).2.2.1 3 1 (0+p0.fC.length) (encL cI (([]:List Int)++p0.fC)))),⟨(gJ (md O)),(fun _ _ h=>gl h.2),(md O),(fun _ _ h=>gl h.2)⟩,O,o.pickL [2,3] (by decide) O⟩)
  ·refine cF (vB H) (cS (cR (oY O (yMI O) ?_)))
   refine oY O (y_rem (by decide) O O) ?_
   refine oY O (ge O O) (oY O (yMB O) ?_)
   refine oJ 5 (fun G=>(upd (upd (upd (upd (upd G 2 (.int .u8 p2)) 3 (vI p3)) 8 (.pointer (some ⟨q,0,none⟩))) 9 (.pointer (some ⟨(ξ3 9 0).2.1,0,none⟩))) 51 (.bool (((Int.tmod p2 4)==2)&&(decide (0<(((0+p0.fC.length):Nat):Int))))))) (fun G=>?_) (fun key=>?_)
   ·refine oY O (yAB O) (oN (aa ?_))
    rcases iOs h with⟨I,h⟩|⟨I,h⟩
    ·refine cT (vB I) (cR (oY O (yFA gc O) (oY O (yL 4 fk O O O) ?_)))
     obtain⟨d,h⟩:=gOs h
     refine oY O (y_cutL dC d.1 d.2 (RdL.row 3 O) O O) (oY O (yFA gc O) (d9 O (cL 4 (v:=.slice (if(ξ3 7 0).2.2.1=Int.toNat 1 then(ξ3 7 0).1 else Option.map (fun x=>x.add (Int.toNat 1*1)) (ξ3 7 0).1) ((0+p0.fC.length)-Int.toNat 1) ((ξ3 7 0).2.2.1-Int.toNat 1)) sz_26 O (Nat.lt_of_lt_of_le (Nat.lt_succ_self _) (nB O)) O O O) (oN (au (aa (cS (cR (oY O (yN 4 [.slice (ξ3 3 0).1 (0+p0.fCase.length) (ξ3 3 0).2.2.1,.slice (if(ξ3 7 0).2.2.1=Int.toNat 1 then(ξ3 7 0).1 else Option.map (fun x=>x.add (Int.toNat 1*1)) (ξ3 7 0).1) ((0+p0.fC.length)-Int.toNat 1) ((ξ3 7 0).2.2.1-Int.toNat 1)] kM O O O) (d9 O (yS 1 [.slice (ξ3 3 0).1 (0+p0.fCase.length) (ξ3 3 0).2.2.1,.slice (if(ξ3 7 0).2.2.1=Int.toNat 1 then(ξ3 7 0).1 else Option.map (fun x=>x.add (Int.toNat 1*1)) (ξ3 7 0).1) ((0+p0.fC.length)-Int.toNat 1) ((ξ3 7 0).2.2.1-Int.toNat 1)] ro O (nB O) O O O) (oN (aa (aq ?_))))))))))))
     obtain rfl:=sI h
     exact ao (.inl O) O (dL 1 [.slice (ξ3 3 0).1 (0+p0.fCase.length) (ξ3 3 0).2.2.1,.slice (if(ξ3 7 0).2.2.1=Int.toNat 1 then(ξ3 7 0).1 else Option.map (fun x=>x.add (Int.toNat 1*1)) (ξ3 7 0).1) ((0+p0.fC.length)-Int.toNat 1) ((ξ3 7 0).2.2.1-Int.toNat 1)] kM O O O) (fun W2 o=>⟨((((ξ3 3 0).1,(0+p0.fCase.length),(ξ3 3 0).2.2.1),be (ξ3 3 0).1 (ξ3 3 0).2.2.1 3 1 (0+p0.fCase.length) (encL cI (([]:List Int)++p0.fCase))),(((if(ξ3 7 0).2.2.1=Int.toNat 1 then(ξ3 7 0).1 else Option.map (fun x=>x.add (Int.toNat 1*1)) (ξ3 7 0).1),((0+p0.fC.length)-Int.toNat 1),((ξ3 7 0).2.2.1-Int.toNat 1)),be (ξ3 7 0).1 (ξ3 7 0).2.2.1 3 1 (0+p0.fC.length) (encL cI (([]:List Int)++p0.fC)))),⟨(md O),(fun _ _ h=>gl h.2),(cutL_len (md O)),(Pv.cutL ax d.1 d.2 (md O) (fun _ _ h=>gl h.2))⟩,O,o.pickL [2,3] (by decide) O⟩)
    ·refine cF (vB I) (cS (cR (oY O (yMI O) ?_)))
     refine oY O (y_rem (by decide) O O) ?_
     refine oY O (ge O O) (oY O (yAB O) (oN (aa ?_)))
     rcases iOs h with⟨K,h⟩|⟨K,h⟩
     ·refine cT (vB K) (cR (oY O (yFA gc O) (oY O (yL 4 fk O O O) (oY O (yMI O) ?_))))
      refine az 1 (encL cI [p3]) _ go bj j7 kY (by decide) (by decide) (by kernel_rfl) (eL ax O) O (fun z=>?_)
      try dsimp only[lna,lca,lsz,lss]
      obtain⟨V,h⟩:=gOs h
      refine cr 3 bj j7 kY O O O (RdL.row 5 O) (eL ax O) (eA mj _) (eF V (by decide)) O (fun w D=>?_)
      refine oY O (yFA gc O) (d9 O (cL 4 (v:=.slice w ((0+p0.fC.length)+1) D) sz_26 O (Nat.lt_of_lt_of_le (Nat.lt_succ_self _) (nB O)) O O O) (oN (au (aa (cS (cR (oY O (yN 4 [.slice (ξ3 3 0).1 (0+p0.fCase.length) (ξ3 3 0).2.2.1,.slice w ((0+p0.fC.length)+1) D] kM O O O) (d9 O (yS 1 [.slice (ξ3 3 0).1 (0+p0.fCase.length) (ξ3 3 0).2.2.1,.slice w ((0+p0.fC.length)+1) D] ro O (nB O) O O O) (oN (aa (aq ?_)))))))))))
      obtain rfl:=sI h
      exact ao (.inl O) O (dL 1 [.slice (ξ3 3 0).1 (0+p0.fCase.length) (ξ3 3 0).2.2.1,.slice w ((0+p0.fC.length)+1) D] kM O O O) (fun W2 o=>⟨((((ξ3 3 0).1,(0+p0.fCase.length),(ξ3 3 0).2.2.1),be (ξ3 3 0).1 (ξ3 3 0).2.2.1 3 1 (0+p0.fCase.length) (encL cI (([]:List Int)++p0.fCase))),((w,((0+p0.fC.length)+1),D),be w D 3 1 ((0+p0.fC.length)+1) (encL cI ((([]:List Int)++p0.fC)++[p3])))),⟨(md O),(fun _ _ h=>gl h.2),(lH (md O) O),(fun _ _ h=>gl h.2)⟩,O,o.pickL [2,3] (by decide) O⟩)
     ·refine cF (vB K) (cK (au (aa (cS (cR (oY O (yN 4 [.slice (ξ3 3 0).1 (0+p0.fCase.length) (ξ3 3 0).2.2.1,.slice (ξ3 7 0).1 (0+p0.fC.length) (ξ3 7 0).2.2.1] kM O O O) (d9 O (yS 1 [.slice (ξ3 3 0).1 (0+p0.fCase.length) (ξ3 3 0).2.2.1,.slice (ξ3 7 0).1 (0+p0.fC.length) (ξ3 7 0).2.2.1] ro O (nB O) O O O) (oN (aa (aq ?_))))))))))
      obtain rfl:=sI h
      exact ao (.inl O) O (dL 1 [.slice (ξ3 3 0).1 (0+p0.fCase.length) (ξ3 3 0).2.2.1,.slice (ξ3 7 0).1 (0+p0.fC.length) (ξ3 7 0).2.2.1] kM O O O) (fun W2 o=>⟨((((ξ3 3 0).1,(0+p0.fCase.length),(ξ3 3 0).2.2.1),be (ξ3 3 0).1 (ξ3 3 0).2.2.1 3 1 (0+p0.fCase.length) (encL cI (([]:List Int)++p0.fCase))),(((ξ3 7 0).1,(0+p0.fC.length),(ξ3 7 0).2.2.1),be (ξ3 7 0).1 (ξ3 7 0).2.2.1 3 1 (0+p0.fC.length) (encL cI (([]:List Int)++p0.fC)))),⟨(md O),(fun _ _ h=>gl h.2),(md O),(fun _ _ h=>gl h.2)⟩,O,o.pickL [2,3] (by decide) O⟩)
   ·rcases aD ((Int.tmod p2 4)==2)with f|f
    ·refine oY (sT O O O O f) (yFA gc O) (oY (sT O O O O f) (yL 4 fk O O O) (oY (sT O O O O f) (a8 (us:=[]) bj O) (oY (sT O O O O f) (i8 O O) (oY O (ar (vB f) O) ?_))))
     exact key _ _ (keep (keep (keep (keep (keep O O) O) O) O) (vB (mq f)))
    ·refine oSk (sF O O O O f) (oSk (sF O O O O f) (oSk (sF O O O O f) (oSk (sF O O O O f) (oY O (ap (vB f) O) ?_))))
     exact key _ _ (keep (keep (keep (keep (keep O O) O) O) O) (vB (mb f)))
 ·rcases aD ((Int.tmod p2 4)==1)with g|g
  ·refine oY (sT O O O O g) (yFA lG O) (oY (sT O O O O g) (yL 4 fk O O O) (oY (sT O O O O g) (a8 (us:=[]) bj O) (oY (sT O O O O g) (i8 O O) (oY O (ar (vB g) O) ?_))))
   exact key _ _ (keep (keep (keep (keep (keep (keep O O) O) O) O) O) (vB (mq g)))
  ·refine oSk (sF O O O O g) (oSk (sF O O O O g) (oSk (sF O O O O g) (oSk (sF O O O O g) (oY O (ap (vB g) O) ?_))))
   exact key _ _ (keep (keep (keep (keep (keep (keep O O) O) O) O) O) (vB (mb g)))
theorem calxlaw09_RecallWays_ok (p0:TL) (p1:(List Int)) (p2:Int) (p3:TTrace) (p4:Int) (p5:Int) (p6:Int) (res:Bool) (h:fe p0 p1 p2 p3 p4 p5 p6=some res) (W:World) (Aa:Option Addr) (fl ca:Nat) (r5:fl=p0.fNo.length) (H:Rd W Aa fl ca (encL TNode_cells p0.fNo)) (Ab:Option Addr) (g1 cb:Nat) (E:List (Hd × TC)) (r6:g1=p0.fC.length) (I:Rd W Ab g1 cb (encL TClaim_cells2 E)) (K:NestW W (fun z:TC=>z.fO) THop_cells E p0.fC) (Ac:Option Addr) (g2 cc:Nat) (rd:g2=p1.length) (M:Rd W Ac g2 cc (encL cI p1)) (N:Option Addr) (g3 Q:Nat) (ri:g3=p3.fCase.length) (y:Rd W N g3 Q (encL cI p3.fCase)) (U:Option Addr) (gf X:Nat) (rj:gf=p3.fC.length) (b:Rd W U gf X (encL cI p3.fC)) :
  Calls Tryz.prog 9 [.agg #[.slice Aa fl ca,.slice Ab g1 cb],.slice Ac g2 cc,vI p2,.agg #[.slice N g3 Q,.slice U gf X],.int .u8 p4,.int .u8 p5,vI p6].toArray W fun e W2=>e=.returned (.bool res)∧Ext W W2 []:=by
 subst r5
 subst r6
 subst rd
 subst ri
 subst rj
 unfold fe at h
 refine ah (m:=123) Tryz.func9 O O (nB O) (cS (cR ?_))
 refine aO [.slice Aa p0.fNo.length ca,.slice Ab p0.fC.length cb] O O O (fun b1=>?_)
 refine aO [.slice N p3.fCase.length Q,.slice U p3.fC.length X] O O O (fun b2=>?_)
 refine oY O (yAB O) (oN (aa (cS (cR ?_))))
 obtain⟨y3,uS,h⟩:=bOs h
 refine oY O (yC [] go_13 O (fun W2 f=>pw  y3 uS W2 ) O) (oY O (yAB O) (oN (aa (cS (cS (cR (oY O (yN 0 [.slice Aa p0.fNo.length ca,.slice Ab p0.fC.length cb] aR O O O) ?_)))))))
 obtain⟨y5,uR,h⟩:=bOs h
 refine oY O (yC [.agg #[.slice Aa p0.fNo.length ca,.slice Ab p0.fC.length cb]] go_14 O (fun W2 f=>p8 p0 y5 uR W2 Aa p0.fNo.length ca O ((RdL.arg H) W2 f) Ab p0.fC.length cb E O ((RdL.arg I) W2 f) (NestL.at (NestL.arg K) W2 f)) O) (oY O (fa O) (oY O (yMB O) ?_))
 refine oJ 4 (fun o=>(upd (upd (upd (upd (upd (upd (upd (upd (upd (upd o 1 (.slice Ac p1.length cc)) 2 (vI p2)) 4 (.int .u8 p4)) 5 (.int .u8 p5)) 6 (vI p6)) 7 (.pointer (some ⟨b1,0,none⟩))) 10 (.pointer (some ⟨b2,0,none⟩))) 14 (.bool false)) 15 (.bool y3)) 28 (.bool ((!y5)||(decide (30<(p1.length:Int))))))) (fun o=>?_) (fun key=>?_)
 ·refine oY O (yMB O) ?_
  refine oJ 5 (fun o=>(upd (upd (upd (upd (upd (upd (upd (upd (upd (upd o 1 (.slice Ac p1.length cc)) 2 (vI p2)) 4 (.int .u8 p4)) 5 (.int .u8 p5)) 6 (vI p6)) 7 (.pointer (some ⟨b1,0,none⟩))) 10 (.pointer (some ⟨b2,0,none⟩))) 14 (.bool false)) 15 (.bool y3)) 34 (.bool (((!y5)||(decide (30<(p1.length:Int))))||(decide (100<(p3.fCase.length:Int))))))) (fun o=>?_) (fun key=>?_)
  ·refine oY O (yMB O) ?_
   refine oJ 5 (fun o=>(upd (upd (upd (upd (upd (upd (upd (upd (upd (upd o 1 (.slice Ac p1.length cc)) 2 (vI p2)) 4 (.int .u8 p4)) 5 (.int .u8 p5)) 6 (vI p6)) 7 (.pointer (some ⟨b1,0,none⟩))) 10 (.pointer (some ⟨b2,0,none⟩))) 14 (.bool false)) 15 (.bool y3)) 40 (.bool ((((!y5)||(decide (30<(p1.length:Int))))||(decide (100<(p3.fCase.length:Int))))||(decide (100<(p3.fC.length:Int))))))) (fun o=>?_) (fun key=>?_)
   ·refine oN (aa ?_)
    rcases iOs h with⟨ga,h⟩|⟨ga,h⟩
    ·refine cT (vB ga) (cS (cR (oY O (yMB O) (oY O (yAB O) (oN (aa (aq (ab ?_))))))))
     obtain rfl:=sI h
     exact ao (.inl O) O (rVt (v:=.bool y3) O) (fun W2 f=>⟨O,f.none⟩)
    ·refine cF (vB ga) (cK (aa (cS (cR (oY O (yN 0 [.slice Aa p0.fNo.length ca,.slice Ab p0.fC.length cb] aR O O O) (oY O (yMS O) (oY O (yMI O) ?_)))))))
     obtain⟨g,uf,h⟩:=bOs h
     refine oC [.agg #[.slice Aa p0.fNo.length ca,.slice Ab p0.fC.length cb],.slice Ac p1.length cc,vI p2] _ _ _ O go_42 O (fun W2 f=>sn p0 p1 p2 g uf W2 Aa p0.fNo.length ca O ((RdL.arg H) W2 f) Ab p0.fC.length cb E O ((RdL.arg I) W2 f) (NestL.at (NestL.arg K) W2 f) Ac p1.length cc O ((RdL.arg M) W2 f)) ?_
     rintro⟨⟨n,uq,l⟩,⟨t,up,a⟩⟩ ⟨gb,o0⟩
     replace gb:uq=g.1.fCase.length:=gb;subst gb
     replace o0:up=g.1.fC.length:=o0;subst o0
     refine oY O (bD O) (oY O (yE O O) (oY O (yE O O) ?_))
     refine aT rE O (fun c=>?_)
     refine d9 O (yS 4 [.slice n g.1.fCase.length l,.slice t g.1.fC.length a] ro O (nB O) O O O) (oY O (yAI O) (oN (aa (cS (cR (oY O (yN 0 [.slice Aa p0.fNo.length ca,.slice Ab p0.fC.length cb] aR O O O) (oY O (yMS O) (oY O (yMI O) ?_))))))))
     obtain⟨u0,ug,h⟩:=bOs h
     refine oY O (yC [.agg #[.slice Aa p0.fNo.length ca,.slice Ab p0.fC.length cb],.slice Ac p1.length cc,vI p2] go_38 O (fun W2 f=>qN p0 p1 p2 u0 ug W2 Aa p0.fNo.length ca O ((RdL.arg H) W2 f) Ab p0.fC.length cb E O ((RdL.arg I) W2 f) (NestL.at (NestL.arg K) W2 f) Ac p1.length cc O ((RdL.arg M) W2 f)) O) (oY O (yAI O) (oN (aa (cS (cS (cR (oY O (yMI O) (oY O (ge O O) (oY O (yMB O) ?_)))))))))
     obtain⟨un,uo,h⟩:=bOs h
     refine oJ 6 (fun o=>(upd (upd (upd (upd (upd (upd (upd (upd (upd (upd (upd (upd (upd o 1 (.slice Ac p1.length cc)) 2 (vI p2)) 4 (.int .u8 p4)) 5 (.int .u8 p5)) 6 (vI p6)) 7 (.pointer (some ⟨b1,0,none⟩))) 10 (.pointer (some ⟨b2,0,none⟩))) 14 (.bool false)) 15 (.bool y3)) 16 (.pointer (some ⟨c,0,none⟩))) 17 (vI g.2)) 18 (vI u0)) 61 (.bool un))) (fun o=>?_) (fun key=>?_)
     ·refine oN (aa ?_)
      rcases iOs h with⟨o1,h⟩|⟨o1,h⟩
      ·refine cT (vB o1) (cR (oY O (yAI O) (oN (aa (cS (cS (cR (oY O (yMI O) (oY O (yMI O) (oY O (ft O O) (oY O (yMB O) ?_)))))))))))
       obtain⟨oj,ur,h⟩:=bOs h
       refine oJ 11 (fun o=>(upd (upd (upd (upd (upd (upd (upd (upd (upd (upd (upd (upd o 1 (.slice Ac p1.length cc)) 2 (vI p2)) 4 (.int .u8 p4)) 5 (.int .u8 p5)) 6 (vI p6)) 7 (.pointer (some ⟨b1,0,none⟩))) 10 (.pointer (some ⟨b2,0,none⟩))) 14 (.bool false)) 15 (.bool y3)) 16 (.pointer (some ⟨c,0,none⟩))) 17 (vI g.2)) 76 (.bool oj))) (fun o=>?_) (fun key=>?_)
       ·refine oY O (yMB O) ?_
        refine oJ 13 (fun o=>(upd (upd (upd (upd (upd (upd (upd (upd (upd (upd (upd o 1 (.slice Ac p1.length cc)) 2 (vI p2)) 4 (.int .u8 p4)) 5 (.int .u8 p5)) 6 (vI p6)) 7 (.pointer (some ⟨b1,0,none⟩))) 10 (.pointer (some ⟨b2,0,none⟩))) 14 (.bool false)) 15 (.bool y3)) 16 (.pointer (some ⟨c,0,none⟩))) 90 (.bool (oj||((g.2 !=0)&&(decide (0<w64 ((g.1.fCase.length:Int)+(g.1.fC.length:Int))))))))) (fun o=>?_) (fun key=>?_)
        ·refine oN (aa ?_)
         rcases iOs h with⟨oq,h⟩|⟨oq,h⟩
         ·refine cT (vB oq) (cS (cR (oY O (yAB O) (oN (aa (aq (ab ?_)))))))
          obtain rfl:=sI h
          exact ao (.inl O) O (rVt (v:=.bool false) O) (fun W2 f=>⟨O,f.none⟩)
         ·refine cF (vB oq) (cK (aa (cS (cR (oY O (yN 4 [.slice n g.1.fCase.length l,.slice t g.1.fC.length a] kM O O O) (oY O (yMI O) (oY O (yMI O) (oY O (yMI O) ?_))))))))
          obtain⟨S,uu,h⟩:=bOs h
          refine oC [.agg #[.slice n g.1.fCase.length l,.slice t g.1.fC.length a],.int .u8 p4,.int .u8 p5,vI p6] _ _ _ O go_45 O (fun W2 f=>mf g.1 p4 p5 p6 S uu W2 n g.1.fCase.length l O ((RdL.row 2 O) W2 f) t g.1.fC.length a O ((RdL.row 3 O) W2 f) W (fun _=>True) (fun W3 hb=>⟨pG f.below hb,trivial⟩) ) ?_
          rintro⟨⟨⟨f0,um,f1⟩,F43⟩,⟨⟨f2,ul,f3⟩,F49⟩⟩ ⟨op,r0,om,r1⟩
          replace op:um=S.fCase.length:=op;subst op
          replace om:ul=S.fC.length:=om;subst om
          try dsimp only[lna,lca,lsz,lss]
          refine aT rE O (fun ut=>?_)
          try dsimp only[lna,lca,lsz,lss]
          refine d9 O (yS 7 [.slice f0 S.fCase.length f1,.slice f2 S.fC.length f3] ro O (nB O) O O O) (oN (aa (cS ?_)))
          refine bl 28 di (by kernel_rfl) (by kernel_rfl) ?_
          refine qY O (yMB O) (qY O (yMB O) ?_)
          obtain⟨ua,ud,h⟩:=bOs h
          refine qJ 12 (fun o=>(upd (upd (upd (upd (upd (upd o 1 (.slice Ac p1.length cc)) 2 (vI p2)) 7 (.pointer (some ⟨b1,0,none⟩))) 14 (.bool false)) 19 (.pointer (some ⟨ut,0,none⟩))) 109 (.bool ua))) (fun o=>?_) (fun key=>?_)
          ·refine qY O (yMB O) ?_
           obtain⟨uw,uD,h⟩:=bOs h
           refine qJ 12 (fun o=>(upd (upd o 14 (.bool false)) 122 (.bool uw))) (fun o=>?_) (fun key=>?_)
           ·refine qY O (yAB O) (dq (oN (aa (aq ?_))))
            obtain rfl:=sI h
            exact ao (.inl O) O (rVt (v:=.bool uw) O) (fun W2 f=>⟨O,f.none⟩)
           ·clear h;rcases iOs uD with⟨u,h⟩|⟨u,h⟩
            ·refine qY (sT O O O O u) (yN 0 [.slice Aa p0.fNo.length ca,.slice Ab p0.fC.length cb] aR O O O) (qY (sT O O O O u) (yMS O) (qY (sT O O O O u) (yMI O) (qY (sT O O O O u) (yN 7 [.slice f0 S.fCase.length f1,.slice f2 S.fC.length f3] kM O O O) ?_)))
             obtain⟨uz,uE,h⟩:=bOs h
             refine qY (sT O O O O u) (yC [.agg #[.slice Aa p0.fNo.length ca,.slice Ab p0.fC.length cb],.slice Ac p1.length cc,vI p2,.agg #[.slice f0 S.fCase.length f1,.slice f2 S.fC.length f3]] go_46 O (fun W2 f=>gg p0 p1 p2 S uz uE W2 Aa p0.fNo.length ca O ((RdL.arg H) W2 f) Ab p0.fC.length cb E O ((RdL.arg I) W2 f) (NestL.at (NestL.arg K) W2 f) Ac p1.length cc O ((RdL.arg M) W2 f) f0 S.fCase.length f1 O ((Pv.rdl r0 (fun W2 f=>⟨f.below,trivial,f.mem (i:=5) O⟩)) W2 f) f2 S.fC.length f3 O ((Pv.rdl r1 (fun W2 f=>⟨f.below,trivial,f.mem (i:=6) O⟩)) W2 f)) O) (qY (sT O O O O u) (yN 0 [.slice Aa p0.fNo.length ca,.slice Ab p0.fC.length cb] aR O O O) (qY (sT O O O O u) (yMS O) (qY (sT O O O O u) (yMI O) (qY (sT O O O O u) (yN 7 [.slice f0 S.fCase.length f1,.slice f2 S.fC.length f3] kM O O O) ?_))))
             obtain⟨ui,uF,h⟩:=bOs h
             refine qY (sT O O O O u) (yC [.agg #[.slice Aa p0.fNo.length ca,.slice Ab p0.fC.length cb],.slice Ac p1.length cc,vI p2,.agg #[.slice f0 S.fCase.length f1,.slice f2 S.fC.length f3]] go_44 O (fun W2 f=>dM p0 p1 p2 S ui uF W2 Aa p0.fNo.length ca O ((RdL.arg H) W2 f) Ab p0.fC.length cb E O ((RdL.arg I) W2 f) (NestL.at (NestL.arg K) W2 f) Ac p1.length cc O ((RdL.arg M) W2 f) f0 S.fCase.length f1 O ((Pv.rdl r0 (fun W2 f=>⟨f.below,trivial,f.mem (i:=5) O⟩)) W2 f) f2 S.fC.length f3 O ((Pv.rdl r1 (fun W2 f=>⟨f.below,trivial,f.mem (i:=6) O⟩)) W2 f)) O) (qY (sT O O O O u) (ge O O) (qY O (ar (vB u) O) ?_))
             obtain rfl:=sI h
             exact key _ _ (kp (kp O))
            ·refine am (sF O O O O u) (am (sF O O O O u) (am (sF O O O O u) (am (sF O O O O u) (am (sF O O O O u) (am (sF O O O O u) (am (sF O O O O u) (am (sF O O O O u) (am (sF O O O O u) (am (sF O O O O u) (am (sF O O O O u) (qY O (ap (vB u) O) ?_)))))))))))
             obtain rfl:=sI h
             exact key _ _ (kp (kp O))
          ·clear h;rcases iOs ud with⟨d,h⟩|⟨d,h⟩
           ·refine qY (sT O O O O d) (yN 0 [.slice Aa p0.fNo.length ca,.slice Ab p0.fC.length cb] aR O O O) (qY (sT O O O O d) (yMS O) (qY (sT O O O O d) (yMI O) (qY (sT O O O O d) (yN 1 [.slice N p3.fCase.length Q,.slice U p3.fC.length X] kM O O O) ?_)))
            obtain⟨uj,uG,h⟩:=bOs h
            refine qY (sT O O O O d) (yC [.agg #[.slice Aa p0.fNo.length ca,.slice Ab p0.fC.length cb],.slice Ac p1.length cc,vI p2,.agg #[.slice N p3.fCase.length Q,.slice U p3.fC.length X]] go_46 O (fun W2 f=>gg p0 p1 p2 p3 uj uG W2 Aa p0.fNo.length ca O ((RdL.arg H) W2 f) Ab p0.fC.length cb E O ((RdL.arg I) W2 f) (NestL.at (NestL.arg K) W2 f) Ac p1.length cc O ((RdL.arg M) W2 f) N p3.fCase.length Q O ((RdL.arg y) W2 f) U p3.fC.length X O ((RdL.arg b) W2 f)) O) (qY (sT O O O O d) (yN 0 [.slice Aa p0.fNo.length ca,.slice Ab p0.fC.length cb] aR O O O) (qY (sT O O O O d) (yMS O) (qY (sT O O O O d) (yMI O) (qY (sT O O O O d) (yN 1 [.slice N p3.fCase.length Q,.slice U p3.fC.length X] kM O O O) ?_))))
            obtain⟨uk,uH,h⟩:=bOs h
            refine qY (sT O O O O d) (yC [.agg #[.slice Aa p0.fNo.length ca,.slice Ab p0.fC.length cb],.slice Ac p1.length cc,vI p2,.agg #[.slice N p3.fCase.length Q,.slice U p3.fC.length X]] go_44 O (fun W2 f=>dM p0 p1 p2 p3 uk uH W2 Aa p0.fNo.length ca O ((RdL.arg H) W2 f) Ab p0.fC.length cb E O ((RdL.arg I) W2 f) (NestL.at (NestL.arg K) W2 f) Ac p1.length cc O ((RdL.arg M) W2 f) N p3.fCase.length Q O ((RdL.arg y) W2 f) U p3.fC.length X O ((RdL.arg b) W2 f)) O) (qY (sT O O O O d) (ge O O) (qY O (ar (vB d) O) ?_))
            obtain rfl:=sI h
            exact key _ _ (kp4 (kp (kp O)))
           ·refine am (sF O O O O d) (am (sF O O O O d) (am (sF O O O O d) (am (sF O O O O d) (am (sF O O O O d) (am (sF O O O O d) (am (sF O O O O d) (am (sF O O O O d) (am (sF O O O O d) (am (sF O O O O d) (am (sF O O O O d) (qY O (ap (vB d) O) ?_)))))))))))
            obtain rfl:=sI h
            exact key _ _ (kp4 (kp (kp O)))
        ·rcases aD oj with Z|Z
         ·refine oSk (sF O O O O Z) (oSk (sF O O O O Z) (oSk (sF O O O O Z) (oSk O (oSk O (oSk O (oSk O (oSk O (oSk O (oSk O (oSk O (oSk (sF O O O O Z) (oY O (ar (vB Z) O) ?_))))))))))))
          exact key _ _ (keep (keep (keep (keep (keep (keep (keep (keep (keep (keep (keep O O) O) O) O) O) O) O) O) O) O) (vB (pH Z)))
         ·refine oY (sT O O O O Z) (yMI O) (oY (sT O O O O Z) (ft O O) (oY (sT O O O O Z) (yMB O) ?_))
          refine oJ 9 (fun o=>(upd (upd (upd (upd (upd (upd (upd (upd (upd (upd (upd (upd o 1 (.slice Ac p1.length cc)) 2 (vI p2)) 4 (.int .u8 p4)) 5 (.int .u8 p5)) 6 (vI p6)) 7 (.pointer (some ⟨b1,0,none⟩))) 10 (.pointer (some ⟨b2,0,none⟩))) 14 (.bool false)) 15 (.bool y3)) 16 (.pointer (some ⟨c,0,none⟩))) 77 (.bool oj)) 89 (.bool ((g.2 !=0)&&(decide (0<w64 ((g.1.fCase.length:Int)+(g.1.fC.length:Int)))))))) (fun o=>?_) (fun key=>?_)
          ·refine oY O (ap (vB Z) O) ?_
           exact key _ _ (keep (keep (keep (keep (keep (keep (keep (keep (keep (keep (keep O O) O) O) O) O) O) O) O) O) O) (vB (pL Z)))
          ·rcases aD (g.2 !=0)with F|F
           ·refine oY (sT O O O O F) (yFA lG O) (oY (sT O O O O F) (yL 4 fk O O O) (oY (sT O O O O F) (a8 (us:=[]) bj O) (oY (sT O O O O F) (yFA gc O) (oY (sT O O O O F) (yL 4 fk O O O) (oY (sT O O O O F) (a8 (us:=[]) bj O) (oY (sT O O O O F) (bF O O) (oY (sT O O O O F) (i8 O O) (oY (sT O O O O Z) (ar (vB F) O) ?_))))))))
            exact key _ _ (keep (keep (keep (keep (keep (keep (keep (keep (keep (keep (keep (keep O O) O) O) O) O) O) O) O) O) O) O) (vB (mq F)))
           ·refine oSk (sF O O O O F) (oSk (sF O O O O F) (oSk (sF O O O O F) (oSk (sF O O O O F) (oSk (sF O O O O F) (oSk (sF O O O O F) (oSk (sF O O O O F) (oSk (sF O O O O F) (oY (sT O O O O Z) (ap (vB F) O) ?_))))))))
            exact key _ _ (keep (keep (keep (keep (keep (keep (keep (keep (keep (keep (keep (keep O O) O) O) O) O) O) O) O) O) O) O) (vB (mb F)))
       ·clear h;rcases iOs ur with⟨q,h⟩|⟨q,h⟩
        ·refine oSk (sF O O O O q) (oSk (sF O O O O q) (oSk (sF O O O O q) (oSk O (oSk O (oSk O (oSk O (oSk O (oSk O (oSk (sF O O O O q) (oY O (ar (vB q) O) ?_))))))))))
         obtain rfl:=sI h
         exact key _ _ (kp4 (kp4 (kp4 O)))
        ·refine oY (sT O O O O q) (yMI O) (oY (sT O O O O q) (ge O O) (oY (sT O O O O q) (yMB O) ?_))
         obtain⟨ux,uI,h⟩:=bOs h
         refine oJ 7 (fun o=>(upd (upd (upd (upd (upd (upd (upd (upd (upd (upd (upd (upd (upd o 1 (.slice Ac p1.length cc)) 2 (vI p2)) 4 (.int .u8 p4)) 5 (.int .u8 p5)) 6 (vI p6)) 7 (.pointer (some ⟨b1,0,none⟩))) 10 (.pointer (some ⟨b2,0,none⟩))) 14 (.bool false)) 15 (.bool y3)) 16 (.pointer (some ⟨c,0,none⟩))) 17 (vI g.2)) 65 (.bool (g.2 !=5))) 75 (.bool ux))) (fun o=>?_) (fun key=>?_)
         ·refine oY O (ap (vB q) O) ?_
          obtain rfl:=sI h
          exact key _ _ (kp4 (kp4 (kp4 O)))
         ·clear h;rcases iOs uI with⟨Y,h⟩|⟨Y,h⟩
          ·refine oY (sT O O O O Y) (yN 0 [.slice Aa p0.fNo.length ca,.slice Ab p0.fC.length cb] aR O O O) (oY (sT O O O O Y) (yMS O) (oY (sT O O O O Y) (yMI O) (oY (sT O O O O Y) (yN 4 [.slice n g.1.fCase.length l,.slice t g.1.fC.length a] kM O O O) ?_)))
           obtain⟨uy,uK,h⟩:=bOs h
           refine oY (sT O O O O Y) (yC [.agg #[.slice Aa p0.fNo.length ca,.slice Ab p0.fC.length cb],.slice Ac p1.length cc,vI p2,.agg #[.slice n g.1.fCase.length l,.slice t g.1.fC.length a]] go_44 O (fun W2 f=>dM p0 p1 p2 g.1 uy uK W2 Aa p0.fNo.length ca O ((RdL.arg H) W2 f) Ab p0.fC.length cb E O ((RdL.arg I) W2 f) (NestL.at (NestL.arg K) W2 f) Ac p1.length cc O ((RdL.arg M) W2 f) n g.1.fCase.length l O ((RdL.row 2 O) W2 f) t g.1.fC.length a O ((RdL.row 3 O) W2 f)) O) (oY (sT O O O O Y) (ft O O) (oY (sT O O O O q) (ar (vB Y) O) ?_))
           obtain rfl:=sI h
           exact key _ _ (kp4 (kp4 (kp4 (kp O))))
          ·refine oSk (sF O O O O Y) (oSk (sF O O O O Y) (oSk (sF O O O O Y) (oSk (sF O O O O Y) (oSk (sF O O O O Y) (oSk (sF O O O O Y) (oY (sT O O O O q) (ap (vB Y) O) ?_))))))
           obtain rfl:=sI h
           exact key _ _ (kp4 (kp4 (kp4 (kp O))))
      ·refine cF (vB o1) (cK (aa (cS (cS (cR (oY O (yMI O) (oY O (yMI O) (oY O (ft O O) (oY O (yMB O) ?_)))))))))
       obtain⟨ok,uM,h⟩:=bOs h
       refine oJ 11 (fun o=>(upd (upd (upd (upd (upd (upd (upd (upd (upd (upd (upd (upd o 1 (.slice Ac p1.length cc)) 2 (vI p2)) 4 (.int .u8 p4)) 5 (.int .u8 p5)) 6 (vI p6)) 7 (.pointer (some ⟨b1,0,none⟩))) 10 (.pointer (some ⟨b2,0,none⟩))) 14 (.bool false)) 15 (.bool y3)) 16 (.pointer (some ⟨c,0,none⟩))) 17 (vI g.2)) 76 (.bool ok))) (fun o=>?_) (fun key=>?_)
       ·refine oY O (yMB O) ?_
        refine oJ 13 (fun o=>(upd (upd (upd (upd (upd (upd (upd (upd (upd (upd (upd o 1 (.slice Ac p1.length cc)) 2 (vI p2)) 4 (.int .u8 p4)) 5 (.int .u8 p5)) 6 (vI p6)) 7 (.pointer (some ⟨b1,0,none⟩))) 10 (.pointer (some ⟨b2,0,none⟩))) 14 (.bool false)) 15 (.bool y3)) 16 (.pointer (some ⟨c,0,none⟩))) 90 (.bool (ok||((g.2 !=0)&&(decide (0<w64 ((g.1.fCase.length:Int)+(g.1.fC.length:Int))))))))) (fun o=>?_) (fun key=>?_)
        ·refine oN (aa ?_)
         rcases iOs h with⟨ot,h⟩|⟨ot,h⟩
         ·refine cT (vB ot) (cS (cR (oY O (yAB O) (oN (aa (aq (ab ?_)))))))
          obtain rfl:=sI h
          exact ao (.inl O) O (rVt (v:=.bool false) O) (fun W2 f=>⟨O,f.none⟩)
         ·refine cF (vB ot) (cK (aa (cS (cR (oY O (yN 4 [.slice n g.1.fCase.length l,.slice t g.1.fC.length a] kM O O O) (oY O (yMI O) (oY O (yMI O) (oY O (yMI O) ?_))))))))
          obtain⟨R,uN,h⟩:=bOs h
          refine oC [.agg #[.slice n g.1.fCase.length l,.slice t g.1.fC.length a],.int .u8 p4,.int .u8 p5,vI p6] _ _ _ O go_45 O (fun W2 f=>mf g.1 p4 p5 p6 R uN W2 n g.1.fCase.length l O ((RdL.row 2 O) W2 f) t g.1.fC.length a O ((RdL.row 3 O) W2 f) W (fun _=>True) (fun W3 hb=>⟨pG f.below hb,trivial⟩) ) ?_
          rintro⟨⟨⟨f4,ub,f9⟩,F87⟩,⟨⟨fr,uc,fd⟩,F93⟩⟩ ⟨oa,r2,oi,r3⟩
          replace oa:ub=R.fCase.length:=oa;subst oa
          replace oi:uc=R.fC.length:=oi;subst oi
          try dsimp only[lna,lca,lsz,lss]
          refine aT rE O (fun d0=>?_)
          try dsimp only[lna,lca,lsz,lss]
          refine d9 O (yS 7 [.slice f4 R.fCase.length f9,.slice fr R.fC.length fd] ro O (nB O) O O O) (oN (aa (cS ?_)))
          refine bl 28 di (by kernel_rfl) (by kernel_rfl) ?_
          refine qY O (yMB O) (qY O (yMB O) ?_)
          obtain⟨d1,uO,h⟩:=bOs h
          refine qJ 12 (fun o=>(upd (upd (upd (upd (upd (upd o 1 (.slice Ac p1.length cc)) 2 (vI p2)) 7 (.pointer (some ⟨b1,0,none⟩))) 14 (.bool false)) 19 (.pointer (some ⟨d0,0,none⟩))) 109 (.bool d1))) (fun o=>?_) (fun key=>?_)
          ·refine qY O (yMB O) ?_
           obtain⟨r4,u1,h⟩:=bOs h
           refine qJ 12 (fun o=>(upd (upd o 14 (.bool false)) 122 (.bool r4))) (fun o=>?_) (fun key=>?_)
           ·refine qY O (yAB O) (dq (oN (aa (aq ?_))))
            obtain rfl:=sI h
            exact ao (.inl O) O (rVt (v:=.bool r4) O) (fun W2 f=>⟨O,f.none⟩)
           ·clear h;rcases iOs u1 with⟨w,h⟩|⟨w,h⟩
            ·refine qY (sT O O O O w) (yN 0 [.slice Aa p0.fNo.length ca,.slice Ab p0.fC.length cb] aR O O O) (qY (sT O O O O w) (yMS O) (qY (sT O O O O w) (yMI O) (qY (sT O O O O w) (yN 7 [.slice f4 R.fCase.length f9,.slice fr R.fC.length fd] kM O O O) ?_)))
             obtain⟨uQ,u2,h⟩:=bOs h
             refine qY (sT O O O O w) (yC [.agg #[.slice Aa p0.fNo.length ca,.slice Ab p0.fC.length cb],.slice Ac p1.length cc,vI p2,.agg #[.slice f4 R.fCase.length f9,.slice fr R.fC.length fd]] go_46 O (fun W2 f=>gg p0 p1 p2 R uQ u2 W2 Aa p0.fNo.length ca O ((RdL.arg H) W2 f) Ab p0.fC.length cb E O ((RdL.arg I) W2 f) (NestL.at (NestL.arg K) W2 f) Ac p1.length cc O ((RdL.arg M) W2 f) f4 R.fCase.length f9 O ((Pv.rdl r2 (fun W2 f=>⟨f.below,trivial,f.mem (i:=5) O⟩)) W2 f) fr R.fC.length fd O ((Pv.rdl r3 (fun W2 f=>⟨f.below,trivial,f.mem (i:=6) O⟩)) W2 f)) O) (qY (sT O O O O w) (yN 0 [.slice Aa p0.fNo.length ca,.slice Ab p0.fC.length cb] aR O O O) (qY (sT O O O O w) (yMS O) (qY (sT O O O O w) (yMI O) (qY (sT O O O O w) (yN 7 [.slice f4 R.fCase.length f9,.slice fr R.fC.length fd] kM O O O) ?_))))
             obtain⟨uU,u3,h⟩:=bOs h
             refine qY (sT O O O O w) (yC [.agg #[.slice Aa p0.fNo.length ca,.slice Ab p0.fC.length cb],.slice Ac p1.length cc,vI p2,.agg #[.slice f4 R.fCase.length f9,.slice fr R.fC.length fd]] go_44 O (fun W2 f=>dM p0 p1 p2 R uU u3 W2 Aa p0.fNo.length ca O ((RdL.arg H) W2 f) Ab p0.fC.length cb E O ((RdL.arg I) W2 f) (NestL.at (NestL.arg K) W2 f) Ac p1.length cc O ((RdL.arg M) W2 f) f4 R.fCase.length f9 O ((Pv.rdl r2 (fun W2 f=>⟨f.below,trivial,f.mem (i:=5) O⟩)) W2 f) fr R.fC.length fd O ((Pv.rdl r3 (fun W2 f=>⟨f.below,trivial,f.mem (i:=6) O⟩)) W2 f)) O) (qY (sT O O O O w) (ge O O) (qY O (ar (vB w) O) ?_))
             obtain rfl:=sI h
             exact key _ _ (kp (kp O))
            ·refine am (sF O O O O w) (am (sF O O O O w) (am (sF O O O O w) (am (sF O O O O w) (am (sF O O O O w) (am (sF O O O O w) (am (sF O O O O w) (am (sF O O O O w) (am (sF O O O O w) (am (sF O O O O w) (am (sF O O O O w) (qY O (ap (vB w) O) ?_)))))))))))
             obtain rfl:=sI h
             exact key _ _ (kp (kp O))
          ·clear h;rcases iOs uO with⟨D,h⟩|⟨D,h⟩
           ·refine qY (sT O O O O D) (yN 0 [.slice Aa p0.fNo.length ca,.slice Ab p0.fC.length cb] aR O O O) (qY (sT O O O O D) (yMS O) (qY (sT O O O O D) (yMI O) (qY (sT O O O O D) (yN 1 [.slice N p3.fCase.length Q,.slice U p3.fC.length X] kM O O O) ?_)))
            obtain⟨uX,u4,h⟩:=bOs h
            refine qY (sT O O O O D) (yC [.agg #[.slice Aa p0.fNo.length ca,.slice Ab p0.fC.length cb],.slice Ac p1.length cc,vI p2,.agg #[.slice N p3.fCase.length Q,.slice U p3.fC.length X]] go_46 O (fun W2 f=>gg p0 p1 p2 p3 uX u4 W2 Aa p0.fNo.length ca O ((RdL.arg H) W2 f) Ab p0.fC.length cb E O ((RdL.arg I) W2 f) (NestL.at (NestL.arg K) W2 f) Ac p1.length cc O ((RdL.arg M) W2 f) N p3.fCase.length Q O ((RdL.arg y) W2 f) U p3.fC.length X O ((RdL.arg b) W2 f)) O) (qY (sT O O O O D) (yN 0 [.slice Aa p0.fNo.length ca,.slice Ab p0.fC.length cb] aR O O O) (qY (sT O O O O D) (yMS O) (qY (sT O O O O D) (yMI O) (qY (sT O O O O D) (yN 1 [.slice N p3.fCase.length Q,.slice U p3.fC.length X] kM O O O) ?_))))
            obtain⟨uY,u5,h⟩:=bOs h
            refine qY (sT O O O O D) (yC [.agg #[.slice Aa p0.fNo.length ca,.slice Ab p0.fC.length cb],.slice Ac p1.length cc,vI p2,.agg #[.slice N p3.fCase.length Q,.slice U p3.fC.length X]] go_44 O (fun W2 f=>dM p0 p1 p2 p3 uY u5 W2 Aa p0.fNo.length ca O ((RdL.arg H) W2 f) Ab p0.fC.length cb E O ((RdL.arg I) W2 f) (NestL.at (NestL.arg K) W2 f) Ac p1.length cc O ((RdL.arg M) W2 f) N p3.fCase.length Q O ((RdL.arg y) W2 f) U p3.fC.length X O ((RdL.arg b) W2 f)) O) (qY (sT O O O O D) (ge O O) (qY O (ar (vB D) O) ?_))
            obtain rfl:=sI h
            exact key _ _ (kp4 (kp (kp O)))
           ·refine am (sF O O O O D) (am (sF O O O O D) (am (sF O O O O D) (am (sF O O O O D) (am (sF O O O O D) (am (sF O O O O D) (am (sF O O O O D) (am (sF O O O O D) (am (sF O O O O D) (am (sF O O O O D) (am (sF O O O O D) (qY O (ap (vB D) O) ?_)))))))))))
            obtain rfl:=sI h
            exact key _ _ (kp4 (kp (kp O)))
        ·rcases aD ok with V|V
         ·refine oSk (sF O O O O V) (oSk (sF O O O O V) (oSk (sF O O O O V) (oSk O (oSk O (oSk O (oSk O (oSk O (oSk O (oSk O (oSk O (oSk (sF O O O O V) (oY O (ar (vB V) O) ?_))))))))))))
          exact key _ _ (keep (keep (keep (keep (keep (keep (keep (keep (keep (keep (keep O O) O) O) O) O) O) O) O) O) O) (vB (pH V)))
         ·refine oY (sT O O O O V) (yMI O) (oY (sT O O O O V) (ft O O) (oY (sT O O O O V) (yMB O) ?_))
          refine oJ 9 (fun o=>(upd (upd (upd (upd (upd (upd (upd (upd (upd (upd (upd (upd o 1 (.slice Ac p1.length cc)) 2 (vI p2)) 4 (.int .u8 p4)) 5 (.int .u8 p5)) 6 (vI p6)) 7 (.pointer (some ⟨b1,0,none⟩))) 10 (.pointer (some ⟨b2,0,none⟩))) 14 (.bool false)) 15 (.bool y3)) 16 (.pointer (some ⟨c,0,none⟩))) 77 (.bool ok)) 89 (.bool ((g.2 !=0)&&(decide (0<w64 ((g.1.fCase.length:Int)+(g.1.fC.length:Int)))))))) (fun o=>?_) (fun key=>?_)
          ·refine oY O (ap (vB V) O) ?_
           exact key _ _ (keep (keep (keep (keep (keep (keep (keep (keep (keep (keep (keep O O) O) O) O) O) O) O) O) O) O) (vB (pL V)))
          ·rcases aD (g.2 !=0)with r|r
           ·refine oY (sT O O O O r) (yFA lG O) (oY (sT O O O O r) (yL 4 fk O O O) (oY (sT O O O O r) (a8 (us:=[]) bj O) (oY (sT O O O O r) (yFA gc O) (oY (sT O O O O r) (yL 4 fk O O O) (oY (sT O O O O r) (a8 (us:=[]) bj O) (oY (sT O O O O r) (bF O O) (oY (sT O O O O r) (i8 O O) (oY (sT O O O O V) (ar (vB r) O) ?_))))))))
            exact key _ _ (keep (keep (keep (keep (keep (keep (keep (keep (keep (keep (keep (keep O O) O) O) O) O) O) O) O) O) O) O) (vB (mq r)))
           ·refine oSk (sF O O O O r) (oSk (sF O O O O r) (oSk (sF O O O O r) (oSk (sF O O O O r) (oSk (sF O O O O r) (oSk (sF O O O O r) (oSk (sF O O O O r) (oSk (sF O O O O r) (oY (sT O O O O V) (ap (vB r) O) ?_))))))))
            exact key _ _ (keep (keep (keep (keep (keep (keep (keep (keep (keep (keep (keep (keep O O) O) O) O) O) O) O) O) O) O) O) (vB (mb r)))
       ·clear h;rcases iOs uM with⟨p,h⟩|⟨p,h⟩
        ·refine oSk (sF O O O O p) (oSk (sF O O O O p) (oSk (sF O O O O p) (oSk O (oSk O (oSk O (oSk O (oSk O (oSk O (oSk (sF O O O O p) (oY O (ar (vB p) O) ?_))))))))))
         obtain rfl:=sI h
         exact key _ _ (kp4 (kp4 (kp4 O)))
        ·refine oY (sT O O O O p) (yMI O) (oY (sT O O O O p) (ge O O) (oY (sT O O O O p) (yMB O) ?_))
         obtain⟨uZ,u6,h⟩:=bOs h
         refine oJ 7 (fun o=>(upd (upd (upd (upd (upd (upd (upd (upd (upd (upd (upd (upd (upd o 1 (.slice Ac p1.length cc)) 2 (vI p2)) 4 (.int .u8 p4)) 5 (.int .u8 p5)) 6 (vI p6)) 7 (.pointer (some ⟨b1,0,none⟩))) 10 (.pointer (some ⟨b2,0,none⟩))) 14 (.bool false)) 15 (.bool y3)) 16 (.pointer (some ⟨c,0,none⟩))) 17 (vI g.2)) 65 (.bool (g.2 !=u0))) 75 (.bool uZ))) (fun o=>?_) (fun key=>?_)
         ·refine oY O (ap (vB p) O) ?_
          obtain rfl:=sI h
          exact key _ _ (kp4 (kp4 (kp4 O)))
         ·clear h;rcases iOs u6 with⟨G,h⟩|⟨G,h⟩
          ·refine oY (sT O O O O G) (yN 0 [.slice Aa p0.fNo.length ca,.slice Ab p0.fC.length cb] aR O O O) (oY (sT O O O O G) (yMS O) (oY (sT O O O O G) (yMI O) (oY (sT O O O O G) (yN 4 [.slice n g.1.fCase.length l,.slice t g.1.fC.length a] kM O O O) ?_)))
           obtain⟨uV,u7,h⟩:=bOs h
           refine oY (sT O O O O G) (yC [.agg #[.slice Aa p0.fNo.length ca,.slice Ab p0.fC.length cb],.slice Ac p1.length cc,vI p2,.agg #[.slice n g.1.fCase.length l,.slice t g.1.fC.length a]] go_44 O (fun W2 f=>dM p0 p1 p2 g.1 uV u7 W2 Aa p0.fNo.length ca O ((RdL.arg H) W2 f) Ab p0.fC.length cb E O ((RdL.arg I) W2 f) (NestL.at (NestL.arg K) W2 f) Ac p1.length cc O ((RdL.arg M) W2 f) n g.1.fCase.length l O ((RdL.row 2 O) W2 f) t g.1.fC.length a O ((RdL.row 3 O) W2 f)) O) (oY (sT O O O O G) (ft O O) (oY (sT O O O O p) (ar (vB G) O) ?_))
           obtain rfl:=sI h
           exact key _ _ (kp4 (kp4 (kp4 (kp O))))
          ·refine oSk (sF O O O O G) (oSk (sF O O O O G) (oSk (sF O O O O G) (oSk (sF O O O O G) (oSk (sF O O O O G) (oSk (sF O O O O G) (oY (sT O O O O p) (ap (vB G) O) ?_))))))
           obtain rfl:=sI h
           exact key _ _ (kp4 (kp4 (kp4 (kp O))))
     ·clear h;rcases iOs uo with⟨T,h⟩|⟨T,h⟩
      ·refine oY (sT O O O O T) (yN 0 [.slice Aa p0.fNo.length ca,.slice Ab p0.fC.length cb] aR O O O) (oY (sT O O O O T) (yMS O) (oY (sT O O O O T) (yMI O) ?_))
       obtain⟨uT,u9,h⟩:=bOs h
       refine oY (sT O O O O T) (yC [.agg #[.slice Aa p0.fNo.length ca,.slice Ab p0.fC.length cb],.slice Ac p1.length cc,vI p2] go_43 O (fun W2 f=>pj p0 p1 p2 uT u9 W2 Aa p0.fNo.length ca O ((RdL.arg H) W2 f) Ab p0.fC.length cb E O ((RdL.arg I) W2 f) (NestL.at (NestL.arg K) W2 f) Ac p1.length cc O ((RdL.arg M) W2 f)) O) (oY (sT O O O O T) (fa O) (oY O (ar (vB T) O) ?_))
       obtain rfl:=sI h
       exact key _ _ (kp4 (kp4 (kp4 (kp O))))
      ·refine oSk (sF O O O O T) (oSk (sF O O O O T) (oSk (sF O O O O T) (oSk (sF O O O O T) (oSk (sF O O O O T) (oY O (ap (vB T) O) ?_)))))
       obtain rfl:=sI h
       exact key _ _ (kp4 (kp4 (kp4 (kp O))))
   ·rcases aD (((!y5)||(decide (30<(p1.length:Int))))||(decide (100<(p3.fCase.length:Int))))with j|j
    ·refine oSk (sF O O O O j) (oSk (sF O O O O j) (oSk (sF O O O O j) (oSk (sF O O O O j) (oY O (ar (vB j) O) ?_))))
     exact key _ _ (keep (keep (keep (keep (keep (keep (keep (keep (keep (keep O O) O) O) O) O) O) O) O) O) (vB (pH j)))
    ·refine oY (sT O O O O j) (yFA gc O) (oY (sT O O O O j) (yL 1 fk O O O) (oY (sT O O O O j) (a8 (us:=[]) bj O) (oY (sT O O O O j) (i8 O O) (oY O (ap (vB j) O) ?_))))
     exact key _ _ (keep (keep (keep (keep (keep (keep (keep (keep (keep (keep O O) O) O) O) O) O) O) O) O) (vB (pL j)))
  ·rcases aD ((!y5)||(decide (30<(p1.length:Int))))with k|k
   ·refine oSk (sF O O O O k) (oSk (sF O O O O k) (oSk (sF O O O O k) (oSk (sF O O O O k) (oY O (ar (vB k) O) ?_))))
    exact key _ _ (keep (keep (keep (keep (keep (keep (keep (keep (keep (keep O O) O) O) O) O) O) O) O) O) (vB (pH k)))
   ·refine oY (sT O O O O k) (yFA lG O) (oY (sT O O O O k) (yL 1 fk O O O) (oY (sT O O O O k) (a8 (us:=[]) bj O) (oY (sT O O O O k) (i8 O O) (oY O (ap (vB k) O) ?_))))
    exact key _ _ (keep (keep (keep (keep (keep (keep (keep (keep (keep (keep O O) O) O) O) O) O) O) O) O) (vB (pL k)))
 ·rcases aD (!y5)with x|x
  ·refine oSk (sF O O O O x) (oSk (sF O O O O x) (oSk (sF O O O O x) (oY O (ar (vB x) O) ?_)))
   exact key _ _ (keep (keep (keep (keep (keep (keep (keep (keep (keep (keep O O) O) O) O) O) O) O) O) O) (vB (pH x)))
  ·refine oY (sT O O O O x) (yMS O) (oY (sT O O O O x) (a8 (us:=[]) bj O) (oY (sT O O O O x) (i8 O O) (oY O (ap (vB x) O) ?_)))
   exact key _ _ (keep (keep (keep (keep (keep (keep (keep (keep (keep (keep O O) O) O) O) O) O) O) O) O) (vB (pL x)))
end Go.Proofs.YtbblpokfbmekfaaGreat
