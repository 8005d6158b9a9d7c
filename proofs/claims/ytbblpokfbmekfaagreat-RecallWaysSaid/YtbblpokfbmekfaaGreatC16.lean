import Derived.Test.YtbblpokfbmekfaaGreatF
import Derived.Test.YtbblpokfbmekfaaGreatG8
import Derived.Test.YtbblpokfbmekfaaGreatGv
import Derived.Test.YtbblpokfbmekfaaGreatC5
import Derived.Test.YtbblpokfbmekfaaGreatC1
import Derived.Test.YtbblpokfbmekfaaGreatC3
set_option maxHeartbeats 4000000
set_option maxRecDepth 100000
set_option linter.unusedVariables false
namespace Go.Proofs.YtbblpokfbmekfaaGreat
open Go.RowKit (Below)
attribute [local irreducible] OX QX CX EX OpY Calls CallsIn
theorem pg (p0:TL) (p1:Int) (res:(List Int)) (h:gS p0 p1=some res) (W:World) (Aa:Option Addr) (r ca:Nat) (I:r=p0.fNo.length) (T:Rd W Aa r ca (encL TNode_cells p0.fNo)) (Ab:Option Addr) (u cb:Nat) (f:List (Hd × TC)) (K:u=p0.fC.length) (d:Rd W Ab u cb (encL TClaim_cells2 f)) (g:NestW W (fun z:TC=>z.fO) THop_cells f p0.fC) :
  Calls Tryz.prog 85 [.agg #[.slice Aa r ca,.slice Ab u cb],vI p1].toArray W fun e W2=>∃x:Option Addr × Nat × Nat,x.2.1=res.length∧e=.returned (.slice x.1 x.2.1 x.2.2)∧Ext W W2 [be x.1 x.2.2 3 1 x.2.1 (encL cI res)]:=by
 subst I
 subst K
 unfold gS at h
 refine ah (m:=32) Tryz.func85 O O (nB O) (cS (cR ?_))
 refine aO [.slice Aa p0.fNo.length ca,.slice Ab p0.fC.length cb] O O O (fun k=>?_)
 refine oY O (yAS O) (oN (aa (cS (cR (oY O (yAS O) (oN (aa (cS (cS (cR (oY O (yAI O) (oN (aa (ae ?_))))))))))))))
 obtain⟨y,U,h⟩:=bOs h
 refine iK 3 1 ?_
 refine bo (fun(s:(Int × Int × (List Int))) L tm=>∃(S:Nat→Value) (G:Option Addr) (H:Nat) (w:Nat),w=s.2.2.length∧L=[aj k 25 [.slice Aa p0.fNo.length ca,.slice Ab p0.fC.length cb],be G H 3 1 w (encL cI s.2.2)]∧tm=(upd (upd (upd (upd (upd S 1 (vI s.1)) 2 (.pointer (some ⟨k,0,none⟩))) 4 (.slice none 0 0)) 5 (.slice G w H)) 6 (vI s.2.1))) 0 U ⟨_,none,0,0,O,O,(kp4 (kp O))⟩ ?_ ?_
 ·rintro D L tm st ⟨Z,M,N,R,rfl,rfl,rfl⟩ h
  unfold dK at h
  refine cS (cS (cR (oY O (yMI O) (oY O (yFA bp O) (oY O (yL 0 eZ O O O) (oY O (a8 (us:=[]) kj O) (oY O (bN O O) (oN (aa ?_)))))))))
  rcases iOs h with⟨Q,h⟩|⟨Q,h⟩
  ·refine cT (vB Q) (cK (aa (cS (ae (cS (cR (oY O (yFA bp O) (oY O (yL 0 eZ O O O) (oY O (yMI O) ?_)))))))))
   obtain⟨o,h⟩:=gOs h
   refine oY O (yI kx (by decide) o.1 o.2 (RdL.arg d) (eL ad (NestP.hn g.p O)) O O) ?_
   refine oY O (yFR (A:=Ab) (j:=(Int.toNat D.2.1*2)) db O) (oY O (yR (A:=Ab) (j:=((Int.toNat D.2.1*2)+1)) (v:=.slice ((rdL f D.2.1).1.1) ((rdL p0.fC D.2.1).fO.length) ((rdL f D.2.1).1.2.2)) kd (RdL.arg d) O (eG ad o.1 (av o.2 (NestP.hn g.p O)) (congrArg (fun n:Nat=>some (Value.slice (rdL f D.2.1).1.1 n (rdL f D.2.1).1.2.2)) (NestP.len g.p o.1 (av o.2 O))))) (oY O (a8 (us:=[]) lJ O) (oY O (yAI O) (oN (aa (cS (cR (oY O (yMS O) (oY O (yMI O) (oY O (yMI O) ?_))))))))))
   obtain⟨q,h⟩:=gOs h
   refine oY O (y_rem q O O) ?_
   refine az 1 (encL cI [Int.tmod D.1 (((rdL p0.fC D.2.1).fO.length:Nat):Int)]) _ go bj j7 kY (by decide) (by decide) (by kernel_rfl) (eL ax O) O (fun b=>?_)
   obtain⟨X,h⟩:=gOs h
   refine cr 1 bj j7 kY O O O (RdL.row 2 O) (eL ax O) (eA mj _) (eF X (by decide)) O (fun l t=>?_)
   refine oY O (yAS O) (oN (aa (cR (oY O (yMI O) (oY O (yMI O) ?_)))))
   obtain⟨Y,h⟩:=gOs h
   refine oY O (y_quo Y O O) (oY O (yAI O) (oN (au (aa (cR (oY O (yMI O) (oY O (bF O O) (oY O (yAI O) (oN (aX 2 ?_))))))))))
   obtain rfl:=sI h
   exact eN ⟨_,l,t,(D.2.2.length+1),(lH O O),O,(kp4 (kp O))⟩
  ·refine cF (vB Q) (aJ (ak ?_))
   obtain rfl:=sI h
   exact aC ⟨O,_,M,N,D.2.2.length,O,O,(kp4 (kp O))⟩
 ·intro e L tm hJ
  obtain⟨rfl,V,E,F,a,rfl,rfl,rfl⟩:=hJ
  refine⟨(by intro hc;cases hc),?_⟩
  refine ai (aa (cS (cR (oY O (yMS O) (oY O (yAS O) (oN (aa (aq ?_))))))))
  obtain rfl:=sI h
  exact ao (.inl O) O (rVt (v:=.slice E y.2.2.length F) O) (fun W2 i=>⟨(E,y.2.2.length,F),O,O,(i.pick 1 O)⟩)
theorem p7 (p0:TL) (p1:(List Int)) (p2:(List Int)) (res:(List Bool)) (h:iQ p0 p1 p2=some res) (W:World) (Aa:Option Addr) (Z ca:Nat) (f1:Z=p0.fNo.length) (G:Rd W Aa Z ca (encL TNode_cells p0.fNo)) (Ab:Option Addr) (V cb:Nat) (r:List (Hd × TC)) (f2:V=p0.fC.length) (H:Rd W Ab V cb (encL TClaim_cells2 r)) (d:NestW W (fun z:TC=>z.fO) THop_cells r p0.fC) (Ac:Option Addr) (T cc:Nat) (f3:T=p1.length) (f4:Rd W Ac T cc (encL cI p1)) (D:Option Addr) (S F:Nat) (f9:S=p2.length) (R:Rd W D S F (encL cI p2)) :
  Calls Tryz.prog 89 [.agg #[.slice Aa Z ca,.slice Ab V cb],.slice Ac T cc,.slice D S F].toArray W fun e W2=>∃x:Option Addr × Nat × Nat,x.2.1=res.length∧e=.returned (.slice x.1 x.2.1 x.2.2)∧Ext W W2 [be x.1 x.2.2 4 1 x.2.1 (encL cB res)]:=by
 subst f1
 subst f2
 subst f3
 subst f9
 unfold iQ at h
 refine ah (m:=79) Tryz.func89 O O (nB O) (cS (cR ?_))
 refine aO [.slice Aa p0.fNo.length ca,.slice Ab p0.fC.length cb] O O O (fun b1=>?_)
 refine oY O (yAS O) (oN (aa (cS (cR (oY O (yFA cJ O) (oY O (yL 0 iM O O O) (oY O (a8 (us:=[]) lM O) ?_)))))))
 obtain⟨fN,h⟩:=gOs h
 refine qw (encL cB (List.replicate (Int.toNat (p0.fNo.length:Int)) false)) us_98 tE by_4 fN.1 fN.2 O (n4 _ _ _ O O) O (fun q=>?_)
 refine oY O (yAS O) (oN (aa (cS (cS (cR (oY O (yAI O) (oN (aa (ae ?_)))))))))
 obtain⟨u7,fn,h⟩:=bOs h
 refine bo (fun(s:(Int × (List Bool))) L tm=>∃(I:Nat→Value),Int.toNat (p0.fNo.length:Int)=s.2.length∧L=[aj b1 25 [.slice Aa p0.fNo.length ca,.slice Ab p0.fC.length cb],be (some ⟨q,0,none⟩) (Int.toNat (p0.fNo.length:Int)) 4 1 (Int.toNat (p0.fNo.length:Int)) (encL cB s.2)]∧tm=(upd (upd (upd (upd (upd (upd I 1 (.slice Ac p1.length cc)) 2 (.slice D p2.length F)) 3 (.pointer (some ⟨b1,0,none⟩))) 6 (.slice none 0 0)) 7 (.slice (some ⟨q,0,none⟩) (Int.toNat (p0.fNo.length:Int)) (Int.toNat (p0.fNo.length:Int)))) 8 (vI s.1))) 0 fn ⟨_,(List.length_replicate).symm,O,(kp4 (kp (kp O)))⟩ ?_ ?_
 ·rintro s6 L tm st ⟨ot,w,rfl,rfl⟩ h
  unfold eu at h
  refine cS (cS (cR (oY O (yMI O) (oY O (yFA cJ O) (oY O (yL 0 iM O O O) (oY O (a8 (us:=[]) lM O) (oY O (bN O O) (oN (aa ?_)))))))))
  rcases iOs h with⟨fd,h⟩|⟨fd,h⟩
  ·refine cT (vB fd) (cK (aa (cS (ae (cR (oY O (yMS O) (oY O (yMI O) (oY O (yMS O) (oY O (yFA cJ O) (oY O (yL 0 iM O O O) (oY O (yMI O) ?_)))))))))))
   obtain⟨y,h⟩:=gOs h
   refine oY O (yI nG (by decide) y.1 y.2 (RdL.arg G) (eL ay O) O O) ?_
   refine oY O (yFR (A:=Aa) (j:=(Int.toNat s6.1*3)) g6 O) (oY O (yR (A:=Aa) (j:=((Int.toNat s6.1*3)+0)) (v:=vI ((rdL p0.fNo s6.1).fID)) bW (RdL.arg G) O (eG ay y.1 (av y.2 O) O)) ?_)
   obtain⟨fl,g1,h⟩:=bOs h
   refine oY O (yC [.slice Ac p1.length cc,vI ((rdL p0.fNo s6.1).fID)] go_82 O (fun W2 E=>mU p1 ((rdL p0.fNo s6.1).fID) fl g1 W2 Ac p1.length cc O ((RdL.arg f4) W2 E)) O) ?_
   obtain⟨M,h⟩:=gOs h
   refine oY O (yI qi (by decide) M.1 M.2 (RdL.row 1 O) (eL gh w) O O) ?_
   refine d9 O (dP 1 (xs:=s6.2) gh fl sz_4 O M.1 (av M.2 w) O O O O) (oN (au (aa (cR (oY O (yMI O) (oY O (bF O O) (oY O (yAI O) (oN ?_))))))))
   obtain rfl:=sI h
   exact eN ⟨_,(gJ w),O,(kp4 (kp (kp O)))⟩
  ·refine cF (vB fd) (aJ (ak ?_))
   obtain rfl:=sI h
   exact aC ⟨O,_,w,O,(kp4 (kp (kp O)))⟩
 ·intro e L tm hJ
  obtain⟨rfl,oa,b,rfl,rfl⟩:=hJ
  refine⟨(by intro hc;cases hc),?_⟩
  refine ai (aa (cS (cS (cR (oY O (yAB O) (oN (aa (ae ?_))))))))
  obtain⟨ok,g2,h⟩:=bOs h
  refine bo (fun(s:(Bool × (List Bool))) L tm=>∃(I:Nat→Value),Int.toNat (p0.fNo.length:Int)=s.2.length∧L=[aj b1 25 [.slice Aa p0.fNo.length ca,.slice Ab p0.fC.length cb],be (some ⟨q,0,none⟩) (Int.toNat (p0.fNo.length:Int)) 4 1 (Int.toNat (p0.fNo.length:Int)) (encL cB s.2)]∧tm=(upd (upd (upd (upd (upd I 2 (.slice D p2.length F)) 3 (.pointer (some ⟨b1,0,none⟩))) 6 (.slice none 0 0)) 7 (.slice (some ⟨q,0,none⟩) (Int.toNat (p0.fNo.length:Int)) (Int.toNat (p0.fNo.length:Int)))) 9 (.bool s.1))) 2 g2 ⟨_,b,O,(kp4 (kp O))⟩ ?_ ?_
  ·rintro g3 L tm st ⟨gf,K,rfl,rfl⟩ h
   unfold fI at h
   refine cS (cS (cR (oY O (yMB O) (oN (aa ?_)))))
   rcases iOs h with⟨l,h⟩|⟨l,h⟩
   ·refine cT (vB l) (cK (aa (ae (cS (cR (oY O (yAB O) (oN (aa (cS (cR (oY O (yAI O) (oN (aa (ae ?_))))))))))))))
    obtain⟨r0,ga,h⟩:=bOs h
    refine bo (fun(s:(Bool × Int × (List Bool))) L tm=>∃(I:Nat→Value),Int.toNat (p0.fNo.length:Int)=s.2.2.length∧L=[aj b1 25 [.slice Aa p0.fNo.length ca,.slice Ab p0.fC.length cb],be (some ⟨q,0,none⟩) (Int.toNat (p0.fNo.length:Int)) 4 1 (Int.toNat (p0.fNo.length:Int)) (encL cB s.2.2)]∧tm=(upd (upd (upd (upd (upd (upd (upd I 2 (.slice D p2.length F)) 3 (.pointer (some ⟨b1,0,none⟩))) 6 (.slice none 0 0)) 7 (.slice (some ⟨q,0,none⟩) (Int.toNat (p0.fNo.length:Int)) (Int.toNat (p0.fNo.length:Int)))) 9 (.bool s.1)) 36 (.bool g3.1)) 10 (vI s.2.1))) 4 ga ⟨_,K,O,(kp4 (kp (kp (kp O))))⟩ ?_ ?_
    ·rintro f L tm st ⟨gb,g,rfl,rfl⟩ h
     unfold fD at h
     refine cS (cS (cR (oY O (yMI O) (oY O (yFA bp O) (oY O (yL 0 eZ O O O) (oY O (a8 (us:=[]) kj O) (oY O (bN O O) (oN (aa ?_)))))))))
     rcases iOs h with⟨t,h⟩|⟨t,h⟩
     ·refine cT (vB t) (cK (aa (cS (ae (cS ?_)))))
      refine oQ 12 di (by kernel_rfl) (by kernel_rfl) (by kernel_rfl) ?_
      refine kD O (fun _=>yFA bp O) (kD O (fun _=>yL 0 (v:=.slice Ab p0.fC.length cb) eZ O O O) (kD O (fun _=>yMI O) ?_))
      obtain⟨u,h⟩:=gOs h
      refine kD O (fun _=>yI kx (by decide) u.1 u.2 (RdL.arg H) (eL ad (NestP.hn d.p O)) O O) ?_
      refine kD O (fun _=>yFR (A:=Ab) (j:=(Int.toNat f.2.1*2)) db O) (kD O (fun _=>yR (A:=Ab) (j:=((Int.toNat f.2.1*2)+1)) (v:=.slice ((rdL r f.2.1).1.1) ((rdL p0.fC f.2.1).fO.length) ((rdL r f.2.1).1.2.2)) kd (RdL.arg H) O (eG ad u.1 (av u.2 (NestP.hn d.p O)) (congrArg (fun n:Nat=>some (Value.slice (rdL r f.2.1).1.1 n (rdL r f.2.1).1.2.2)) (NestP.len d.p u.1 (av u.2 O))))) (kD O (fun _=>yMS O) (kD O (fun _=>yMI O) ?_)))
      obtain⟨N,h⟩:=gOs h
      refine kD O (fun _=>yI dC (by decide) N.1 N.2 (RdL.arg R) (eL ax O) O O) ?_
      refine kD O (fun _=>yR (A:=D) (j:=(Int.toNat f.2.1*1)) (v:=vI (rdL p2 f.2.1)) bW (RdL.arg R) O (aG ax N.1 (av N.2 O) O)) ?_
      obtain⟨Q,h⟩:=gOs h
      refine kD O (fun _=>yI nF (by decide) Q.1 Q.2 (NestL.rd (NestL.arg d) u.1 (av u.2 O)) (eL aA O) O O) ?_
      refine kD O (fun _=>yM (A:=((rdL r f.2.1).1.1)) (j:=(Int.toNat (rdL p2 f.2.1)*2)) [vI ((rdL ((rdL p0.fC f.2.1).fO) (rdL p2 f.2.1)).fFrom),vI ((rdL ((rdL p0.fC f.2.1).fO) (rdL p2 f.2.1)).fTo)] mN (Nat.succ_pos _) (NestL.rd (NestL.arg d) u.1 (av u.2 O)) O (bR aA Q.1 (av Q.2 O))) ?_
      refine ax_nil O jd (fun oi=>?_)
      refine d9 O (yS 2 [vI ((rdL ((rdL p0.fC f.2.1).fO) (rdL p2 f.2.1)).fFrom),vI ((rdL ((rdL p0.fC f.2.1).fO) (rdL p2 f.2.1)).fTo)] se O (nB O) O O O) (oN (kQ (aa (cS (cR (oY O (yN 0 [.slice Aa p0.fNo.length ca,.slice Ab p0.fC.length cb] aR O O O) (oY O (yFA iX O) (oY O (yL 2 bW O O O) ?_))))))))
      obtain⟨c,o0,h⟩:=bOs h
      refine oY O (yC [.agg #[.slice Aa p0.fNo.length ca,.slice Ab p0.fC.length cb],vI ((rdL ((rdL p0.fC f.2.1).fO) (rdL p2 f.2.1)).fFrom)] tg O (fun W2 E=>eH p0 ((rdL ((rdL p0.fC f.2.1).fO) (rdL p2 f.2.1)).fFrom) c o0 W2 Aa p0.fNo.length ca O ((RdL.arg G) W2 E) Ab p0.fC.length cb r O ((RdL.arg H) W2 E) (NestL.at (NestL.arg d) W2 E)) O) (oY O (yAI O) (oN (aa (cS (cR (oY O (yN 0 [.slice Aa p0.fNo.length ca,.slice Ab p0.fC.length cb] aR O O O) (oY O (yFA lO O) (oY O (yL 2 bW O O O) ?_))))))))
      obtain⟨f0,o1,h⟩:=bOs h
      refine oY O (yC [.agg #[.slice Aa p0.fNo.length ca,.slice Ab p0.fC.length cb],vI ((rdL ((rdL p0.fC f.2.1).fO) (rdL p2 f.2.1)).fTo)] tg O (fun W2 E=>eH p0 ((rdL ((rdL p0.fC f.2.1).fO) (rdL p2 f.2.1)).fTo) f0 o1 W2 Aa p0.fNo.length ca O ((RdL.arg G) W2 E) Ab p0.fC.length cb r O ((RdL.arg H) W2 E) (NestL.at (NestL.arg d) W2 E)) O) (oY O (yAI O) (oN (aa (cS (cR (oY O (yMS O) (oY O (yMI O) ?_)))))))
      obtain⟨U,h⟩:=gOs h
      refine oY O (yI qi (by decide) U.1 U.2 (RdL.row 1 O) (eL gh g) O O) ?_
      refine oY O (yR (A:=(some ⟨q,0,none⟩)) (j:=(Int.toNat c*1)) (v:=.bool (rdL f.2.2 c)) sc_4 (RdL.row 1 O) O (aG gh U.1 (av U.2 g) O)) (oY O (yMB O) ?_)
      obtain⟨oj,oq,h⟩:=bOs h
      refine oJ 6 (fun I=>(upd (upd (upd (upd (upd (upd (upd (upd (upd (upd (upd (upd I 2 (.slice D p2.length F)) 3 (.pointer (some ⟨b1,0,none⟩))) 6 (.slice none 0 0)) 7 (.slice (some ⟨q,0,none⟩) (Int.toNat (p0.fNo.length:Int)) (Int.toNat (p0.fNo.length:Int)))) 9 (.bool f.1)) 36 (.bool g3.1)) 10 (vI f.2.1)) 41 (.bool (decide (f.2.1<(p0.fC.length:Int))))) 11 (.pointer (some ⟨oi,0,none⟩))) 12 (vI c)) 13 (vI f0)) 74 (.bool oj))) (fun I=>?_) (fun key=>?_)
      ·refine oN (aa ?_)
       rcases iOs h with⟨a,h⟩|⟨a,h⟩
       ·refine cT (vB a) (cS (cR (oY O (yMS O) (oY O (yMI O) ?_))))
        obtain⟨X,h⟩:=gOs h
        refine oY O (yI qi (by decide) X.1 X.2 (RdL.row 1 O) (eL gh g) O O) ?_
        refine d9 O (dP 1 (xs:=f.2.2) gh true sz_4 O X.1 (av X.2 g) O O O O) (oN (aa (cR (oY O (yAB O) (oN (au (aa (cR (oY O (yMI O) (oY O (bF O O) (oY O (yAI O) (oN (aX 2 ?_)))))))))))))
        obtain rfl:=sI h
        exact eN ⟨_,(gJ g),O,(kp4 (kp (kp (kp O))))⟩
       ·refine cF (vB a) (cK (au (aa (cR (oY O (yMI O) (oY O (bF O O) (oY O (yAI O) (oN (aX 2 ?_)))))))))
        obtain rfl:=sI h
        exact eN ⟨_,g,O,(kp4 (kp (kp (kp O))))⟩
      ·clear h;rcases iOs oq with⟨o,h⟩|⟨o,h⟩
       ·refine oY (sT O O O O o) (yMS O) (oY (sT O O O O o) (yMI O) ?_)
        obtain⟨Y,h⟩:=gOs h
        refine oY (sT O O O O o) (yI qi (by decide) Y.1 Y.2 (RdL.row 1 O) (eL gh g) O O) ?_
        refine oY (sT O O O O o) (yR (A:=(some ⟨q,0,none⟩)) (j:=(Int.toNat f0*1)) (v:=.bool (rdL f.2.2 f0)) sc_4 (RdL.row 1 O) O (aG gh Y.1 (av Y.2 g) O)) (oY (sT O O O O o) (fa O) (oY O (ar (vB o) O) ?_))
        obtain rfl:=sI h
        exact key _ _ (kp4 (kp4 (kp4 O)))
       ·refine oSk (sF O O O O o) (oSk (sF O O O O o) (oSk (sF O O O O o) (oSk (sF O O O O o) (oSk (sF O O O O o) (oY O (ap (vB o) O) ?_)))))
        obtain rfl:=sI h
        exact key _ _ (kp4 (kp4 (kp4 O)))
     ·refine cF (vB t) (aJ (ak ?_))
      obtain rfl:=sI h
      exact aC ⟨O,_,g,O,(kp4 (kp (kp (kp O))))⟩
    ·intro e L tm hJ
     obtain⟨rfl,op,i,rfl,rfl⟩:=hJ
     refine⟨(by intro hc;cases hc),?_⟩
     refine ai (au ?_)
     obtain rfl:=sI h
     exact eN ⟨_,i,O,(kp4 (kp O))⟩
   ·refine cF (vB l) (aJ (ak ?_))
    obtain rfl:=sI h
    exact aC ⟨O,_,K,O,(kp4 (kp O))⟩
  ·intro e L tm hJ
   obtain⟨rfl,om,k,rfl,rfl⟩:=hJ
   refine⟨(by intro hc;cases hc),?_⟩
   refine ai (aa (cS (cR (oY O (yMS O) (oY O (yAS O) (oN (aa (aq ?_))))))))
   obtain rfl:=sI h
   exact ao (.inl O) O (rVt (v:=.slice (some ⟨q,0,none⟩) (Int.toNat (p0.fNo.length:Int)) (Int.toNat (p0.fNo.length:Int))) O) (fun W2 E=>⟨((some ⟨q,0,none⟩),Int.toNat (p0.fNo.length:Int),Int.toNat (p0.fNo.length:Int)),k,O,(E.pick 1 O)⟩)
theorem sV (p0:TL) (p1:(List Int)) (res:((List Bool) × (List Bool))) (h:ms p0 p1=some res) (W:World) (Aa:Option Addr) (n ca:Nat) (fd:n=p0.fNo.length) (M:Rd W Aa n ca (encL TNode_cells p0.fNo)) (Ab:Option Addr) (l cb:Nat) (D:List (Hd × TC)) (fE:l=p0.fC.length) (N:Rd W Ab l cb (encL TClaim_cells2 D)) (Q:NestW W (fun z:TC=>z.fO) THop_cells D p0.fC) (Ac:Option Addr) (t cc:Nat) (fN:t=p1.length) (fn:Rd W Ac t cc (encL cI p1)) :
  Calls Tryz.prog 68 [.agg #[.slice Aa n ca,.slice Ab l cb],.slice Ac t cc].toArray W fun e W2=>∃x:((Option Addr × Nat × Nat) × (Option Addr × Nat × Nat)),(x.1.2.1=res.1.length∧x.2.2.1=res.2.length)∧e=.returned (.tuple #[.slice x.1.1 x.1.2.1 x.1.2.2,.slice x.2.1 x.2.2.1 x.2.2.2])∧Ext W W2 [be x.1.1 x.1.2.2 4 1 x.1.2.1 (encL cB res.1),be x.2.1 x.2.2.2 4 1 x.2.2.1 (encL cB res.2)]:=by
 subst fd
 subst fE
 subst fN
 unfold ms at h
 refine ah (m:=76) Tryz.func68 O O (nB O) (cS (cR ?_))
 refine aO [.slice Aa p0.fNo.length ca,.slice Ab p0.fC.length cb] O O O (fun b1=>?_)
 refine oY O (yAS O) (oY O (yAS O) (oN (aa (cS (cR (oY O (yFA cJ O) (oY O (yL 0 iM O O O) (oY O (a8 (us:=[]) lM O) ?_))))))))
 obtain⟨g2,h⟩:=gOs h
 refine qw (encL cB (List.replicate (Int.toNat (p0.fNo.length:Int)) false)) us_98 tE by_4 g2.1 g2.2 O (n4 _ _ _ O O) O (fun q=>?_)
 refine oY O (yAS O) (oN (aa (cS (cR (oY O (yFA cJ O) (oY O (yL 0 iM O O O) (oY O (a8 (us:=[]) lM O) ?_)))))))
 obtain⟨g3,h⟩:=gOs h
 refine qw (encL cB (List.replicate (Int.toNat (p0.fNo.length:Int)) false)) us_98 tE by_4 g3.1 g3.2 O (n4 _ _ _ O O) O (fun p=>?_)
 refine oY O (yAS O) (oN (aa (cS (cS (cR (oY O (yAI O) (oN (aa (ae ?_)))))))))
 obtain⟨u9,gf,h⟩:=bOs h
 refine bo (fun(s:(Int × (List Bool))) L tm=>∃(E:Nat→Value),Int.toNat (p0.fNo.length:Int)=s.2.length∧L=[aj b1 25 [.slice Aa p0.fNo.length ca,.slice Ab p0.fC.length cb],be (some ⟨q,0,none⟩) (Int.toNat (p0.fNo.length:Int)) 4 1 (Int.toNat (p0.fNo.length:Int)) (encL cB s.2),be (some ⟨p,0,none⟩) (Int.toNat (p0.fNo.length:Int)) 4 1 (Int.toNat (p0.fNo.length:Int)) (encL cB (List.replicate (Int.toNat (p0.fNo.length:Int)) false))]∧tm=(upd (upd (upd (upd (upd (upd (upd E 1 (.slice Ac p1.length cc)) 2 (.pointer (some ⟨b1,0,none⟩))) 4 (.slice none 0 0)) 5 (.slice none 0 0)) 6 (.slice (some ⟨q,0,none⟩) (Int.toNat (p0.fNo.length:Int)) (Int.toNat (p0.fNo.length:Int)))) 7 (.slice (some ⟨p,0,none⟩) (Int.toNat (p0.fNo.length:Int)) (Int.toNat (p0.fNo.length:Int)))) 8 (vI s.1))) 0 gf ⟨_,(List.length_replicate).symm,O,(kp4 (kp (kp (kp O))))⟩ ?_ ?_
 ·rintro s8 L tm st ⟨r1,w,rfl,rfl⟩ h
  unfold gH at h
  refine cS (cS (cR (oY O (yMI O) (oY O (yFA cJ O) (oY O (yL 0 iM O O O) (oY O (a8 (us:=[]) lM O) (oY O (bN O O) (oN (aa ?_)))))))))
  rcases iOs h with⟨a,h⟩|⟨a,h⟩
  ·refine cT (vB a) (cK (aa (cS (ae (cR (oY O (yMS O) (oY O (yMI O) ?_)))))))
   obtain⟨U,h⟩:=gOs h
   refine oY O (yI qi (by decide) U.1 U.2 (RdL.row 1 O) (eL gh w) O O) ?_
   refine d9 O (dP 1 (xs:=s8.2) gh true sz_4 O U.1 (av U.2 w) O O O O) (oN (au (aa (cR (oY O (yMI O) (oY O (bF O O) (oY O (yAI O) (oN ?_))))))))
   obtain rfl:=sI h
   exact eN ⟨_,(gJ w),O,(kp4 (kp (kp (kp O))))⟩
  ·refine cF (vB a) (aJ (ak ?_))
   obtain rfl:=sI h
   exact aC ⟨O,_,w,O,(kp4 (kp (kp (kp O))))⟩
 ·intro e L tm hJ
  obtain⟨rfl,r2,f3,rfl,rfl⟩:=hJ
  refine⟨(by intro hc;cases hc),?_⟩
  refine ai (aa (cS (cS (cR (oY O (yAI O) (oN (aa (ae ?_))))))))
  obtain⟨r6,ga,h⟩:=bOs h
  refine bo (fun(s:(Int × (List Bool) × (List Bool))) L tm=>∃(E:Nat→Value),Int.toNat (p0.fNo.length:Int)=s.2.1.length∧Int.toNat (p0.fNo.length:Int)=s.2.2.length∧L=[aj b1 25 [.slice Aa p0.fNo.length ca,.slice Ab p0.fC.length cb],be (some ⟨q,0,none⟩) (Int.toNat (p0.fNo.length:Int)) 4 1 (Int.toNat (p0.fNo.length:Int)) (encL cB s.2.1),be (some ⟨p,0,none⟩) (Int.toNat (p0.fNo.length:Int)) 4 1 (Int.toNat (p0.fNo.length:Int)) (encL cB s.2.2)]∧tm=(upd (upd (upd (upd (upd (upd (upd E 1 (.slice Ac p1.length cc)) 2 (.pointer (some ⟨b1,0,none⟩))) 4 (.slice none 0 0)) 5 (.slice none 0 0)) 6 (.slice (some ⟨q,0,none⟩) (Int.toNat (p0.fNo.length:Int)) (Int.toNat (p0.fNo.length:Int)))) 7 (.slice (some ⟨p,0,none⟩) (Int.toNat (p0.fNo.length:Int)) (Int.toNat (p0.fNo.length:Int)))) 9 (vI s.1))) 2 ga ⟨_,f3,(List.length_replicate).symm,O,(kp4 (kp (kp (kp O))))⟩ ?_ ?_
  ·rintro H L tm st ⟨gb,I,K,rfl,rfl⟩ h
   unfold iN at h
   refine cS (cS (cR (oY O (yMI O) (oY O (yN 0 [.slice Aa p0.fNo.length ca,.slice Ab p0.fC.length cb] aR O O O) ?_))))
   obtain⟨f4,o0,h⟩:=bOs h
   refine oY O (yC [.agg #[.slice Aa p0.fNo.length ca,.slice Ab p0.fC.length cb]] go_83 O (fun W2 d=>nA p0 f4 o0 W2 Aa p0.fNo.length ca O ((RdL.arg M) W2 d) Ab p0.fC.length cb D O ((RdL.arg N) W2 d) (NestL.at (NestL.arg Q) W2 d)) O) (oY O (bN O O) (oN (aa ?_)))
   rcases iOs h with⟨i,h⟩|⟨i,h⟩
   ·refine cT (vB i) (cK (aa (cS (ae (cS ?_)))))
    obtain⟨G,o1,h⟩:=bOs h
    refine mR 4 5 (fun v L1=>∃x:(Option Addr × Nat × Nat),x.2.1=G.length∧v=.slice x.1 x.2.1 x.2.2∧L1=[be x.1 x.2.2 3 1 x.2.1 (encL cI G)]) di (by kernel_rfl) (by kernel_rfl) (by kernel_rfl) ?_
    refine rs O (fun _=>yN 0 [.slice Aa p0.fNo.length ca,.slice Ab p0.fC.length cb] aR O O O) (rs O (fun _=>yMS O) (rs O (fun _=>yN 0 [.slice Aa p0.fNo.length ca,.slice Ab p0.fC.length cb] aR O O O) (rs O (fun _=>yMI O) (bx_q O (oC [.agg #[.slice Aa p0.fNo.length ca,.slice Ab p0.fC.length cb],vI H.1] _ _ _ O go_85 O (fun W2 d=>pg p0 H.1 G o1 W2 Aa p0.fNo.length ca O ((RdL.arg M) W2 d) Ab p0.fC.length cb D O ((RdL.arg N) W2 d) (NestL.at (NestL.arg Q) W2 d)) (fun x hx=>oN (rP ⟨x,hx,O,O⟩))) (tu O ?_)))))
    rintro v L1 ⟨⟨fl,r3,g1⟩,k,rfl,rfl⟩
    replace k:r3=G.length:=k;subst k
    obtain⟨F,oq,h⟩:=bOs h
    refine oC [.agg #[.slice Aa p0.fNo.length ca,.slice Ab p0.fC.length cb],.slice Ac p1.length cc,.slice fl G.length g1] _ _ _ O go_89 O (fun W2 d=>p7 p0 p1 G F oq W2 Aa p0.fNo.length ca O ((RdL.arg M) W2 d) Ab p0.fC.length cb D O ((RdL.arg N) W2 d) (NestL.at (NestL.arg Q) W2 d) Ac p1.length cc O ((RdL.arg fn) W2 d) fl G.length g1 O ((RdL.row 3 O) W2 d)) ?_
    rintro⟨R,r4,f9⟩ y
    replace y:r4=F.length:=y;subst y
    refine oY O (yAS O) (oN (kQ (aa (cS (cR (oY O (yAI O) (oN (aa (ae ?_)))))))))
    obtain⟨rd,op,h⟩:=bOs h
    refine bo (fun(s:(Int × (List Bool) × (List Bool))) L tm=>∃(E:Nat→Value),Int.toNat (p0.fNo.length:Int)=s.2.1.length∧Int.toNat (p0.fNo.length:Int)=s.2.2.length∧L=[aj b1 25 [.slice Aa p0.fNo.length ca,.slice Ab p0.fC.length cb],be (some ⟨q,0,none⟩) (Int.toNat (p0.fNo.length:Int)) 4 1 (Int.toNat (p0.fNo.length:Int)) (encL cB s.2.1),be (some ⟨p,0,none⟩) (Int.toNat (p0.fNo.length:Int)) 4 1 (Int.toNat (p0.fNo.length:Int)) (encL cB s.2.2),be fl g1 3 1 G.length (encL cI G),be R f9 4 1 F.length (encL cB F)]∧tm=(upd (upd (upd (upd (upd (upd (upd (upd (upd (upd E 1 (.slice Ac p1.length cc)) 2 (.pointer (some ⟨b1,0,none⟩))) 4 (.slice none 0 0)) 5 (.slice none 0 0)) 6 (.slice (some ⟨q,0,none⟩) (Int.toNat (p0.fNo.length:Int)) (Int.toNat (p0.fNo.length:Int)))) 7 (.slice (some ⟨p,0,none⟩) (Int.toNat (p0.fNo.length:Int)) (Int.toNat (p0.fNo.length:Int)))) 9 (vI H.1)) 33 (.bool (decide (H.1<f4)))) 10 (.slice R F.length f9)) 11 (vI s.1))) 4 op ⟨_,I,K,O,(kp4 (kp4 (kp (kp O))))⟩ ?_ ?_
    ·rintro o L tm st ⟨om,f,g,rfl,rfl⟩ h
     unfold iE at h
     refine cS (cS (cR (oY O (yMI O) (oY O (yMS O) (oY O (a8 (us:=[]) us_98 O) (oY O (bN O O) (oN (aa ?_))))))))
     rcases iOs h with⟨b,h⟩|⟨b,h⟩
     ·refine cT (vB b) (cK (aa (cS (ae (cS (cR (oY O (yMS O) (oY O (yMI O) (oY O (yMS O) (oY O (yMI O) ?_))))))))))
      obtain⟨X,h⟩:=gOs h
      refine oY O (yI qi (by decide) X.1 X.2 (RdL.row 1 O) (eL gh f) O O) ?_
      refine oY O (yR (A:=(some ⟨q,0,none⟩)) (j:=(Int.toNat o.1*1)) (v:=.bool (rdL o.2.1 o.1)) sc_4 (RdL.row 1 O) O (aG gh X.1 (av X.2 f) O)) (oY O (yMB O) ?_)
      obtain⟨ot,oa,h⟩:=bOs h
      refine oJ 5 (fun E=>(upd (upd (upd (upd (upd (upd (upd (upd (upd (upd (upd (upd (upd (upd E 1 (.slice Ac p1.length cc)) 2 (.pointer (some ⟨b1,0,none⟩))) 4 (.slice none 0 0)) 5 (.slice none 0 0)) 6 (.slice (some ⟨q,0,none⟩) (Int.toNat (p0.fNo.length:Int)) (Int.toNat (p0.fNo.length:Int)))) 7 (.slice (some ⟨p,0,none⟩) (Int.toNat (p0.fNo.length:Int)) (Int.toNat (p0.fNo.length:Int)))) 9 (vI H.1)) 33 (.bool (decide (H.1<f4)))) 10 (.slice R F.length f9)) 11 (vI o.1)) 45 (.bool (decide (o.1<(F.length:Int))))) 48 (.slice (some ⟨q,0,none⟩) (Int.toNat (p0.fNo.length:Int)) (Int.toNat (p0.fNo.length:Int)))) 49 (vI o.1)) 59 (.bool ot))) (fun E=>?_) (fun key=>?_)
      ·obtain⟨Y,h⟩:=gOs h
       refine oY O (yI qi (by decide) Y.1 Y.2 (RdL.row 1 O) (eL gh f) O O) ?_
       refine d9 O (dP 1 (xs:=o.2.1) gh ot sz_4 O Y.1 (av Y.2 f) O O O O) (oN (aa (cR (oY O (yMS O) (oY O (yMI O) (oY O (yMS O) (oY O (yMI O) ?_)))))))
       obtain⟨Z,h⟩:=gOs h
       refine oY O (yI qi (by decide) Z.1 Z.2 (RdL.row 2 O) (eL gh g) O O) ?_
       refine oY O (yR (A:=(some ⟨p,0,none⟩)) (j:=(Int.toNat o.1*1)) (v:=.bool (rdL o.2.2 o.1)) sc_4 (RdL.row 2 O) O (aG gh Z.1 (av Z.2 g) O)) (oY O (yMB O) ?_)
       obtain⟨oi,oj,h⟩:=bOs h
       refine oJ 5 (fun E=>(upd (upd (upd (upd (upd (upd (upd (upd (upd (upd (upd (upd (upd (upd E 1 (.slice Ac p1.length cc)) 2 (.pointer (some ⟨b1,0,none⟩))) 4 (.slice none 0 0)) 5 (.slice none 0 0)) 6 (.slice (some ⟨q,0,none⟩) (Int.toNat (p0.fNo.length:Int)) (Int.toNat (p0.fNo.length:Int)))) 7 (.slice (some ⟨p,0,none⟩) (Int.toNat (p0.fNo.length:Int)) (Int.toNat (p0.fNo.length:Int)))) 9 (vI H.1)) 33 (.bool (decide (H.1<f4)))) 10 (.slice R F.length f9)) 11 (vI o.1)) 45 (.bool (decide (o.1<(F.length:Int))))) 61 (.slice (some ⟨p,0,none⟩) (Int.toNat (p0.fNo.length:Int)) (Int.toNat (p0.fNo.length:Int)))) 62 (vI o.1)) 72 (.bool oi))) (fun E=>?_) (fun key=>?_)
       ·obtain⟨V,h⟩:=gOs h
        refine oY O (yI qi (by decide) V.1 V.2 (RdL.row 2 O) (eL gh g) O O) ?_
        refine d9 O (dP 2 (xs:=o.2.2) gh oi sz_4 O V.1 (av V.2 g) O O O O) (oN (au (aa (cR (oY O (yMI O) (oY O (bF O O) (oY O (yAI O) (oN ?_))))))))
        obtain rfl:=sI h
        exact eN ⟨_,(gJ f),(gJ g),O,(kp4 (kp4 (kp (kp O))))⟩
       ·clear h;rcases iOs oj with⟨r,h⟩|⟨r,h⟩
        ·refine oSk (sF O O O O r) (oSk (sF O O O O r) (oSk (sF O O O O r) (oSk (sF O O O O r) (oY O (ar (vB r) O) ?_))))
         obtain rfl:=sI h
         exact key _ _ (kp4 (kp4 (kp4 (kp (kp O)))))
        ·refine oY (sT O O O O r) (yMS O) (oY (sT O O O O r) (yMI O) ?_)
         obtain⟨T,h⟩:=gOs h
         refine oY (sT O O O O r) (yI qi (by decide) T.1 T.2 (RdL.row 4 O) (eL gh O) O O) ?_
         refine oY (sT O O O O r) (yR (A:=R) (j:=(Int.toNat o.1*1)) (v:=.bool (rdL F o.1)) sc_4 (RdL.row 4 O) O (aG gh T.1 (av T.2 O) O)) (oY O (ap (vB r) O) ?_)
         obtain rfl:=sI h
         exact key _ _ (kp4 (kp4 (kp4 (kp (kp O)))))
      ·clear h;rcases iOs oa with⟨u,h⟩|⟨u,h⟩
       ·refine oY (sT O O O O u) (yMS O) (oY (sT O O O O u) (yMI O) ?_)
        obtain⟨S,h⟩:=gOs h
        refine oY (sT O O O O u) (yI qi (by decide) S.1 S.2 (RdL.row 4 O) (eL gh O) O O) ?_
        refine oY (sT O O O O u) (yR (A:=R) (j:=(Int.toNat o.1*1)) (v:=.bool (rdL F o.1)) sc_4 (RdL.row 4 O) O (aG gh S.1 (av S.2 O) O)) (oY O (ar (vB u) O) ?_)
        obtain rfl:=sI h
        exact key _ _ (kp4 (kp4 (kp4 (kp (kp O)))))
       ·refine oSk (sF O O O O u) (oSk (sF O O O O u) (oSk (sF O O O O u) (oSk (sF O O O O u) (oY O (ap (vB u) O) ?_))))
        obtain rfl:=sI h
        exact key _ _ (kp4 (kp4 (kp4 (kp (kp O)))))
     ·refine cF (vB b) (aJ (ak ?_))
      obtain rfl:=sI h
      exact aC ⟨O,_,f,g,O,(kp4 (kp4 (kp (kp O))))⟩
    ·intro e L tm hJ
     obtain⟨rfl,ok,c,f0,rfl,rfl⟩:=hJ
     refine⟨(by intro hc;cases hc),?_⟩
     refine ai (au (aa (cR (oY O (yMI O) (oY O (bF O O) (oY O (yAI O) (oN (aX 3 ?_))))))))
     obtain rfl:=sI h
     exact eN ⟨_,c,f0,O,(kp4 (kp (kp (kp O))))⟩
   ·refine cF (vB i) (aJ (ak ?_))
    obtain rfl:=sI h
    exact aC ⟨O,_,I,K,O,(kp4 (kp (kp (kp O))))⟩
  ·intro e L tm hJ
   obtain⟨rfl,r0,f1,f2,rfl,rfl⟩:=hJ
   refine⟨(by intro hc;cases hc),?_⟩
   refine ai (aa (cS (cR (oY O (yMS O) (oY O (yMS O) (oY O (yAS O) (oY O (yAS O) (oN (aa (aq ?_))))))))))
   obtain rfl:=sI h
   exact dA (.inl O) O (rVt (v:=.slice (some ⟨q,0,none⟩) (Int.toNat (p0.fNo.length:Int)) (Int.toNat (p0.fNo.length:Int))) O) (rVt (v:=.slice (some ⟨p,0,none⟩) (Int.toNat (p0.fNo.length:Int)) (Int.toNat (p0.fNo.length:Int))) O) (fun W2 d=>⟨(((some ⟨q,0,none⟩),Int.toNat (p0.fNo.length:Int),Int.toNat (p0.fNo.length:Int)),((some ⟨p,0,none⟩),Int.toNat (p0.fNo.length:Int),Int.toNat (p0.fNo.length:Int))),⟨f1,f2⟩,O,d.pickL [1,2] (by decide) O⟩)
theorem rz (p0:TL) (p1:(List Int)) (res:Bool) (h:ls p0 p1=some res) (W:World) (Aa:Option Addr) (u ca:Nat) (F:u=p0.fNo.length) (G:Rd W Aa u ca (encL TNode_cells p0.fNo)) (Ab:Option Addr) (d cb:Nat) (o:List (Hd × TC)) (H:d=p0.fC.length) (I:Rd W Ab d cb (encL TClaim_cells2 o)) (K:NestW W (fun z:TC=>z.fO) THop_cells o p0.fC) (Ac:Option Addr) (w cc:Nat) (M:w=p1.length) (r:Rd W Ac w cc (encL cI p1)) :
  Calls Tryz.prog 125 [.agg #[.slice Aa u ca,.slice Ab d cb],.slice Ac w cc].toArray W fun e W2=>e=.returned (.bool res)∧Ext W W2 []:=by
 subst F
 subst H
 subst M
 unfold ls at h
 refine ah (m:=26) Tryz.func125 O O (nB O) (cS (cR ?_))
 refine aO [.slice Aa p0.fNo.length ca,.slice Ab p0.fC.length cb] O O O (fun t=>?_)
 refine oY O (yAB O) (oN (aa (cS (cS (cR (oY O (yAI O) (oN (aa (ae ?_)))))))))
 obtain⟨a,U,h⟩:=bOs h
 refine cC (fun(s:(Bool × Int)) L tm=>∃(D:Nat→Value),L=[aj t 25 [.slice Aa p0.fNo.length ca,.slice Ab p0.fC.length cb]]∧tm=(upd (upd (upd (upd D 1 (.slice Ac p1.length cc)) 2 (.pointer (some ⟨t,0,none⟩))) 4 (.bool s.1)) 5 (vI s.2))) 0 U ⟨_,O,(kp4 O)⟩ ?_ ?_
 ·rintro S L tm st ⟨R,rfl,rfl⟩ h
  unfold fP at h
  refine cS (cS (cR (oY O (yMI O) (oY O (yMS O) (oY O (a8 (us:=[]) bj O) (oY O (bN O O) (oN (aa ?_))))))))
  rcases iOs h with⟨N,h⟩|⟨N,h⟩
  ·refine cT (vB N) (cK (aa (cS (ae (cS ?_)))))
   refine bl 7 di (by kernel_rfl) (by kernel_rfl) ?_
   refine qY O (yN 0 [.slice Aa p0.fNo.length ca,.slice Ab p0.fC.length cb] aR O O O) (qY O (yMS O) (qY O (yMI O) ?_))
   obtain⟨E,h⟩:=gOs h
   refine qY O (yI dC (by decide) E.1 E.2 (RdL.arg r) (eL ax O) O O) ?_
   refine qY O (yR (A:=Ac) (j:=(Int.toNat S.2*1)) (v:=vI (rdL p1 S.2)) bW (RdL.arg r) O (aG ax E.1 (av E.2 O) O)) ?_
   obtain⟨i,q,h⟩:=bOs h
   refine qY O (yC [.agg #[.slice Aa p0.fNo.length ca,.slice Ab p0.fC.length cb],vI (rdL p1 S.2)] tg O (fun W2 g=>eH p0 (rdL p1 S.2) i q W2 Aa p0.fNo.length ca O ((RdL.arg G) W2 g) Ab p0.fC.length cb o O ((RdL.arg I) W2 g) (NestL.at (NestL.arg K) W2 g)) O) (qY O (bN O O) (dq (oN (aa ?_))))
   rcases iOs h with⟨Q,h⟩|⟨Q,h⟩
   ·refine cT (vB Q) (cS (cR (oY O (yAB O) (oN (aa (aq (al (ab ?_))))))))
    obtain rfl:=sI h
    exact aC ⟨O,_,O,(kp4 O)⟩
   ·refine cF (vB Q) (cK (au (aa (cR (oY O (yMI O) (oY O (bF O O) (oY O (yAI O) (oN ?_))))))))
    obtain rfl:=sI h
    exact eN ⟨_,O,(kp4 O)⟩
  ·refine cF (vB N) (aJ (ak ?_))
   obtain rfl:=sI h
   exact aC ⟨O,_,O,(kp4 O)⟩
 ·intro e L tm hJ
  rcases a with p|n
  ·dsimp only at h hJ
   obtain⟨rfl,X,rfl,rfl⟩:=hJ
   refine⟨(by intro hc;cases hc),?_⟩
   refine al (ab ?_)
   obtain rfl:=sI h
   exact ao (.inl O) O (rVt (v:=.bool p.1) O) (fun W2 g=>⟨O,g.none⟩)
  ·dsimp only at h hJ
   obtain⟨rfl,Y,rfl,rfl⟩:=hJ
   refine⟨(by intro hc;cases hc),?_⟩
   refine ai (aa (cS (cR (oY O (yMS O) (oY O (a8 (us:=[]) bj O) (oY O (i8 O O) (oY O (yMB O) ?_)))))))
   obtain⟨Z,V,h⟩:=bOs h
   refine oJ 3 (fun D=>(upd (upd D 4 (.bool n.1)) 25 (.bool Z))) (fun D=>?_) (fun key=>?_)
   ·refine oY O (yAB O) (oN (aa (aq ?_)))
    obtain rfl:=sI h
    exact ao (.inl O) O (rVt (v:=.bool Z) O) (fun W2 g=>⟨O,g.none⟩)
   ·clear h;rcases iOs V with⟨f,h⟩|⟨f,h⟩
    ·refine oY (sT O O O O f) (yMS O) ?_
     obtain⟨l,T,h⟩:=bOs h
     refine oY (sT O O O O f) (yC [.slice Ac p1.length cc] go_137 O (fun W2 g=>rt p1 l T W2 Ac p1.length cc O ((RdL.arg r) W2 g)) O) (oY O (ar (vB f) O) ?_)
     obtain rfl:=sI h
     exact key _ _ (kp (kp O))
    ·refine oSk (sF O O O O f) (oSk (sF O O O O f) (oY O (ap (vB f) O) ?_))
     obtain rfl:=sI h
     exact key _ _ (kp (kp O))
theorem sw (p0:TL) (p1:(List Int)) (res:Int) (h:ml p0 p1=some res) (W:World) (Aa:Option Addr) (r ca:Nat) (F:r=p0.fNo.length) (u:Rd W Aa r ca (encL TNode_cells p0.fNo)) (Ab:Option Addr) (d cb:Nat) (o:List (Hd × TC)) (G:d=p0.fC.length) (w:Rd W Ab d cb (encL TClaim_cells2 o)) (D:NestW W (fun z:TC=>z.fO) THop_cells o p0.fC) (Ac:Option Addr) (E cc:Nat) (H:E=p1.length) (I:Rd W Ac E cc (encL cI p1)) :
  Calls Tryz.prog 72 [.agg #[.slice Aa r ca,.slice Ab d cb],.slice Ac E cc].toArray W fun e W2=>e=.returned (vI res)∧Ext W W2 []:=by
 subst F
 subst G
 subst H
 unfold ml at h
 refine ah (m:=17) Tryz.func72 O O (nB O) (cS (cR ?_))
 refine aO [.slice Aa p0.fNo.length ca,.slice Ab p0.fC.length cb] O O O (fun V=>?_)
 refine oY O (yAI O) (oN (aa (cS (cR (oY O (yN 0 [.slice Aa p0.fNo.length ca,.slice Ab p0.fC.length cb] aR O O O) ?_)))))
 obtain⟨N,Q,h⟩:=bOs h
 refine oY O (yC [.agg #[.slice Aa p0.fNo.length ca,.slice Ab p0.fC.length cb]] go_66 O (fun W2 f=>rK p0 N Q W2 Aa p0.fNo.length ca O ((RdL.arg u) W2 f) Ab p0.fC.length cb o O ((RdL.arg w) W2 f) (NestL.at (NestL.arg D) W2 f)) O) (oY O (yAI O) (oN (aa (cS (cS (cR (oY O (yMI O) (oY O (ge O O) (oY O (yMB O) ?_)))))))))
 obtain⟨Y,U,h⟩:=bOs h
 refine oJ 5 (fun M=>(upd (upd (upd M 4 (vI 0)) 5 (vI N)) 15 (.bool Y))) (fun M=>?_) (fun key=>?_)
 ·refine oN (aa ?_)
  rcases iOs h with⟨K,h⟩|⟨K,h⟩
  ·refine cT (vB K) (cR (oY O (yAI O) (oN (aa (cS (cR (oY O (yMI O) (oY O (yAI O) (oN (aa (aq ?_)))))))))))
   obtain rfl:=sI h
   exact ao (.inl O) O (rVt (v:=vI 1) O) (fun W2 f=>⟨O,f.none⟩)
  ·refine cF (vB K) (cK (aa (cS (cR (oY O (yMI O) (oY O (yAI O) (oN (aa (aq ?_)))))))))
   obtain rfl:=sI h
   exact ao (.inl O) O (rVt (v:=vI N) O) (fun W2 f=>⟨O,f.none⟩)
 ·clear h;rcases iOs U with⟨g,h⟩|⟨g,h⟩
  ·refine oY (sT O O O O g) (yN 0 [.slice Aa p0.fNo.length ca,.slice Ab p0.fC.length cb] aR O O O) (oY (sT O O O O g) (yMS O) ?_)
   obtain⟨Z,X,h⟩:=bOs h
   refine oY (sT O O O O g) (yC [.agg #[.slice Aa p0.fNo.length ca,.slice Ab p0.fC.length cb],.slice Ac p1.length cc] go_125 O (fun W2 f=>rz p0 p1 Z X W2 Aa p0.fNo.length ca O ((RdL.arg u) W2 f) Ab p0.fC.length cb o O ((RdL.arg w) W2 f) (NestL.at (NestL.arg D) W2 f) Ac p1.length cc O ((RdL.arg I) W2 f)) O) (oY (sT O O O O g) (fa O) (oY O (ar (vB g) O) ?_))
   obtain rfl:=sI h
   exact key _ _ (kp (kp (kp O)))
  ·refine oSk (sF O O O O g) (oSk (sF O O O O g) (oSk (sF O O O O g) (oSk (sF O O O O g) (oY O (ap (vB g) O) ?_))))
   obtain rfl:=sI h
   exact key _ _ (kp (kp (kp O)))
end Go.Proofs.YtbblpokfbmekfaaGreat
set_option maxHeartbeats 4000000
set_option maxRecDepth 100000
namespace Go.Proofs.YtbblpokfbmekfaaGreat
open Go.RowKit (Below)
attribute [local irreducible] OX QX CX EX OpY Calls CallsIn
theorem qN (p0:TL) (p1:(List Int)) (p2:Int) (res:Int) (h:nh p0 p1 p2=some res) (W:World) (Aa:Option Addr) (r ca:Nat) (F:r=p0.fNo.length) (u:Rd W Aa r ca (encL TNode_cells p0.fNo)) (Ab:Option Addr) (d cb:Nat) (o:List (Hd × TC)) (G:d=p0.fC.length) (w:Rd W Ab d cb (encL TClaim_cells2 o)) (D:NestW W (fun z:TC=>z.fO) THop_cells o p0.fC) (Ac:Option Addr) (E cc:Nat) (H:E=p1.length) (I:Rd W Ac E cc (encL cI p1)) :
  Calls Tryz.prog 38 [.agg #[.slice Aa r ca,.slice Ab d cb],.slice Ac E cc,vI p2].toArray W fun e W2=>e=.returned (vI res)∧Ext W W2 []:=by
 subst F
 subst G
 subst H
 unfold nh at h
 refine ah (m:=20) Tryz.func38 O O (nB O) (cS (cR ?_))
 refine aO [.slice Aa p0.fNo.length ca,.slice Ab p0.fC.length cb] O O O (fun V=>?_)
 refine oY O (yAI O) (oN (aa (cS (cR (oY O (yN 0 [.slice Aa p0.fNo.length ca,.slice Ab p0.fC.length cb] aR O O O) (oY O (yMS O) ?_))))))
 obtain⟨N,Q,h⟩:=bOs h
 refine oY O (yC [.agg #[.slice Aa p0.fNo.length ca,.slice Ab p0.fC.length cb],.slice Ac p1.length cc] go_72 O (fun W2 f=>sw p0 p1 N Q W2 Aa p0.fNo.length ca O ((RdL.arg u) W2 f) Ab p0.fC.length cb o O ((RdL.arg w) W2 f) (NestL.at (NestL.arg D) W2 f) Ac p1.length cc O ((RdL.arg I) W2 f)) O) (oY O (yAI O) (oN (aa (cS (cS (cR (oY O (yMI O) (oY O (ge O O) (oY O (yMB O) ?_)))))))))
 obtain⟨Y,U,h⟩:=bOs h
 refine oJ 5 (fun M=>(upd (upd (upd M 6 (vI 0)) 7 (vI N)) 18 (.bool Y))) (fun M=>?_) (fun key=>?_)
 ·refine oN (aa ?_)
  rcases iOs h with⟨K,h⟩|⟨K,h⟩
  ·refine cT (vB K) (cR (oY O (yAI O) (oN (aa (cS (cR (oY O (yMI O) (oY O (yAI O) (oN (aa (aq ?_)))))))))))
   obtain rfl:=sI h
   exact ao (.inl O) O (rVt (v:=vI 5) O) (fun W2 f=>⟨O,f.none⟩)
  ·refine cF (vB K) (cK (aa (cS (cR (oY O (yMI O) (oY O (yAI O) (oN (aa (aq ?_)))))))))
   obtain rfl:=sI h
   exact ao (.inl O) O (rVt (v:=vI N) O) (fun W2 f=>⟨O,f.none⟩)
 ·clear h;rcases iOs U with⟨g,h⟩|⟨g,h⟩
  ·refine oY (sT O O O O g) (yN 0 [.slice Aa p0.fNo.length ca,.slice Ab p0.fC.length cb] aR O O O) (oY (sT O O O O g) (yMI O) ?_)
   obtain⟨Z,X,h⟩:=bOs h
   refine oY (sT O O O O g) (yC [.agg #[.slice Aa p0.fNo.length ca,.slice Ab p0.fC.length cb],vI p2] tg O (fun W2 f=>eH p0 p2 Z X W2 Aa p0.fNo.length ca O ((RdL.arg u) W2 f) Ab p0.fC.length cb o O ((RdL.arg w) W2 f) (NestL.at (NestL.arg D) W2 f)) O) (oY (sT O O O O g) (bN O O) (oY O (ar (vB g) O) ?_))
   obtain rfl:=sI h
   exact key _ _ (kp (kp (kp O)))
  ·refine oSk (sF O O O O g) (oSk (sF O O O O g) (oSk (sF O O O O g) (oSk (sF O O O O g) (oY O (ap (vB g) O) ?_))))
   obtain rfl:=sI h
   exact key _ _ (kp (kp (kp O)))
end Go.Proofs.YtbblpokfbmekfaaGreat
set_option maxHeartbeats 4000000
set_option maxRecDepth 100000
namespace Go.Proofs.YtbblpokfbmekfaaGreat
open Go.RowKit (Below)
attribute [local irreducible] OX QX CX EX OpY Calls CallsIn
theorem pj (p0:TL) (p1:(List Int)) (p2:Int) (res:Bool) (h:gW p0 p1 p2=some res) (W:World) (Aa:Option Addr) (r ca:Nat) (H:r=p0.fNo.length) (u:Rd W Aa r ca (encL TNode_cells p0.fNo)) (Ab:Option Addr) (d cb:Nat) (g:List (Hd × TC)) (I:d=p0.fC.length) (w:Rd W Ab d cb (encL TClaim_cells2 g)) (D:NestW W (fun z:TC=>z.fO) THop_cells g p0.fC) (Ac:Option Addr) (E cc:Nat) (K:E=p1.length) (M:Rd W Ac E cc (encL cI p1)) :
  Calls Tryz.prog 43 [.agg #[.slice Aa r ca,.slice Ab d cb],.slice Ac E cc,vI p2].toArray W fun e W2=>e=.returned (.bool res)∧Ext W W2 []:=by
 subst H
 subst I
 subst K
 unfold gW at h
 refine ah (m:=21) Tryz.func43 O O (nB O) (cS (cR ?_))
 refine aO [.slice Aa p0.fNo.length ca,.slice Ab p0.fC.length cb] O O O (fun T=>?_)
 refine oY O (yAB O) (oN (aa (cS (cR (oY O (yN 0 [.slice Aa p0.fNo.length ca,.slice Ab p0.fC.length cb] aR O O O) (oY O (yMS O) ?_))))))
 obtain⟨Q,X,h⟩:=bOs h
 refine oC [.agg #[.slice Aa p0.fNo.length ca,.slice Ab p0.fC.length cb],.slice Ac p1.length cc] _ _ _ O go_68 O (fun W2 f=>sV p0 p1 Q X W2 Aa p0.fNo.length ca O ((RdL.arg u) W2 f) Ab p0.fC.length cb g O ((RdL.arg w) W2 f) (NestL.at (NestL.arg D) W2 f) Ac p1.length cc O ((RdL.arg M) W2 f)) ?_
 rintro⟨⟨S,Z,R⟩,⟨V,Y,q⟩⟩ ⟨N,F⟩
 replace N:Z=Q.1.length:=N;subst N
 replace F:Y=Q.2.length:=F;subst F
 refine oY O (bD O) (oY O (yE O O) (oY O (yE O O) (oY O (yAS O) (oY O (yAS O) (oN (aa (cS (cR (oY O (yMS O) (oY O (yN 0 [.slice Aa p0.fNo.length ca,.slice Ab p0.fC.length cb] aR O O O) (oY O (yMI O) ?_)))))))))))
 obtain⟨G,U,h⟩:=bOs h
 refine oY O (yC [.agg #[.slice Aa p0.fNo.length ca,.slice Ab p0.fC.length cb],vI p2] tg O (fun W2 f=>eH p0 p2 G U W2 Aa p0.fNo.length ca O ((RdL.arg u) W2 f) Ab p0.fC.length cb g O ((RdL.arg w) W2 f) (NestL.at (NestL.arg D) W2 f)) O) ?_
 obtain⟨o,h⟩:=gOs h
 refine oY O (yI qi (by decide) o.1 o.2 (RdL.row 2 O) (eL gh O) O O) ?_
 refine oY O (yR (A:=V) (j:=(Int.toNat G*1)) (v:=.bool (rdL Q.2 G)) sc_4 (RdL.row 2 O) O (aG gh o.1 (av o.2 O) O)) (oY O (yAB O) (oN (aa (aq ?_))))
 obtain rfl:=sI h
 exact ao (.inl O) O (rVt (v:=.bool (rdL Q.2 G)) O) (fun W2 f=>⟨O,f.none⟩)
end Go.Proofs.YtbblpokfbmekfaaGreat
set_option maxHeartbeats 4000000
set_option maxRecDepth 100000
namespace Go.Proofs.YtbblpokfbmekfaaGreat
open Go.RowKit (Below)
attribute [local irreducible] OX QX CX EX OpY Calls CallsIn
theorem rM (p0:TL) (p1:(List Int)) (res:Bool) (h:lA p0 p1=some res) (W:World) (Aa:Option Addr) (d ca:Nat) (I:d=p0.fNo.length) (T:Rd W Aa d ca (encL TNode_cells p0.fNo)) (Ab:Option Addr) (w cb:Nat) (f:List (Hd × TC)) (K:w=p0.fC.length) (D:Rd W Ab w cb (encL TClaim_cells2 f)) (g:NestW W (fun z:TC=>z.fO) THop_cells f p0.fC) (Ac:Option Addr) (E cc:Nat) (M:E=p1.length) (F:Rd W Ac E cc (encL cI p1)) :
  Calls Tryz.prog 101 [.agg #[.slice Aa d ca,.slice Ab w cb],.slice Ac E cc].toArray W fun e W2=>e=.returned (.bool res)∧Ext W W2 []:=by
 subst I
 subst K
 subst M
 unfold lA at h
 refine ah (m:=32) Tryz.func101 O O (nB O) (cS (cR ?_))
 refine aO [.slice Aa p0.fNo.length ca,.slice Ab p0.fC.length cb] O O O (fun q=>?_)
 refine oY O (yAB O) (oN (aa (cS (cS (cR (oY O (yMS O) (oY O (a8 (us:=[]) bj O) (oY O (yFA bp O) (oY O (yL 0 eZ O O O) (oY O (a8 (us:=[]) kj O) (oY O (ft O O) (oN (aa ?_)))))))))))))
 rcases iOs h with⟨N,h⟩|⟨N,h⟩
 ·refine cT (vB N) (cS (cR (oY O (yAB O) (oN (aa (aq (ab ?_)))))))
  obtain rfl:=sI h
  exact ao (.inl O) O (rVt (v:=.bool false) O) (fun W2 o=>⟨O,o.none⟩)
 ·refine cF (vB N) (cK (aa (cS (cS (cR (oY O (yAI O) (oN (aa (ae ?_)))))))))
  obtain⟨l,U,h⟩:=bOs h
  refine cC (fun(s:(Bool × Int)) L tm=>∃(S:Nat→Value),L=[aj q 25 [.slice Aa p0.fNo.length ca,.slice Ab p0.fC.length cb]]∧tm=(upd (upd (upd (upd S 1 (.slice Ac p1.length cc)) 2 (.pointer (some ⟨q,0,none⟩))) 4 (.bool s.1)) 5 (vI s.2))) 0 U ⟨_,O,(kp4 O)⟩ ?_ ?_
  ·rintro r L tm st ⟨V,rfl,rfl⟩ h
   unfold f6 at h
   refine cS (cS (cR (oY O (yMI O) (oY O (yMS O) (oY O (a8 (us:=[]) bj O) (oY O (bN O O) (oN (aa ?_))))))))
   rcases iOs h with⟨Q,h⟩|⟨Q,h⟩
   ·refine cT (vB Q) (cK (aa (cS (ae (cS ?_)))))
    refine bl 14 di (by kernel_rfl) (by kernel_rfl) ?_
    refine qY O (yMS O) (qY O (yMI O) ?_)
    obtain⟨H,h⟩:=gOs h
    refine qY O (yI dC (by decide) H.1 H.2 (RdL.arg F) (eL ax O) O O) ?_
    refine qY O (yR (A:=Ac) (j:=(Int.toNat r.2*1)) (v:=vI (rdL p1 r.2)) bW (RdL.arg F) O (aG ax H.1 (av H.2 O) O)) (qY O (yFA bp O) (qY O (yL 0 eZ O O O) (qY O (yMI O) ?_)))
    obtain⟨u,h⟩:=gOs h
    refine qY O (yI kx (by decide) u.1 u.2 (RdL.arg D) (eL ad (NestP.hn g.p O)) O O) ?_
    refine qY O (yFR (A:=Ab) (j:=(Int.toNat r.2*2)) db O) (qY O (yR (A:=Ab) (j:=((Int.toNat r.2*2)+1)) (v:=.slice ((rdL f r.2).1.1) ((rdL p0.fC r.2).fO.length) ((rdL f r.2).1.2.2)) kd (RdL.arg D) O (eG ad u.1 (av u.2 (NestP.hn g.p O)) (congrArg (fun n:Nat=>some (Value.slice (rdL f r.2).1.1 n (rdL f r.2).1.2.2)) (NestP.len g.p u.1 (av u.2 O))))) (qY O (a8 (us:=[]) lJ O) (qY O (mY O O) ?_)))
    obtain⟨t,X,h⟩:=bOs h
    refine qY O (yC [vI (rdL p1 r.2),vI 0,vI (w64 ((((rdL p0.fC r.2).fO.length:Nat):Int)-1))] rZ O (fun W2 o=>jj (rdL p1 r.2) 0 (w64 ((((rdL p0.fC r.2).fO.length:Nat):Int)-1)) t X W2 ) O) (qY O (fa O) (dq (oN (aa ?_))))
    rcases iOs h with⟨G,h⟩|⟨G,h⟩
    ·refine cT (vB G) (cS (cR (oY O (yAB O) (oN (aa (aq (al (ab ?_))))))))
     obtain rfl:=sI h
     exact aC ⟨O,_,O,(kp4 O)⟩
    ·refine cF (vB G) (cK (au (aa (cR (oY O (yMI O) (oY O (bF O O) (oY O (yAI O) (oN ?_))))))))
     obtain rfl:=sI h
     exact eN ⟨_,O,(kp4 O)⟩
   ·refine cF (vB Q) (aJ (ak ?_))
    obtain rfl:=sI h
    exact aC ⟨O,_,O,(kp4 O)⟩
  ·intro e L tm hJ
   rcases l with R|a
   ·dsimp only at h hJ
    obtain⟨rfl,Y,rfl,rfl⟩:=hJ
    refine⟨(by intro hc;cases hc),?_⟩
    refine al (ab ?_)
    obtain rfl:=sI h
    exact ao (.inl O) O (rVt (v:=.bool R.1) O) (fun W2 o=>⟨O,o.none⟩)
   ·dsimp only at h hJ
    obtain⟨rfl,Z,rfl,rfl⟩:=hJ
    refine⟨(by intro hc;cases hc),?_⟩
    refine ai (aa (cS (cR (oY O (yAB O) (oN (aa (aq ?_)))))))
    obtain rfl:=sI h
    exact ao (.inl O) O (rVt (v:=.bool true) O) (fun W2 o=>⟨O,o.none⟩)
end Go.Proofs.YtbblpokfbmekfaaGreat
set_option maxHeartbeats 4000000
set_option maxRecDepth 100000
namespace Go.Proofs.YtbblpokfbmekfaaGreat
open Go.RowKit (Below)
attribute [local irreducible] OX QX CX EX OpY Calls CallsIn
theorem pY (p0:TL) (p1:(List Int)) (res:Bool) (h:gw p0 p1=some res) (W:World) (Aa:Option Addr) (d ca:Nat) (I:d=p0.fNo.length) (T:Rd W Aa d ca (encL TNode_cells p0.fNo)) (Ab:Option Addr) (w cb:Nat) (f:List (Hd × TC)) (K:w=p0.fC.length) (D:Rd W Ab w cb (encL TClaim_cells2 f)) (g:NestW W (fun z:TC=>z.fO) THop_cells f p0.fC) (Ac:Option Addr) (E cc:Nat) (M:E=p1.length) (F:Rd W Ac E cc (encL cI p1)) :
  Calls Tryz.prog 100 [.agg #[.slice Aa d ca,.slice Ab w cb],.slice Ac E cc].toArray W fun e W2=>e=.returned (.bool res)∧Ext W W2 []:=by
 subst I
 subst K
 subst M
 unfold gw at h
 refine ah (m:=32) Tryz.func100 O O (nB O) (cS (cR ?_))
 refine aO [.slice Aa p0.fNo.length ca,.slice Ab p0.fC.length cb] O O O (fun q=>?_)
 refine oY O (yAB O) (oN (aa (cS (cS (cR (oY O (yMS O) (oY O (a8 (us:=[]) bj O) (oY O (yFA bp O) (oY O (yL 0 eZ O O O) (oY O (a8 (us:=[]) kj O) (oY O (ft O O) (oN (aa ?_)))))))))))))
 rcases iOs h with⟨N,h⟩|⟨N,h⟩
 ·refine cT (vB N) (cS (cR (oY O (yAB O) (oN (aa (aq (ab ?_)))))))
  obtain rfl:=sI h
  exact ao (.inl O) O (rVt (v:=.bool false) O) (fun W2 o=>⟨O,o.none⟩)
 ·refine cF (vB N) (cK (aa (cS (cS (cR (oY O (yMS O) (oY O (a8 (us:=[]) bj O) (oY O (yMI O) (oN (aa (ae ?_)))))))))))
  obtain⟨l,U,h⟩:=bOs h
  refine cC (fun(s:(Bool × Int)) L tm=>∃(S:Nat→Value),L=[aj q 25 [.slice Aa p0.fNo.length ca,.slice Ab p0.fC.length cb]]∧tm=(upd (upd (upd (upd (upd S 2 (.pointer (some ⟨q,0,none⟩))) 4 (.bool s.1)) 13 (.slice Ac p1.length cc)) 14 (vI (p1.length:Int))) 15 (vI s.2))) 0 U ⟨_,O,(kp4 (kp O))⟩ ?_ ?_
  ·rintro r L tm st ⟨V,rfl,rfl⟩ h
   unfold er at h
   refine cS (cR (oY O (bN O O) (oN (aa (cS ?_)))))
   rcases iOs h with⟨Q,h⟩|⟨Q,h⟩
   ·refine cT (vB Q) (cK (aa (cS (ae (cS (cR (oY O (yMI O) ?_)))))))
    obtain⟨H,h⟩:=gOs h
    refine oY O (yI dC (by decide) H.1 H.2 (RdL.arg F) (eL ax O) O O) ?_
    refine oY O (yR (A:=Ac) (j:=(Int.toNat r.2*1)) (v:=vI (rdL p1 r.2)) bW (RdL.arg F) O (aG ax H.1 (av H.2 O) O)) (oY O (yAI O) (oY O (yAI O) (oN (aa (cS (cR (oY O (yMI O) (oY O (yFA bp O) (oY O (yL 0 eZ O O O) (oY O (yMI O) ?_))))))))))
    obtain⟨u,h⟩:=gOs h
    refine oY O (yI kx (by decide) u.1 u.2 (RdL.arg D) (eL ad (NestP.hn g.p O)) O O) ?_
    refine oY O (yFR (A:=Ab) (j:=(Int.toNat r.2*2)) db O) (oY O (yR (A:=Ab) (j:=((Int.toNat r.2*2)+1)) (v:=.slice ((rdL f r.2).1.1) ((rdL p0.fC r.2).fO.length) ((rdL f r.2).1.2.2)) kd (RdL.arg D) O (eG ad u.1 (av u.2 (NestP.hn g.p O)) (congrArg (fun n:Nat=>some (Value.slice (rdL f r.2).1.1 n (rdL f r.2).1.2.2)) (NestP.len g.p u.1 (av u.2 O))))) (oY O (a8 (us:=[]) lJ O) (oY O (mY O O) ?_)))
    obtain⟨t,X,h⟩:=bOs h
    refine oY O (yC [vI (rdL p1 r.2),vI 0,vI (w64 ((((rdL p0.fC r.2).fO.length:Nat):Int)-1))] r9 O (fun W2 o=>eh (rdL p1 r.2) 0 (w64 ((((rdL p0.fC r.2).fO.length:Nat):Int)-1)) t X W2 ) O) (oY O (fa O) (oN (aa ?_)))
    rcases iOs h with⟨G,h⟩|⟨G,h⟩
    ·refine cT (vB G) (cS (cR (oY O (yAB O) (oN (aa (aq (al (ab ?_))))))))
     obtain rfl:=sI h
     exact aC ⟨O,_,O,(kp4 (kp O))⟩
    ·refine cF (vB G) (cK (au (aa (cR (oY O (bF O O) (oY O (yMI O) (oN ?_)))))))
     obtain rfl:=sI h
     exact eN ⟨_,O,(kp4 (kp O))⟩
   ·refine cF (vB Q) (aJ (ak ?_))
    obtain rfl:=sI h
    exact aC ⟨O,_,O,(kp4 (kp O))⟩
  ·intro e L tm hJ
   rcases l with R|a
   ·dsimp only at h hJ
    obtain⟨rfl,Y,rfl,rfl⟩:=hJ
    refine⟨(by intro hc;cases hc),?_⟩
    refine al (ab ?_)
    obtain rfl:=sI h
    exact ao (.inl O) O (rVt (v:=.bool R.1) O) (fun W2 o=>⟨O,o.none⟩)
   ·dsimp only at h hJ
    obtain⟨rfl,Z,rfl,rfl⟩:=hJ
    refine⟨(by intro hc;cases hc),?_⟩
    refine ai (aa (cS (cR (oY O (yAB O) (oN (aa (aq ?_)))))))
    obtain rfl:=sI h
    exact ao (.inl O) O (rVt (v:=.bool true) O) (fun W2 o=>⟨O,o.none⟩)
end Go.Proofs.YtbblpokfbmekfaaGreat
set_option maxHeartbeats 4000000
set_option maxRecDepth 100000
namespace Go.Proofs.YtbblpokfbmekfaaGreat
open Go.RowKit (Below)
attribute [local irreducible] OX QX CX EX OpY Calls CallsIn
theorem mE (p0:(List Int)) (res:(List Int)) (h:ff p0=some res) (W:World) (Aa:Option Addr) (f ca:Nat) (r:f=p0.length) (g:Rd W Aa f ca (encL cI p0)) :
  Calls Tryz.prog 138 [.slice Aa f ca].toArray W fun e W2=>∃x:Option Addr × Nat × Nat,x.2.1=res.length∧e=.returned (.slice x.1 x.2.1 x.2.2)∧Ext W W2 [be x.1 x.2.2 3 1 x.2.1 (encL cI res)]:=by
 subst r
 unfold ff at h
 refine ah (m:=8) Tryz.func138 O O (nB O) (cS (cR (oY O (yAS O) (oN (aa (cS (cS (cR (oY O (yMS O) (oY O (sU bj O O) (oN (aa ?_))))))))))))
 rcases aD (Option.isNone Aa)with o|o
 ·refine cT (vB o) ?_
  have z6:=sr (Option.isNone_iff_eq_none.1 o▸g) ax (by decide)
  replace h:=(gOs h).2
  rw[z6]at h
  refine cS (cR (oY O (yAS O) (oN (aa (aq (ab ?_))))))
  obtain rfl:=sI h
  exact ao (.inl O) O (rVt (v:=.slice none 0 0) O) (fun W2 u=>⟨(none,0,0),O,O,((u.nilrow 3 1).pick 0 O)⟩)
 ·refine cF (vB o) (cK (aa (cS (cR ?_))))
  refine fT cI bj j7 kY O (fun E=>?_)
  refine oY O (yMS O) ?_
  obtain⟨d,h⟩:=gOs h
  refine cr 0 bj j7 kY O O O (RdL.arg g) (eL ax O) (eA mj _) (eF d (by decide)) O (fun w D=>?_)
  refine oY O (yAS O) (oN (aa (aq ?_)))
  obtain rfl:=sI h
  exact ao (.inl O) O (rVt (v:=.slice w (0+p0.length) D) O) (fun W2 u=>⟨(w,(0+p0.length),D),(lH O O),O,(u.pick 0 O)⟩)
theorem rA (p0:TL) (p1:(List Int)) (p2:Int) (p3:Bool) (res:((List Int) × Bool)) (h:g9 p0 p1 p2 p3=some res) (W:World) (Aa:Option Addr) (U ca:Nat) (l:U=p0.fNo.length) (X:Rd W Aa U ca (encL TNode_cells p0.fNo)) (Ab:Option Addr) (Y cb:Nat) (r:List (Hd × TC)) (t:Y=p0.fC.length) (G:Rd W Ab Y cb (encL TClaim_cells2 r)) (H:NestW W (fun z:TC=>z.fO) THop_cells r p0.fC) (Ac:Option Addr) (Z cc:Nat) (a:Z=p1.length) (i:Rd W Ac Z cc (encL cI p1)) :
  Calls Tryz.prog 103 [.agg #[.slice Aa U ca,.slice Ab Y cb],.slice Ac Z cc,vI p2,.bool p3].toArray W fun e W2=>∃x:Option Addr × Nat × Nat,x.2.1=res.1.length∧e=.returned (.tuple #[.slice x.1 x.2.1 x.2.2,.bool res.2])∧Ext W W2 [be x.1 x.2.2 3 1 x.2.1 (encL cI res.1)]:=by
 subst l
 subst t
 subst a
 unfold g9 at h
 refine il (m:=29) Tryz.func103 O O (nB O) (cS (cR ?_))
 refine aO [.slice Aa p0.fNo.length ca,.slice Ab p0.fC.length cb] O O O (fun b1=>?_)
 refine aO [.slice Ac p1.length cc] O O O (fun b2=>?_)
 refine aO [vI p2] O O O (fun b3=>?_)
 refine aO [.bool p3] O O O (fun b4=>?_)
 refine oY O (yAS O) (oY O (yAB O) (oN (aa (cx_scope (cS (cR ?_))))))
 refine aT ze_26 O (fun b5=>?_)
 refine oN (aa (cS (cR ?_)))
 refine aT tE O (fun b6=>?_)
 try dsimp only[lna,lca,lsz,lss]
 refine d9 O (cL 5 (v:=.bool false) sz_4 O (Nat.lt_of_lt_of_le (Nat.lt_succ_self _) (nB O)) O O O) (oN (aa (cS (cx_label (aa (cS (cS (cR (oY O (yN 0 [.slice Aa p0.fNo.length ca,.slice Ab p0.fC.length cb] aR O O O) ?_)))))))))
 obtain⟨y7,g3,h⟩:=bOs h
 refine cD [.agg #[.slice Aa p0.fNo.length ca,.slice Ab p0.fC.length cb]] _ _ O go_86 O (fun W2 f=>fo p0 y7 g3 W2 Aa p0.fNo.length ca O ((RdL.arg X) W2 f) Ab p0.fC.length cb r O ((RdL.arg G) W2 f) (NestL.at (NestL.arg H) W2 f)) ?_
 rintro c
 try dsimp only[lna,lca,lsz,lss]
 refine oN (aa (ae (iK 3 1 ?_)))
 obtain⟨hok40,h⟩:=gOs h
 obtain⟨op,f0,h⟩:=bOs h
 refine mr (caps:=[.pointer (some ⟨c,0,none⟩)]) (fun(s:(Bool × (List Int))) L=>∃(u:Option Addr) (d:Nat) (o:Nat),o=s.2.length∧L=[aj b1 25 [.slice Aa p0.fNo.length ca,.slice Ab p0.fC.length cb],aj b2 26 [.slice Ac p1.length cc],aj b3 3 [vI p2],aj b4 4 [.bool p3],aj b5 26 [.slice u o d],aj b6 4 [.bool s.1],aj c 25 [.slice Aa p0.fNo.length ca,.slice Ab p0.fC.length cb],be u d 3 1 o (encL cI s.2)]) (fun(s:(Bool × (List Int))) e L=>e=.exit 0∧∃(u:Option Addr) (d:Nat) (o:Nat),o=s.2.length∧L=[aj b1 25 [.slice Aa p0.fNo.length ca,.slice Ab p0.fC.length cb],aj b2 26 [.slice Ac p1.length cc],aj b3 3 [vI p2],aj b4 4 [.bool p3],aj b5 26 [.slice u o d],aj b6 4 [.bool s.1],aj c 25 [.slice Aa p0.fNo.length ca,.slice Ab p0.fC.length cb],be u d 3 1 o (encL cI s.2)]) f0 O rU (dx p0 hok40 c Aa p0.fNo.length ca Ab p0.fC.length cb O r H.p) (fun W2 s L hI f=>by obtain⟨u,d,o,rfl,rfl⟩:=hI;exact⟨(RdL.cells 6 O) W2 f,(RdL.arg G) W2 f⟩) ⟨none,0,0,O,O⟩ (fun s e L hI=>by obtain⟨rfl,_⟩:=hI;exact .inr ⟨_,O⟩) ?_ ?_ ?_
 ·rintro D10 l11 rec12 w D V g L st hrec13 ⟨E,F,fl,rfl,rfl⟩ h
  unfold jG at h
  refine cR ?_
  try dsimp only[lna,lca,lsz,lss]
  refine oY O (yAS O) (oN (nj 9 O hrec13 (ae (cS ?_))))
  obtain⟨gf,f1,h⟩:=bOs h
  obtain⟨R,f2,h⟩:=bOs h
  obtain⟨f3,h⟩:=gOs h
  refine j9 [[],[],[],[2],[0,1,2,3],[],[0,1,2,3,4,5],[],[0,1,2,3,4,5,6,7]] [(none,0,[true,true,true,true,true,true,true,true,true,true,true]),(none,0,[true,true,true,true,true,true,true,true,true,true,true]),(none,0,[true,true,true,true,true,true,true,true,true,true,true]),(none,0,[true,true,true,true,true,true,true,true,true,true,true]),(none,1,[true,true,true,true,true,true,true,true,true,true,true]),(none,0,[true,true,true,true,true,true,true,true,true,true,true,false]),(none,0,[true,true,true,true,true,true,true,true,true,true,true,true]),(none,0,[true,true,true,true,true,true,true,true,true,true,true,false]),(none,0,[true,true,true,true,true,true,true,true,true,true,true,true])] [⟨fun _=>.agg #[.slice Aa p0.fNo.length ca,.slice Ab p0.fC.length cb],fun _=>noR,fun _=>[]⟩,⟨fun _=>.slice Ac p1.length cc,fun _=>noR,fun _=>[]⟩,⟨fun _=>.slice w g.length D,fun _=>noR,fun _=>[]⟩,⟨fun _=>.func (.func 132) #[.slice w g.length D] #[],fun _=>noR,fun _=>[]⟩,⟨fun ξ23=>.map (some (ξ23 4 0).2.1),fun _=>noR,fun ξ23=>[mapV Tryz.prog 3 kI cX kB false (ξ23 4 0).2.1 R]⟩,⟨fun _=>vI p2,fun _=>noR,fun _=>[]⟩,⟨fun _=>.bool (aw false R p2),fun _=>noR,fun _=>[]⟩,⟨fun _=>.bool p3,fun _=>noR,fun _=>[]⟩,⟨fun _=>.bool ((aw false R p2)==p3),fun _=>noR,fun _=>[]⟩] 11 di (by kernel_rfl) (by kernel_rfl) ⟨⟨fun ξ23 ξ23' h=>⟨O,O,O⟩,fun _=>O⟩,⟨fun ξ23 ξ23' h=>⟨O,O,O⟩,fun _=>O⟩,⟨fun ξ23 ξ23' h=>⟨O,O,O⟩,fun _=>O⟩,⟨fun ξ23 ξ23' h=>⟨O,O,O⟩,fun _=>O⟩,⟨fun ξ23 ξ23' h=>⟨by simp only[h 4 (.inl O)],O,by simp only[h 4 (.inl O)]⟩,fun _=>O⟩,⟨fun ξ23 ξ23' h=>⟨O,O,O⟩,fun _=>O⟩,⟨fun ξ23 ξ23' h=>⟨O,O,O⟩,fun _=>O⟩,⟨fun ξ23 ξ23' h=>⟨O,O,O⟩,fun _=>O⟩,⟨fun ξ23 ξ23' h=>⟨O,O,O⟩,fun _=>O⟩,trivial⟩ O (fun ξ23=>?_)
  refine fq O (fun L2=>?_) ?_
  ·dsimp only[aP,lca,lna]
   refine oY O (yN 0 [.slice Aa p0.fNo.length ca,.slice Ab p0.fC.length cb] aR O O O) (oN ?_)
   exact aE (fun _=>(none,0,0,[],noR)) O (List.append_nil _)
  dsimp only[dG,lsz,lss,lna,lca,List.append_nil]
  refine fq O (fun L2=>?_) ?_
  ·dsimp only[aP,lca,lna]
   refine oY O (yL 1 fk O O O) (oN ?_)
   exact aE (fun _=>(none,0,0,[],noR)) O (List.append_nil _)
  dsimp only[dG,lsz,lss,lna,lca,List.append_nil]
  refine fq O (fun L2=>?_) ?_
  ·dsimp only[aP,lca,lna]
   refine oY O (yMS O) (oN ?_)
   exact aE (fun _=>(none,0,0,[],noR)) O (List.append_nil _)
  dsimp only[dG,lsz,lss,lna,lca,List.append_nil]
  refine fq O (fun L2=>?_) ?_
  ·dsimp only[aP,lca,lna]
   refine oY O (yC [.slice w g.length D] go_88 O (fun W2 f=>fF g gf f1 W2 w g.length D O ((RdL.row 10 O) W2 f)) O) (oN ?_)
   exact aE (fun _=>(none,0,0,[],noR)) O (List.append_nil _)
  dsimp only[dG,lsz,lss,lna,lca,List.append_nil]
  refine fq O (fun L2=>?_) ?_
  ·dsimp only[aP,lca,lna]
   refine cD [.agg #[.slice Aa p0.fNo.length ca,.slice Ab p0.fC.length cb],.slice Ac p1.length cc,.func (.func 132) #[.slice w g.length D] #[]] _ _ O go_87 O (fun W2 f=>dQ p0 p1 (fun ga gb=>aN g ga gb) R f2 W2 Aa p0.fNo.length ca O ((RdL.arg X) W2 f) Ab p0.fC.length cb r O ((RdL.arg G) W2 f) (NestL.at (NestL.arg H) W2 f) Ac p1.length cc O ((RdL.arg i) W2 f) 132 [.slice w g.length D] [] tl (fun W3 hb x0 x1 y hxy=>dU g x0 x1  y hxy W3 w g.length D O (((RdL.row 10 O) W2 f).later hb))) ?_
   rintro o0
   refine oN ?_
   exact aE (fun _=>(none,o0,0,[],noR)) O O
  dsimp only[dG,lsz,lss,lna,lca,List.append_nil]
  refine fq O (fun L2=>?_) ?_
  ·dsimp only[aP,lca,lna]
   refine oY O (yL 2 bW O O O) (oN ?_)
   exact aE (fun _=>(none,0,0,[],noR)) O (List.append_nil _)
  dsimp only[dG,lsz,lss,lna,lca,List.append_nil]
  refine fq O (fun L2=>?_) ?_
  ·dsimp only[aP,lca,lna]
   refine oY O (fj (k:=p2) (MpL.own 11 O) mQ jN tE O O f3) (oN ?_)
   exact aE (fun _=>(none,0,0,[],noR)) O (List.append_nil _)
  dsimp only[dG,lsz,lss,lna,lca,List.append_nil]
  refine fq O (fun L2=>?_) ?_
  ·dsimp only[aP,lca,lna]
   refine oY O (yL 3 sc_4 O O O) (oN ?_)
   exact aE (fun _=>(none,0,0,[],noR)) O (List.append_nil _)
  dsimp only[dG,lsz,lss,lna,lca,List.append_nil]
  refine fq O (fun L2=>?_) ?_
  ·dsimp only[aP,lca,lna]
   refine oY O (y_eqlb ub_4 O O) (oN ?_)
   exact aE (fun _=>(none,0,0,[],noR)) O (List.append_nil _)
  dsimp only[dG,lsz,lss,lna,lca,List.append_nil]
  refine pF (aa ?_)
  rcases iOs h with⟨T,h⟩|⟨T,h⟩
  ·refine cT (vB T) (cS (cR ?_))
   try dsimp only[lna,lca,lsz,lss]
   refine oY O (yMS O) ?_
   obtain⟨I,f4,h⟩:=bOs h
   refine oC [.slice w g.length D] _ _ _ O go_138 O (fun W2 f=>mE g I f4 W2 w g.length D O ((RdL.row 10 O) W2 f)) ?_
   rintro⟨q,o1,n⟩ S
   replace S:o1=I.length:=S;subst S
   try dsimp only[lna,lca,lsz,lss]
   refine d9 O (cL 4 (v:=.slice q I.length n) sz_26 O (Nat.lt_of_lt_of_le (Nat.lt_succ_self _) (nB O)) O O O) (d9 O (cL 5 (v:=.bool true) sz_4 O (Nat.lt_of_lt_of_le (Nat.lt_succ_self _) (nB O)) O O O) (oN (aa (aJ (sP O ?_)))))
   refine ex_mv 7 12 (by decide) O ?_
   try dsimp only[lsz,lss]
   refine aX 11 ?_
   obtain rfl:=sI h
   exact ex_cstop [aj b1 25 [.slice Aa p0.fNo.length ca,.slice Ab p0.fC.length cb],aj b2 26 [.slice Ac p1.length cc],aj b3 3 [vI p2],aj b4 4 [.bool p3],aj b5 26 [.slice q I.length n],aj b6 4 [.bool true],aj c 25 [.slice Aa p0.fNo.length ca,.slice Ab p0.fC.length cb],be q n 3 1 I.length (encL cI I)] ⟨O,q,n,I.length,O,O⟩
  ·refine cF (vB T) (cK (au (aX 11 ?_)))
   obtain rfl:=sI h
   exact mK [aj b1 25 [.slice Aa p0.fNo.length ca,.slice Ab p0.fC.length cb],aj b2 26 [.slice Ac p1.length cc],aj b3 3 [vI p2],aj b4 4 [.bool p3],aj b5 26 [.slice E V.2.length F],aj b6 4 [.bool V.1],aj c 25 [.slice Aa p0.fNo.length ca,.slice Ab p0.fC.length cb],be E F 3 1 V.2.length (encL cI V.2)] ⟨E,F,V.2.length,O,O⟩
 ·rintro D10 j L hst ⟨K,M,g1,rfl,rfl⟩
  subst hst
  dsimp only at h
  refine au (aa (cS ?_))
  refine bl 4 di (by kernel_rfl) (by kernel_rfl) ?_
  try dsimp only[lna,lca,lsz,lss]
  refine qY O (yL 4 fk O O O) (qY O (yL 5 sc_4 O O O) (qY O (yAS O) (qY O (yAB O) (dq (oN (aa (aq (pI (tH 8 O (.inl O) ?_)))))))))
  obtain rfl:=sI h
  exact dA (.inl O) O (rVt (v:=.slice K j.2.length M) O) (rVt (v:=.bool j.1) O) (fun W2 f=>⟨(K,j.2.length,M),O,O,(f.pick 7 O)⟩)
 ·rintro D10 b e L hst ⟨rfl,N,Q,g2,rfl,rfl⟩
  subst hst
  dsimp only at h
  refine ai (aa (cS ?_))
  refine bl 4 di (by kernel_rfl) (by kernel_rfl) ?_
  try dsimp only[lna,lca,lsz,lss]
  refine qY O (yL 4 fk O O O) (qY O (yL 5 sc_4 O O O) (qY O (yAS O) (qY O (yAB O) (dq (oN (aa (aq (pI (tH 8 O (.inl O) ?_)))))))))
  obtain rfl:=sI h
  exact dA (.inl O) O (rVt (v:=.slice N b.2.length Q) O) (rVt (v:=.bool b.1) O) (fun W2 f=>⟨(N,b.2.length,Q),O,O,(f.pick 7 O)⟩)
end Go.Proofs.YtbblpokfbmekfaaGreat
set_option maxHeartbeats 4000000
set_option maxRecDepth 100000
namespace Go.Proofs.YtbblpokfbmekfaaGreat
open Go.RowKit (Below)
attribute [local irreducible] OX QX CX EX OpY Calls CallsIn
theorem pR (p0:TC) (g:(List Int)) (f:TL) (N:Int) (l:(List (Int × Bool))) (res:Bool) (h:gx p0 g f N l=some res) (W:World) (Ab:Option Addr) (Q cb:Nat) (t:Q=p0.fO.length) (U:Rd W Ab Q cb (encL THop_cells p0.fO)) (a:Nat) (w:Option Addr) (G H:Nat) (X:G=g.length) (M:Rd W w G H (encL cI g)) (i:Rd W (some ⟨a,0,none⟩) 1 1 [.slice w G H]) (x:Nat) (o:Option Addr) (I r:Nat) (Y:I=f.fNo.length) (Z:Rd W o I r (encL TNode_cells f.fNo)) (u:Option Addr) (K d:Nat) (D:List (Hd × TC)) (V:K=f.fC.length) (T:Rd W u K d (encL TClaim_cells2 D)) (S:NestW W (fun z:TC=>z.fO) THop_cells D f.fC) (y:Rd W (some ⟨x,0,none⟩) 1 1 [.slice o I r,.slice u K d]) (b:Nat) (c:Rd W (some ⟨b,0,none⟩) 1 1 (cI N)) (f0:Nat) (E:Nat) (hm103_0:(mapV Tryz.prog 3 kI cX kB false E l).holds W) (f1:Rd W (some ⟨f0,0,none⟩) 1 1 [.map (some E)]) :
  Calls Tryz.prog 140 [.agg #[vI p0.fID,.slice Ab Q cb],.pointer (some ⟨a,0,none⟩),.pointer (some ⟨x,0,none⟩),.pointer (some ⟨b,0,none⟩),.pointer (some ⟨f0,0,none⟩)].toArray W fun e W2=>e=.returned (.bool res)∧Ext W W2 []:=by
 subst t
 subst X
 subst Y
 subst V
 unfold gx at h
 refine ah (m:=29) Tryz.func140 O O (nB O) (cS (cR ?_))
 refine aO [vI p0.fID,.slice Ab p0.fO.length cb] O O O (fun b1=>?_)
 refine oY O (yAB O) (oN (aa (cS ?_)))
 refine oQ 11 di (by kernel_rfl) (by kernel_rfl) (by kernel_rfl) ?_
 refine kD O (fun _=>yFA db O) (kD O (fun _=>yL 0 (v:=.slice Ab p0.fO.length cb) kd O O O) (kD O (fun _=>yR (A:=(some ⟨a,0,none⟩)) (j:=0) (v:=.slice w g.length H) fk (RdL.arg i) O O) (kD O (fun _=>yM (A:=(some ⟨x,0,none⟩)) (j:=0) [.slice o f.fNo.length r,.slice u f.fC.length d] aR (Nat.succ_pos _) (RdL.arg y) O (gets_all O)) (kD O (fun _=>yFA kk O) (kD O (fun _=>yL 0 (v:=vI p0.fID) bW O O O) ?_)))))
 obtain⟨q,f4,h⟩:=bOs h
 refine kD O (fun _=>yC [.agg #[.slice o f.fNo.length r,.slice u f.fC.length d],vI p0.fID] go_114 O (fun W2 R=>ke f p0.fID q f4 W2 o f.fNo.length r O ((RdL.arg Z) W2 R) u f.fC.length d D O ((RdL.arg T) W2 R) (NestL.at (NestL.arg S) W2 R)) O) ?_
 obtain⟨p,h⟩:=gOs h
 refine kD O (fun _=>yI dC (by decide) p.1 p.2 (RdL.arg M) (eL ax O) O O) ?_
 refine kD O (fun _=>yR (A:=w) (j:=(Int.toNat q*1)) (v:=vI (rdL g q)) bW (RdL.arg M) O (aG ax p.1 (av p.2 O) O)) ?_
 obtain⟨n,h⟩:=gOs h
 refine kD O (fun _=>yI nF (by decide) n.1 n.2 (RdL.arg U) (eL aA O) O O) ?_
 refine kD O (fun _=>yM (A:=Ab) (j:=(Int.toNat (rdL g q)*2)) [vI ((rdL p0.fO (rdL g q)).fFrom),vI ((rdL p0.fO (rdL g q)).fTo)] mN (Nat.succ_pos _) (RdL.arg U) O (bR aA n.1 (av n.2 O))) ?_
 refine ax_nil O jd (fun b6=>?_)
 refine d9 O (yS 1 [vI ((rdL p0.fO (rdL g q)).fFrom),vI ((rdL p0.fO (rdL g q)).fTo)] se O (nB O) O O O) (oN (kQ (aa (cS (cR (oY O (yFA lO O) (oY O (yL 1 bW O O O) (oY O (yR (A:=(some ⟨b,0,none⟩)) (j:=0) (v:=vI N) bW (RdL.arg c) O O) (oY O (ge O O) (oY O (yMB O) ?_))))))))))
 obtain⟨b8,f9,h⟩:=bOs h
 refine oJ 5 (fun f2=>(upd (upd f2 6 (.bool false)) 28 (.bool b8))) (fun f2=>?_) (fun key=>?_)
 ·refine oY O (yAB O) (oN (aa (aq ?_)))
  obtain rfl:=sI h
  exact ao (.inl O) O (rVt (v:=.bool b8) O) (fun W2 R=>⟨O,R.none⟩)
 ·clear h;rcases iOs f9 with⟨F,h⟩|⟨F,h⟩
  ·refine oY (sT O O O O F) (yR (A:=(some ⟨f0,0,none⟩)) (j:=0) (v:=.map (some E)) sc_94 (RdL.arg f1) O O) (oY (sT O O O O F) (yFA iX O) (oY (sT O O O O F) (yL 1 bW O O O) ?_))
   obtain⟨f3,h⟩:=gOs h
   refine oY (sT O O O O F) (fj (k:=(rdL p0.fO (rdL g q)).fFrom) (MpL.arg hm103_0) mQ jN tE O O f3) (oY O (ar (vB F) O) ?_)
   obtain rfl:=sI h
   exact key _ _ (kp (kp O))
  ·refine oSk (sF O O O O F) (oSk (sF O O O O F) (oSk (sF O O O O F) (oSk (sF O O O O F) (oY O (ap (vB F) O) ?_))))
   obtain rfl:=sI h
   exact key _ _ (kp (kp O))
theorem ma (p0:(List Int)) (res:(List Int)) (h:cV p0=some res) (W:World) (N:World) (R:Res) (Aa:Option Addr) (g ca:Nat) (E:g=p0.length) (hW:Ext N W [R,be Aa ca 3 1 g (encL cI p0)]) :
  Calls Tryz.prog 141 [.slice Aa g ca].toArray W fun e W2=>e=.returned (.tuple #[])∧g=res.length∧Ext N W2 [R,be Aa ca 3 1 g (encL cI res)]:=by
 subst E
 unfold cV at h
 refine gv (m:=28) Tryz.func141 O O (nB O) hW (cS (cR (oY O (yMS O) (oY O (a8 (us:=[]) bj O) (oY O (mY O O) (oY O (yAI O) (oY O (yAI O) (oN (aa (ae ?_))))))))))
 obtain⟨Q,G,h⟩:=bOs h
 refine bo (fun(s:(Int × Int × (List Int))) L tm=>∃(K:Nat→Value),p0.length=s.2.2.length∧L=[R,be Aa ca 3 1 p0.length (encL cI s.2.2)]∧tm=(upd (upd (upd K 0 (.slice Aa p0.length ca)) 2 (vI s.1)) 3 (vI s.2.1))) 0 G ⟨_,O,O,(kp (kp (kp O)))⟩ ?_ ?_
 ·rintro o L tm st ⟨H,f,rfl,rfl⟩ h
  unfold ci at h
  refine cS (cS (cR (oY O (yMI O) (oY O (yMI O) (oY O (bN O O) (oN (aa ?_)))))))
  rcases iOs h with⟨F,h⟩|⟨F,h⟩
  ·refine cT (vB F) (cK (aa (cS (ae ?_))))
   refine cx_drawsF [2,3] 13 di (by kernel_rfl) (by kernel_rfl) ?_
   refine qY O (yMS O) (qY O (yMI O) (qY O (yMS O) (qY O (yMI O) (qY O (yMS O) (qY O (yMI O) ?_)))))
   obtain⟨r,h⟩:=gOs h
   refine qY O (yI dC (by decide) r.1 r.2 (RdL.row 1 O) (eL ax f) O O) ?_
   refine qY O (yR (A:=Aa) (j:=(Int.toNat o.2.1*1)) (v:=vI (rdL o.2.2 o.2.1)) bW (RdL.row 1 O) O (aG ax r.1 (av r.2 f) O)) (qY O (yMS O) (qY O (yMI O) ?_))
   obtain⟨u,h⟩:=gOs h
   refine qY O (yI dC (by decide) u.1 u.2 (RdL.row 1 O) (eL ax f) O O) ?_
   refine qY O (yR (A:=Aa) (j:=(Int.toNat o.1*1)) (v:=vI (rdL o.2.2 o.1)) bW (RdL.row 1 O) O (aG ax u.1 (av u.2 f) O)) ?_
   obtain⟨d,h⟩:=gOs h
   refine qY O (yI dC (by decide) d.1 d.2 (RdL.row 1 O) (eL ax f) O O) ?_
   refine dq (d9 O (dP 1 (xs:=o.2.2) ax (rdL o.2.2 o.2.1) rI O d.1 (av d.2 f) O O O O) ?_)
   obtain⟨w,h⟩:=gOs h
   refine oY O (yI dC (by decide) w.1 w.2 (RdL.row 1 O) (eL ax (gJ f)) O O) ?_
   refine d9 O (dP 1 (xs:=(o.2.2.set (Int.toNat o.1) (rdL o.2.2 o.2.1))) ax (rdL o.2.2 o.1) rI O w.1 (av w.2 (gJ f)) O O O O) (oN (kQ (au (aa (cR (oY O (yMI O) (oY O (bF O O) (oY O (yMI O) (oY O (mY O O) (oY O (yAI O) (oY O (yAI O) (oN ?_))))))))))))
   obtain rfl:=sI h
   exact eN ⟨_,(gJ (gJ f)),O,(kp (kp (kp O)))⟩
  ·refine cF (vB F) (aJ (ak ?_))
   obtain rfl:=sI h
   exact aC ⟨O,_,f,O,(kp (kp (kp O)))⟩
 ·intro e L tm hJ
  obtain⟨rfl,I,D,rfl,rfl⟩:=hJ
  refine⟨(by intro hc;cases hc),?_⟩
  refine ai ?_
  obtain rfl:=sI h
  exact gC (.inr O) O  (fun W2 M=>⟨O,D,M.take 2⟩)
theorem rO (p0:TL) (p1:(List Int)) (p2:Int) (p3:(List Int)) (res:(List Int)) (h:k7 p0 p1 p2 p3=some res) (W:World) (Aa:Option Addr) (U ca:Nat) (b:U=p0.fNo.length) (X:Rd W Aa U ca (encL TNode_cells p0.fNo)) (Ab:Option Addr) (Y cb:Nat) (o:List (Hd × TC)) (c:Y=p0.fC.length) (F:Rd W Ab Y cb (encL TClaim_cells2 o)) (r:NestW W (fun z:TC=>z.fO) THop_cells o p0.fC) (Ac:Option Addr) (Z cc:Nat) (f0:Z=p1.length) (V:Rd W Ac Z cc (encL cI p1)) (u:Option Addr) (T d:Nat) (f1:T=p3.length) (H:Rd W u T d (encL cI p3)) :
  Calls Tryz.prog 104 [.agg #[.slice Aa U ca,.slice Ab Y cb],.slice Ac Z cc,vI p2,.slice u T d].toArray W fun e W2=>∃x:Option Addr × Nat × Nat,x.2.1=res.length∧e=.returned (.slice x.1 x.2.1 x.2.2)∧Ext W W2 [be x.1 x.2.2 3 1 x.2.1 (encL cI res)]:=by
 subst b
 subst c
 subst f0
 subst f1
 unfold k7 at h
 refine ah (m:=53) Tryz.func104 O O (nB O) (cS (cR ?_))
 refine aO [.slice Aa p0.fNo.length ca,.slice Ab p0.fC.length cb] O O O (fun b1=>?_)
 refine aO [.slice u p3.length d] O O O (fun b2=>?_)
 refine oY O (yAS O) (oN (aa (cS ?_)))
 obtain⟨y4,ga,h⟩:=bOs h
 obtain⟨y8,gb,h⟩:=bOs h
 refine j9 [[],[],[],[2],[0,1,2,3],[],[0,1,2,3,4,5]] [(none,0,[true,true]),(none,0,[true,true]),(none,0,[true,true]),(none,0,[true,true]),(none,1,[true,true]),(none,1,[true,true,false]),(some 3,0,[true,true,true,true])] [⟨fun _=>.agg #[.slice Aa p0.fNo.length ca,.slice Ab p0.fC.length cb],fun _=>noR,fun _=>[]⟩,⟨fun _=>.slice Ac p1.length cc,fun _=>noR,fun _=>[]⟩,⟨fun _=>.slice u p3.length d,fun _=>noR,fun _=>[]⟩,⟨fun _=>.func (.func 132) #[.slice u p3.length d] #[],fun _=>noR,fun _=>[]⟩,⟨fun ξ3=>.map (some (ξ3 4 0).2.1),fun _=>noR,fun ξ3=>[mapV Tryz.prog 3 kI cX kB false (ξ3 4 0).2.1 y8]⟩,⟨fun ξ3=>.pointer (some ⟨(ξ3 5 0).2.1,0,none⟩),fun _=>noR,fun ξ3=>[aj (ξ3 5 0).2.1 94 [.map none]]⟩,⟨fun _=>undef,fun ξ3=>aj (ξ3 5 0).2.1 94 [.map (some (ξ3 4 0).2.1)],fun _=>[]⟩] 2 di (by kernel_rfl) (by kernel_rfl) ⟨⟨fun ξ3 ξ3' h=>⟨O,O,O⟩,fun _=>O⟩,⟨fun ξ3 ξ3' h=>⟨O,O,O⟩,fun _=>O⟩,⟨fun ξ3 ξ3' h=>⟨O,O,O⟩,fun _=>O⟩,⟨fun ξ3 ξ3' h=>⟨O,O,O⟩,fun _=>O⟩,⟨fun ξ3 ξ3' h=>⟨by simp only[h 4 (.inl O)],O,by simp only[h 4 (.inl O)]⟩,fun _=>O⟩,⟨fun ξ3 ξ3' h=>⟨by simp only[h 5 (.inl O)],O,by simp only[h 5 (.inl O)]⟩,fun _=>O⟩,⟨fun ξ3 ξ3' h=>⟨O,by simp only[h 4 (.inr O),h 5 (.inr O)],O⟩,fun _=>O⟩,trivial⟩ O (fun ξ3=>?_)
 refine fq O (fun L2=>?_) ?_
 ·dsimp only[aP,lca,lna]
  refine oY O (yN 0 [.slice Aa p0.fNo.length ca,.slice Ab p0.fC.length cb] aR O O O) (oN ?_)
  exact aE (fun _=>(none,0,0,[],noR)) O (List.append_nil _)
 dsimp only[dG,lsz,lss,lna,lca,List.append_nil]
 refine fq O (fun L2=>?_) ?_
 ·dsimp only[aP,lca,lna]
  refine oY O (yMS O) (oN ?_)
  exact aE (fun _=>(none,0,0,[],noR)) O (List.append_nil _)
 dsimp only[dG,lsz,lss,lna,lca,List.append_nil]
 refine fq O (fun L2=>?_) ?_
 ·dsimp only[aP,lca,lna]
  refine oY O (yL 1 fk O O O) (oN ?_)
  exact aE (fun _=>(none,0,0,[],noR)) O (List.append_nil _)
 dsimp only[dG,lsz,lss,lna,lca,List.append_nil]
 refine fq O (fun L2=>?_) ?_
 ·dsimp only[aP,lca,lna]
  refine oY O (yC [.slice u p3.length d] go_88 O (fun W2 f=>fF p3 y4 ga W2 u p3.length d O ((RdL.arg H) W2 f)) O) (oN ?_)
  exact aE (fun _=>(none,0,0,[],noR)) O (List.append_nil _)
 dsimp only[dG,lsz,lss,lna,lca,List.append_nil]
 refine fq O (fun L2=>?_) ?_
 ·dsimp only[aP,lca,lna]
  refine cD [.agg #[.slice Aa p0.fNo.length ca,.slice Ab p0.fC.length cb],.slice Ac p1.length cc,.func (.func 132) #[.slice u p3.length d] #[]] _ _ O go_87 O (fun W2 f=>dQ p0 p1 (fun x6 x7=>aN p3 x6 x7) y8 gb W2 Aa p0.fNo.length ca O ((RdL.arg X) W2 f) Ab p0.fC.length cb o O ((RdL.arg F) W2 f) (NestL.at (NestL.arg r) W2 f) Ac p1.length cc O ((RdL.arg V) W2 f) 132 [.slice u p3.length d] [] tl (fun W3 hb x0 x1 y hxy=>dU p3 x0 x1  y hxy W3 u p3.length d O (((RdL.arg H) W2 f).later hb))) ?_
  rintro o0
  refine oN ?_
  exact aE (fun _=>(none,o0,0,[],noR)) O O
 dsimp only[dG,lsz,lss,lna,lca,List.append_nil]
 refine fq O (fun L2=>?_) ?_
 ·dsimp only[aP,lca,lna]
  refine aT ze_94 O (fun o1=>?_)
  refine oN ?_
  exact aE (fun _=>(none,o1,0,[],noR)) O O
 dsimp only[dG,lsz,lss,lna,lca,List.append_nil]
 refine gx_n O (fun L2=>?_) ?_
 ·dsimp only[aP,lca,lna]
  refine d9 O (cL 3 (v:=.map (some (ξ3 4 0).2.1)) sz_94 O (Nat.lt_of_lt_of_le (Nat.lt_succ_self _) (nB O)) O O O) (oN ?_)
  first|exact fc (fun _=>(none,0,0,[],noR)) O|exact fc (fun _=>(none,0,0,[],noR)) (List.append_nil _)
 dsimp only[dG,lsz,lss,lna,lca,List.append_nil]
 refine pF (aa (cS (cR (oY O (yAS O) (oN (aa (cS (cS (cR (oY O (yMI O) ?_))))))))))
 refine aT j7 O (fun oq=>?_)
 refine d9 O (cL 4 (v:=vI p2) rI O (Nat.lt_of_lt_of_le (Nat.lt_succ_self _) (nB O)) O O O) (oN (aa (ae ?_)))
 obtain⟨I,fr,h⟩:=bOs h
 refine iK 3 1 ?_
 refine bo (fun(s:(Int × (List Int))) L tm=>∃(op:Nat→Value) (a:Option Addr) (i:Nat) (S:Nat) (k:Nat),S=s.2.length∧L=[aj b1 25 [.slice Aa p0.fNo.length ca,.slice Ab p0.fC.length cb],aj b2 26 [.slice u p3.length d],mapV Tryz.prog 3 kI cX kB false (ξ3 4 0).2.1 y8,aj (ξ3 5 0).2.1 94 [.map (some (ξ3 4 0).2.1)],aj k 3 [vI s.1],be a i 3 1 S (encL cI s.2)]∧tm=(upd (upd (upd (upd (upd (upd (upd op 1 (.slice Ac p1.length cc)) 4 (.pointer (some ⟨b1,0,none⟩))) 7 (.pointer (some ⟨b2,0,none⟩))) 8 (.slice none 0 0)) 9 (.pointer (some ⟨(ξ3 5 0).2.1,0,none⟩))) 10 (.slice a S i)) 11 (.pointer (some ⟨k,0,none⟩)))) 0 fr ⟨_,none,0,0,oq,O,O,(kp4 (kp (kp (kp O))))⟩ ?_ ?_
 ·rintro Q L tm st ⟨fd,q,l,g3,G,rfl,rfl,rfl⟩ h
  unfold gV at h
  refine cS (cS (cR ?_))
  try dsimp only[lna,lca,lsz,lss]
  refine oY O (yMS O) (oY O (yL 4 bW O O O) ?_)
  obtain⟨om,fE,h⟩:=bOs h
  refine oY O (yC [.slice Ac p1.length cc,vI Q.1] go_80 O (fun W2 f=>bE p1 Q.1 om fE W2 Ac p1.length cc O ((RdL.arg V) W2 f)) O) (oY O (fa O) (oN (aa ?_)))
  rcases iOs h with⟨R,h⟩|⟨R,h⟩
  ·refine cT (vB R) (cK (aa (cS (ae (cS (cR (oY O (yFA bp O) (oY O (yL 0 eZ O O O) (oY O (fQ [.pointer (some ⟨b2,0,none⟩),.pointer (some ⟨b1,0,none⟩),.pointer (some ⟨G,0,none⟩),.pointer (some ⟨(ξ3 5 0).2.1,0,none⟩)] O O) ?_)))))))))
   obtain⟨g,fN,h⟩:=bOs h
   refine oY O (yC [.slice Ab p0.fC.length cb,.func (.func 140) #[] #[.pointer (some ⟨b2,0,none⟩),.pointer (some ⟨b1,0,none⟩),.pointer (some ⟨G,0,none⟩),.pointer (some ⟨(ξ3 5 0).2.1,0,none⟩)]] go_139 O (fun W2 f=>fp p0.fC (fun ot=>gx ot p3 p0 Q.1 y8) g fN W2 Ab p0.fC.length cb o O ((RdL.arg F) W2 f) (NestL.at (NestL.arg r) W2 f) 140 [] [.pointer (some ⟨b2,0,none⟩),.pointer (some ⟨b1,0,none⟩),.pointer (some ⟨G,0,none⟩),.pointer (some ⟨(ξ3 5 0).2.1,0,none⟩)] go_140 (fun W3 hb x hx rx y hxy=>pR  x p3 p0 Q.1 y8 y hxy W3 hx.1 _ hx.2.2 O rx b2 u p3.length d O (((RdL.arg H) W2 f).later hb) (((RdL.cells 1 O) W2 f).later hb) b1 Aa p0.fNo.length ca O (((RdL.arg X) W2 f).later hb) Ab p0.fC.length cb o O (((RdL.arg F) W2 f).later hb) ((NestL.at (NestL.arg r) W2 f).later hb) (((RdL.cells 0 O) W2 f).later hb) G (((RdL.cells 4 O) W2 f).later hb) (ξ3 5 0).2.1 (ξ3 4 0).2.1 (mapV.later ((MpL.own 2 O) W2 f) hb) (((RdL.cells 3 O) W2 f).later hb))) O) (oY O (yAI O) (oN (aa (cS (cR (oY O (yMS O) (oY O (yFA bp O) (oY O (yL 0 eZ O O O) (oY O (yMI O) ?_)))))))))
   obtain⟨K,h⟩:=gOs h
   refine oY O (yI kx (by decide) K.1 K.2 (RdL.arg F) (eL ad (NestP.hn r.p O)) O O) ?_
   refine oY O (yFR (A:=Ab) (j:=(Int.toNat g*2)) kk O) (oY O (yR (A:=Ab) (j:=((Int.toNat g*2)+0)) (v:=vI ((rdL p0.fC g).fID)) bW (RdL.arg F) O (eG ad K.1 (av K.2 (NestP.hn r.p O)) (congrArg (fun z:TC=>some (Value.int .i64 z.fID)) (NestP.snd r.p g)))) ?_)
   refine az 1 (encL cI [(rdL p0.fC g).fID]) _ go bj j7 kY (by decide) (by decide) (by kernel_rfl) (eL ax O) O (fun r4=>?_)
   try dsimp only[lna,lca,lsz,lss]
   obtain⟨fn,h⟩:=gOs h
   refine cr 5 bj j7 kY O O O (RdL.row 6 O) (eL ax O) (eA mj _) (eF fn (by decide)) O (fun oa oi=>?_)
   refine oY O (yAS O) (oN (aa ?_))
   refine bl 13 di (by kernel_rfl) (by kernel_rfl) ?_
   refine qY O (yFA bp O) (qY O (yL 0 eZ O O O) (qY O (yMI O) ?_))
   obtain⟨E,h⟩:=gOs h
   refine qY O (yI kx (by decide) E.1 E.2 (RdL.arg F) (eL ad (NestP.hn r.p O)) O O) ?_
   refine qY O (yFR (A:=Ab) (j:=(Int.toNat g*2)) db O) (qY O (yR (A:=Ab) (j:=((Int.toNat g*2)+1)) (v:=.slice ((rdL o g).1.1) ((rdL p0.fC g).fO.length) ((rdL o g).1.2.2)) kd (RdL.arg F) O (eG ad E.1 (av E.2 (NestP.hn r.p O)) (congrArg (fun n:Nat=>some (Value.slice (rdL o g).1.1 n (rdL o g).1.2.2)) (NestP.len r.p E.1 (av E.2 O))))) (qY O (yL 1 fk O O O) (qY O (yMI O) ?_)))
   obtain⟨M,h⟩:=gOs h
   refine qY O (yI dC (by decide) M.1 M.2 (RdL.arg H) (eL ax O) O O) ?_
   refine qY O (yR (A:=u) (j:=(Int.toNat g*1)) (v:=vI (rdL p3 g)) bW (RdL.arg H) O (aG ax M.1 (av M.2 O) O)) ?_
   obtain⟨N,h⟩:=gOs h
   refine qY O (yI nF (by decide) N.1 N.2 (NestL.rd (NestL.arg r) E.1 (av E.2 O)) (eL aA O) O O) ?_
   refine qY O (yFR (A:=((rdL o g).1.1)) (j:=(Int.toNat (rdL p3 g)*2)) iX O) (qY O (yR (A:=((rdL o g).1.1)) (j:=((Int.toNat (rdL p3 g)*2)+0)) (v:=vI ((rdL ((rdL p0.fC g).fO) (rdL p3 g)).fFrom)) bW (NestL.rd (NestL.arg r) E.1 (av E.2 O)) O (eG aA N.1 (av N.2 O) O)) (dq (d9 O (cL 4 (v:=vI ((rdL ((rdL p0.fC g).fO) (rdL p3 g)).fFrom)) rI O (Nat.lt_of_lt_of_le (Nat.lt_succ_self _) (nB O)) O O O) (oN (au (aa (cS (cR (oY O (yL 4 bW O O O) (oN (aa (cR ?_))))))))))))
   refine aT j7 O (fun oj=>?_)
   try dsimp only[lna,lca,lsz,lss]
   refine d9 O (cL 7 (v:=vI ((rdL ((rdL p0.fC g).fO) (rdL p3 g)).fFrom)) rI O (Nat.lt_of_lt_of_le (Nat.lt_succ_self _) (nB O)) O O O) (oN ?_)
   refine ex_mv 4 7 (by decide) O ?_
   try dsimp only[lsz,lss]
   refine aX 6 ?_
   obtain rfl:=sI h
   exact eN ⟨_,oa,oi,(Q.2.length+1),oj,(lH O O),O,(kp4 (kp (kp (kp O))))⟩
  ·refine cF (vB R) (aJ (ak ?_))
   obtain rfl:=sI h
   exact aC ⟨O,_,q,l,Q.2.length,G,O,O,(kp4 (kp (kp (kp O))))⟩
 ·intro e L tm hJ
  obtain⟨rfl,fl,w,D,gf,t,rfl,rfl,rfl⟩:=hJ
  refine⟨(by intro hc;cases hc),?_⟩
  refine ai (aa (cS (cR ?_)))
  try dsimp only[lna,lca,lsz,lss]
  refine oY O (yMS O) ?_
  obtain⟨f4,g1,h⟩:=bOs h
  refine kE 5 [.slice w I.2.length D] (fun(_:Unit)=>I.2.length=f4.length) (fun _=>.tuple #[]) (fun _=>be w D 3 1 I.2.length (encL cI f4)) (fun _=>[]) O O go_141 O (fun W2 f=>(ma I.2 f4 g1 W2 _ (na [aj b1 25 [.slice Aa p0.fNo.length ca,.slice Ab p0.fC.length cb],aj b2 26 [.slice u p3.length d],mapV Tryz.prog 3 kI cX kB false (ξ3 4 0).2.1 y8,aj (ξ3 5 0).2.1 94 [.map (some (ξ3 4 0).2.1)],aj t 3 [vI I.1],be w D 3 1 I.2.length (encL cI I.2)] [5]) w I.2.length D O f).mono (fun e W3 h3=>⟨(),h3.2.1,h3.1,h3.2.2⟩)) ?_
  rintro-g2
  try dsimp only[lsz,lss,List.append_nil]
  refine oN (aa (cS (cR (oY O (yMS O) (oY O (yAS O) (oN (aa (aq ?_))))))))
  obtain rfl:=sI h
  exact ao (.inl O) O (rVt (v:=.slice w I.2.length D) O) (fun W2 f=>⟨(w,I.2.length,D),g2,O,(f.pick 5 O)⟩)
theorem sn (p0:TL) (p1:(List Int)) (p2:Int) (res:(TTrace × Int)) (h:ik p0 p1 p2=some res) (W:World) (Aa:Option Addr) (D ca:Nat) (Q:D=p0.fNo.length) (o:Rd W Aa D ca (encL TNode_cells p0.fNo)) (Ab:Option Addr) (E cb:Nat) (g:List (Hd × TC)) (U:E=p0.fC.length) (r:Rd W Ab E cb (encL TClaim_cells2 g)) (u:NestW W (fun z:TC=>z.fO) THop_cells g p0.fC) (Ac:Option Addr) (F cc:Nat) (X:F=p1.length) (d:Rd W Ac F cc (encL cI p1)) :
  Calls Tryz.prog 42 [.agg #[.slice Aa D ca,.slice Ab E cb],.slice Ac F cc,vI p2].toArray W fun e W2=>∃x:((Option Addr × Nat × Nat) × (Option Addr × Nat × Nat)),(x.1.2.1=res.1.fCase.length∧x.2.2.1=res.1.fC.length)∧e=.returned (.tuple #[.agg #[.slice x.1.1 x.1.2.1 x.1.2.2,.slice x.2.1 x.2.2.1 x.2.2.2],vI res.2])∧Ext W W2 [be x.1.1 x.1.2.2 3 1 x.1.2.1 (encL cI res.1.fCase),be x.2.1 x.2.2.2 3 1 x.2.2.1 (encL cI res.1.fC)]:=by
 subst Q
 subst U
 subst X
 unfold ik at h
 refine ah (m:=36) Tryz.func42 O O (nB O) (cS (cR ?_))
 refine aO [.slice Aa p0.fNo.length ca,.slice Ab p0.fC.length cb] O O O (fun l=>?_)
 refine aT rE O (fun t=>?_)
 refine oY O (yAI O) (oN (aa (cS (cS (cR (oY O (yN 0 [.slice Aa p0.fNo.length ca,.slice Ab p0.fC.length cb] aR O O O) (oY O (yMS O) (oY O (yMI O) ?_))))))))
 obtain⟨n,S,h⟩:=bOs h
 refine oY O (yC [.agg #[.slice Aa p0.fNo.length ca,.slice Ab p0.fC.length cb],.slice Ac p1.length cc,vI p2] go_74 O (fun W2 f=>dN p0 p1 p2 n S W2 Aa p0.fNo.length ca O ((RdL.arg o) W2 f) Ab p0.fC.length cb g O ((RdL.arg r) W2 f) (NestL.at (NestL.arg u) W2 f) Ac p1.length cc O ((RdL.arg d) W2 f)) O) (oY O (yAI O) (oN (aa (cS (cR (oY O (yMI O) (oY O (ft O O) (oN (aa ?_)))))))))
 rcases iOs h with⟨Y,h⟩|⟨Y,h⟩
 ·refine cT (vB Y) (cS (cR ?_))
  refine oY O (cf [.slice none 0 0,.slice none 0 0] [(0,1),(1,1)] ust_64 rE (by kernel_rfl)) ?_
  refine oY O (yMI O) (d9 O (yS 1 [.slice none 0 0,.slice none 0 0] ro O (nB O) O O O) (oY O (yAI O) (oN (aa (aq (ab ?_))))))
  obtain rfl:=sI h
  exact dA (.inl O) O (dL 1 [.slice none 0 0,.slice none 0 0] kM O O O) (rVt (v:=vI n) O) (fun W2 f=>⟨((none,0,0),(none,0,0)),⟨O,O⟩,O,((f.nilrow 3 1).nilrow 3 1).pickL [2,3] (by decide) O⟩)
 ·refine cF (vB Y) (cK (aa (cS (cR (oY O (yN 0 [.slice Aa p0.fNo.length ca,.slice Ab p0.fC.length cb] aR O O O) (oY O (yMS O) (oY O (yMI O) ?_)))))))
  obtain⟨K,R,h⟩:=bOs h
  refine oC [.agg #[.slice Aa p0.fNo.length ca,.slice Ab p0.fC.length cb],.slice Ac p1.length cc,vI p2,.bool true] _ _ _ O go_103 O (fun W2 f=>rA p0 p1 p2 true K R W2 Aa p0.fNo.length ca O ((RdL.arg o) W2 f) Ab p0.fC.length cb g O ((RdL.arg r) W2 f) (NestL.at (NestL.arg u) W2 f) Ac p1.length cc O ((RdL.arg d) W2 f)) ?_
  rintro⟨Z,q,V⟩ G
  replace G:q=K.1.length:=G;subst G
  refine oY O (bD O) (oY O (yE O O) (oY O (yE O O) (oY O (yAS O) (oY O (yAB O) (oN (aa (cS (cS (cR (oY O (yMB O) (oY O (fa O) (oN (aa ?_)))))))))))))
  rcases iOs h with⟨H,h⟩|⟨H,h⟩
  ·refine cT (vB H) (cS (cR ?_))
   refine oY O (cf [.slice none 0 0,.slice none 0 0] [(0,1),(1,1)] ust_64 rE (by kernel_rfl)) ?_
   refine d9 O (yS 1 [.slice none 0 0,.slice none 0 0] ro O (nB O) O O O) (oY O (yAI O) (oN (aa (aq (ab ?_)))))
   obtain rfl:=sI h
   exact dA (.inl O) O (dL 1 [.slice none 0 0,.slice none 0 0] kM O O O) (rVt (v:=vI 5) O) (fun W2 f=>⟨((none,0,0),(none,0,0)),⟨O,O⟩,O,((f.nilrow 3 1).nilrow 3 1).pickL [3,4] (by decide) O⟩)
  ·refine cF (vB H) (cK (aa (cS (cR (oY O (yMS O) (oY O (yN 0 [.slice Aa p0.fNo.length ca,.slice Ab p0.fC.length cb] aR O O O) (oY O (yMS O) (oY O (yMI O) (oY O (yMS O) ?_)))))))))
   obtain⟨w,T,h⟩:=bOs h
   refine oC [.agg #[.slice Aa p0.fNo.length ca,.slice Ab p0.fC.length cb],.slice Ac p1.length cc,vI p2,.slice Z K.1.length V] _ _ _ O go_104 O (fun W2 f=>rO p0 p1 p2 K.1 w T W2 Aa p0.fNo.length ca O ((RdL.arg o) W2 f) Ab p0.fC.length cb g O ((RdL.arg r) W2 f) (NestL.at (NestL.arg u) W2 f) Ac p1.length cc O ((RdL.arg d) W2 f) Z K.1.length V O ((RdL.row 2 O) W2 f)) ?_
   rintro⟨M,p,N⟩ I
   replace I:p=w.length:=I;subst I
   refine oY O (cf [.slice Z K.1.length V,.slice M w.length N] [(0,1),(1,1)] ust_64 rE (by kernel_rfl)) ?_
   refine d9 O (yS 1 [.slice Z K.1.length V,.slice M w.length N] ro O (nB O) O O O) (oY O (yAI O) (oN (aa (aq ?_))))
   obtain rfl:=sI h
   exact dA (.inl O) O (dL 1 [.slice Z K.1.length V,.slice M w.length N] kM O O O) (rVt (v:=vI 0) O) (fun W2 f=>⟨((Z,K.1.length,V),(M,w.length,N)),⟨O,O⟩,O,f.pickL [2,3] (by decide) O⟩)
theorem q7 (p0:TL) (p1:(List Int)) (p2:Int) (p3:TTrace) (res:Bool) (h:jP p0 p1 p2 p3=some res) (W:World) (Aa:Option Addr) (T ca:Nat) (c:T=p0.fNo.length) (S:Rd W Aa T ca (encL TNode_cells p0.fNo)) (Ab:Option Addr) (R cb:Nat) (D:List (Hd × TC)) (f0:R=p0.fC.length) (N:Rd W Ab R cb (encL TClaim_cells2 D)) (H:NestW W (fun z:TC=>z.fO) THop_cells D p0.fC) (Ac:Option Addr) (q cc:Nat) (f1:q=p1.length) (l:Rd W Ac q cc (encL cI p1)) (K:Option Addr) (t M:Nat) (f2:t=p3.fCase.length) (X:Rd W K t M (encL cI p3.fCase)) (E:Option Addr) (a F:Nat) (f3:a=p3.fC.length) (Q:Rd W E a F (encL cI p3.fC)) :
  Calls Tryz.prog 106 [.agg #[.slice Aa T ca,.slice Ab R cb],.slice Ac q cc,vI p2,.agg #[.slice K t M,.slice E a F]].toArray W fun e W2=>e=.returned (.bool res)∧Ext W W2 []:=by
 subst c
 subst f0
 subst f1
 subst f2
 subst f3
 unfold jP at h
 refine ah (m:=85) Tryz.func106 O O (nB O) (cS (cR ?_))
 refine aO [.slice Aa p0.fNo.length ca,.slice Ab p0.fC.length cb] O O O (fun b1=>?_)
 refine aO [.slice K p3.fCase.length M,.slice E p3.fC.length F] O O O (fun b2=>?_)
 refine oY O (yAB O) (oN (aa (cS (cS (cR (oY O (yN 0 [.slice Aa p0.fNo.length ca,.slice Ab p0.fC.length cb] aR O O O) (oY O (yFA lG O) (oY O (yL 1 fk O O O) ?_))))))))
 obtain⟨y3,o0,h⟩:=bOs h
 refine oY O (yC [.agg #[.slice Aa p0.fNo.length ca,.slice Ab p0.fC.length cb],.slice K p3.fCase.length M] go_100 O (fun W2 r=>pY p0 p3.fCase y3 o0 W2 Aa p0.fNo.length ca O ((RdL.arg S) W2 r) Ab p0.fC.length cb D O ((RdL.arg N) W2 r) (NestL.at (NestL.arg H) W2 r) K p3.fCase.length M O ((RdL.arg X) W2 r)) O) (oY O (fa O) (oN (aa ?_)))
 rcases iOs h with⟨f4,h⟩|⟨f4,h⟩
 ·refine cT (vB f4) (cS (cR (oY O (yAB O) (oN (aa (aq (ab ?_)))))))
  obtain rfl:=sI h
  exact ao (.inl O) O (rVt (v:=.bool false) O) (fun W2 r=>⟨O,r.none⟩)
 ·refine cF (vB f4) (cK (aa (cS (cS (cR (oY O (yFA gc O) (oY O (yL 1 fk O O O) (oY O (a8 (us:=[]) bj O) (oY O (ge O O) (oN (aa ?_)))))))))))
  rcases iOs h with⟨f9,h⟩|⟨f9,h⟩
  ·refine cT (vB f9) (cS (cR (oY O (yMS O) (oY O (yMI O) ?_))))
   obtain⟨y7,o1,h⟩:=bOs h
   refine oY O (yC [.slice Ac p1.length cc,vI p2] go_80 O (fun W2 r=>bE p1 p2 y7 o1 W2 Ac p1.length cc O ((RdL.arg l) W2 r)) O) (oY O (yAB O) (oN (aa (aq (ab ?_)))))
   obtain rfl:=sI h
   exact ao (.inl O) O (rVt (v:=.bool y7) O) (fun W2 r=>⟨O,r.none⟩)
  ·refine cF (vB f9) (cK (aa (cS (cR (oY O (yAI O) (oN (aa (cS (cS (cR (oY O (yFA gc O) (oY O (yL 1 fk O O O) (oY O (a8 (us:=[]) bj O) (oY O (yMI O) (oN (aa (ae ?_)))))))))))))))))
   obtain⟨oq,fN,h⟩:=bOs h
   refine cC (fun(s:(Bool × Int × Int)) L tm=>∃(I:Nat→Value),L=[aj b1 25 [.slice Aa p0.fNo.length ca,.slice Ab p0.fC.length cb],aj b2 64 [.slice K p3.fCase.length M,.slice E p3.fC.length F]]∧tm=(upd (upd (upd (upd (upd (upd (upd (upd (upd I 1 (.slice Ac p1.length cc)) 2 (vI p2)) 4 (.pointer (some ⟨b1,0,none⟩))) 7 (.pointer (some ⟨b2,0,none⟩))) 8 (.bool s.1)) 9 (vI s.2.1)) 27 (.slice E p3.fC.length F)) 28 (vI (p3.fC.length:Int))) 29 (vI s.2.2))) 0 fN ⟨_,O,(kp4 (kp4 (kp O)))⟩ ?_ ?_
   ·rintro f L tm st ⟨fn,rfl,rfl⟩ h
    unfold fg at h
    refine cS (cR (oY O (bN O O) (oN (aa (cS ?_)))))
    rcases iOs h with⟨i,h⟩|⟨i,h⟩
    ·refine cT (vB i) (cK (aa (cS (ae (cS (cR (oY O (yMI O) ?_)))))))
     obtain⟨Y,h⟩:=gOs h
     refine oY O (yI dC (by decide) Y.1 Y.2 (RdL.arg Q) (eL ax O) O O) ?_
     refine oY O (yR (A:=E) (j:=(Int.toNat f.2.2*1)) (v:=vI (rdL p3.fC f.2.2)) bW (RdL.arg Q) O (aG ax Y.1 (av Y.2 O) O)) (oY O (yAI O) (oY O (yAI O) (oN (aa (cS (cR (oY O (yN 0 [.slice Aa p0.fNo.length ca,.slice Ab p0.fC.length cb] aR O O O) (oY O (yMI O) ?_))))))))
     obtain⟨g,fl,h⟩:=bOs h
     refine oY O (yC [.agg #[.slice Aa p0.fNo.length ca,.slice Ab p0.fC.length cb],vI (rdL p3.fC f.2.2)] go_114 O (fun W2 r=>ke p0 (rdL p3.fC f.2.2) g fl W2 Aa p0.fNo.length ca O ((RdL.arg S) W2 r) Ab p0.fC.length cb D O ((RdL.arg N) W2 r) (NestL.at (NestL.arg H) W2 r)) O) (oY O (yAI O) (oN (aa (cS (cS (cR (oY O (yMI O) (oY O (bN O O) (oY O (yMB O) ?_)))))))))
     obtain⟨y,g1,h⟩:=bOs h
     refine oJ 7 (fun I=>(upd (upd (upd (upd (upd (upd (upd (upd (upd (upd (upd (upd (upd (upd I 1 (.slice Ac p1.length cc)) 2 (vI p2)) 4 (.pointer (some ⟨b1,0,none⟩))) 7 (.pointer (some ⟨b2,0,none⟩))) 8 (.bool f.1)) 9 (vI f.2.1)) 27 (.slice E p3.fC.length F)) 28 (vI (p3.fC.length:Int))) 29 (vI f.2.2)) 30 (.bool (decide (f.2.2<(p3.fC.length:Int))))) 10 (vI f.2.2)) 11 (vI (rdL p3.fC f.2.2))) 12 (vI g)) 46 (.bool y))) (fun I=>?_) (fun key=>?_)
     ·refine oN (aa ?_)
      rcases iOs h with⟨k,h⟩|⟨k,h⟩
      ·refine cT (vB k) (cS (cR (oY O (yAB O) (oN (aa (aq (ab (al (ab ?_)))))))))
       obtain rfl:=sI h
       exact aC ⟨O,_,O,(kp4 (kp4 (kp O)))⟩
      ·refine cF (vB k) (cK (aa (cS ?_)))
       refine oQ 13 di (by kernel_rfl) (by kernel_rfl) (by kernel_rfl) ?_
       refine kD O (fun _=>yFA bp O) (kD O (fun _=>yL 0 (v:=.slice Ab p0.fC.length cb) eZ O O O) (kD O (fun _=>yMI O) ?_))
       obtain⟨G,h⟩:=gOs h
       refine kD O (fun _=>yI kx (by decide) G.1 G.2 (RdL.arg N) (eL ad (NestP.hn H.p O)) O O) ?_
       refine kD O (fun _=>yFR (A:=Ab) (j:=(Int.toNat g*2)) db O) (kD O (fun _=>yR (A:=Ab) (j:=((Int.toNat g*2)+1)) (v:=.slice ((rdL D g).1.1) ((rdL p0.fC g).fO.length) ((rdL D g).1.2.2)) kd (RdL.arg N) O (eG ad G.1 (av G.2 (NestP.hn H.p O)) (congrArg (fun n:Nat=>some (Value.slice (rdL D g).1.1 n (rdL D g).1.2.2)) (NestP.len H.p G.1 (av G.2 O))))) (kD O (fun _=>yFA lG O) (kD O (fun _=>yL 1 (v:=.slice K p3.fCase.length M) fk O O O) (kD O (fun _=>yMI O) ?_))))
       obtain⟨Z,h⟩:=gOs h
       refine kD O (fun _=>yI dC (by decide) Z.1 Z.2 (RdL.arg X) (eL ax O) O O) ?_
       refine kD O (fun _=>yR (A:=K) (j:=(Int.toNat g*1)) (v:=vI (rdL p3.fCase g)) bW (RdL.arg X) O (aG ax Z.1 (av Z.2 O) O)) ?_
       obtain⟨V,h⟩:=gOs h
       refine kD O (fun _=>yI nF (by decide) V.1 V.2 (NestL.rd (NestL.arg H) G.1 (av G.2 O)) (eL aA O) O O) ?_
       refine kD O (fun _=>yM (A:=((rdL D g).1.1)) (j:=(Int.toNat (rdL p3.fCase g)*2)) [vI ((rdL ((rdL p0.fC g).fO) (rdL p3.fCase g)).fFrom),vI ((rdL ((rdL p0.fC g).fO) (rdL p3.fCase g)).fTo)] mN (Nat.succ_pos _) (NestL.rd (NestL.arg H) G.1 (av G.2 O)) O (bR aA V.1 (av V.2 O))) ?_
       refine ax_nil O jd (fun fr=>?_)
       refine d9 O (yS 2 [vI ((rdL ((rdL p0.fC g).fO) (rdL p3.fCase g)).fFrom),vI ((rdL ((rdL p0.fC g).fO) (rdL p3.fCase g)).fTo)] se O (nB O) O O O) (oN (kQ (aa (cS (cS (cR (oY O (yMI O) (oY O (ge O O) (oY O (yMB O) ?_)))))))))
       obtain⟨b,g2,h⟩:=bOs h
       refine oJ 6 (fun I=>(upd (upd (upd (upd (upd (upd (upd (upd (upd (upd (upd (upd (upd (upd (upd (upd I 1 (.slice Ac p1.length cc)) 2 (vI p2)) 4 (.pointer (some ⟨b1,0,none⟩))) 7 (.pointer (some ⟨b2,0,none⟩))) 8 (.bool f.1)) 9 (vI f.2.1)) 27 (.slice E p3.fC.length F)) 28 (vI (p3.fC.length:Int))) 29 (vI f.2.2)) 30 (.bool (decide (f.2.2<(p3.fC.length:Int))))) 10 (vI f.2.2)) 11 (vI (rdL p3.fC f.2.2))) 12 (vI g)) 46 (.bool y)) 13 (.pointer (some ⟨fr,0,none⟩))) 68 (.bool b))) (fun I=>?_) (fun key=>?_)
       ·refine oY O (yMB O) ?_
        refine oJ 9 (fun I=>(upd (upd (upd (upd (upd (upd (upd (upd (upd (upd (upd (upd (upd (upd (upd (upd I 1 (.slice Ac p1.length cc)) 2 (vI p2)) 4 (.pointer (some ⟨b1,0,none⟩))) 7 (.pointer (some ⟨b2,0,none⟩))) 8 (.bool f.1)) 9 (vI f.2.1)) 27 (.slice E p3.fC.length F)) 28 (vI (p3.fC.length:Int))) 29 (vI f.2.2)) 30 (.bool (decide (f.2.2<(p3.fC.length:Int))))) 10 (vI f.2.2)) 11 (vI (rdL p3.fC f.2.2))) 12 (vI g)) 46 (.bool y)) 13 (.pointer (some ⟨fr,0,none⟩))) 78 (.bool (b||((decide (0<f.2.2))&&(((rdL ((rdL p0.fC g).fO) (rdL p3.fCase g)).fFrom) !=f.2.1)))))) (fun I=>?_) (fun key=>?_)
        ·refine oN (aa ?_)
         rcases iOs h with⟨x,h⟩|⟨x,h⟩
         ·refine cT (vB x) (cS (cR (oY O (yAB O) (oN (aa (aq (ab (al (ab (aX 2 ?_))))))))))
          obtain rfl:=sI h
          exact aC ⟨O,_,O,(kp4 (kp4 (kp O)))⟩
         ·refine cF (vB x) (cK (aa (cR (oY O (yFA lO O) (oY O (yL 2 bW O O O) (oY O (yAI O) (oN (au (aa (cR (oY O (bF O O) (oY O (yMI O) (oN (aX 2 ?_))))))))))))))
          obtain rfl:=sI h
          exact eN ⟨_,O,(kp4 (kp4 (kp O)))⟩
        ·rcases aD b with u|u
         ·refine oSk (sF O O O O u) (oSk (sF O O O O u) (oSk (sF O O O O u) (oSk O (oSk O (oSk O (oSk O (oSk (sF O O O O u) (oY O (ar (vB u) O) ?_))))))))
          exact key _ _ (keep (keep (keep (keep (keep (keep (keep (keep (keep (keep (keep (keep (keep (keep (keep (keep O O) O) O) O) O) O) O) O) O) O) O) O) O) O) O) (vB (pH u)))
         ·refine oY (sT O O O O u) (yMI O) (oY (sT O O O O u) (i8 O O) (oY (sT O O O O u) (yMB O) ?_))
          refine oJ 5 (fun I=>(upd (upd (upd (upd (upd (upd (upd (upd (upd (upd (upd (upd (upd (upd (upd (upd (upd I 1 (.slice Ac p1.length cc)) 2 (vI p2)) 4 (.pointer (some ⟨b1,0,none⟩))) 7 (.pointer (some ⟨b2,0,none⟩))) 8 (.bool f.1)) 9 (vI f.2.1)) 27 (.slice E p3.fC.length F)) 28 (vI (p3.fC.length:Int))) 29 (vI f.2.2)) 30 (.bool (decide (f.2.2<(p3.fC.length:Int))))) 10 (vI f.2.2)) 11 (vI (rdL p3.fC f.2.2))) 12 (vI g)) 46 (.bool y)) 13 (.pointer (some ⟨fr,0,none⟩))) 69 (.bool b)) 77 (.bool ((decide (0<f.2.2))&&(((rdL ((rdL p0.fC g).fO) (rdL p3.fCase g)).fFrom) !=f.2.1))))) (fun I=>?_) (fun key=>?_)
          ·refine oY O (ap (vB u) O) ?_
           exact key _ _ (keep (keep (keep (keep (keep (keep (keep (keep (keep (keep (keep (keep (keep (keep (keep (keep O O) O) O) O) O) O) O) O) O) O) O) O) O) O) O) (vB (pL u)))
          ·rcases aD (decide (0<f.2.2))with d|d
           ·refine oY (sT O O O O d) (yFA iX O) (oY (sT O O O O d) (yL 2 bW O O O) (oY (sT O O O O d) (yMI O) (oY (sT O O O O d) (ft O O) (oY (sT O O O O u) (ar (vB d) O) ?_))))
            exact key _ _ (keep (keep (keep (keep (keep (keep (keep (keep (keep (keep (keep (keep (keep (keep (keep (keep (keep O O) O) O) O) O) O) O) O) O) O) O) O) O) O) O) O) (vB (mq d)))
           ·refine oSk (sF O O O O d) (oSk (sF O O O O d) (oSk (sF O O O O d) (oSk (sF O O O O d) (oY (sT O O O O u) (ap (vB d) O) ?_))))
            exact key _ _ (keep (keep (keep (keep (keep (keep (keep (keep (keep (keep (keep (keep (keep (keep (keep (keep (keep O O) O) O) O) O) O) O) O) O) O) O) O) O) O) O) O) (vB (mb d)))
       ·clear h;rcases iOs g2 with⟨w,h⟩|⟨w,h⟩
        ·refine oY (sT O O O O w) (yMS O) (oY (sT O O O O w) (yFA iX O) (oY (sT O O O O w) (yL 2 bW O O O) ?_))
         obtain⟨op,g3,h⟩:=bOs h
         refine oY (sT O O O O w) (yC [.slice Ac p1.length cc,vI ((rdL ((rdL p0.fC g).fO) (rdL p3.fCase g)).fFrom)] go_80 O (fun W2 r=>bE p1 ((rdL ((rdL p0.fC g).fO) (rdL p3.fCase g)).fFrom) op g3 W2 Ac p1.length cc O ((RdL.arg l) W2 r)) O) (oY (sT O O O O w) (fa O) (oY O (ar (vB w) O) ?_))
         obtain rfl:=sI h
         exact key _ _ (kp4 (kp4 (kp4 (kp4 O))))
        ·refine oSk (sF O O O O w) (oSk (sF O O O O w) (oSk (sF O O O O w) (oSk (sF O O O O w) (oSk (sF O O O O w) (oY O (ap (vB w) O) ?_)))))
         obtain rfl:=sI h
         exact key _ _ (kp4 (kp4 (kp4 (kp4 O))))
     ·clear h;rcases iOs g1 with⟨o,h⟩|⟨o,h⟩
      ·refine oSk (sF O O O O o) (oSk (sF O O O O o) (oSk (sF O O O O o) (oSk (sF O O O O o) (oSk (sF O O O O o) (oSk (sF O O O O o) (oY O (ar (vB o) O) ?_))))))
       obtain rfl:=sI h
       exact key _ _ (kp4 (kp4 (kp4 (kp (kp O)))))
      ·refine oY (sT O O O O o) (yFA gc O) (oY (sT O O O O o) (yL 1 fk O O O) (oY (sT O O O O o) (yMI O) ?_))
       obtain⟨U,h⟩:=gOs h
       refine oY (sT O O O O o) (y_cutH dC U.1 U.2 (RdL.arg Q) O O) (oY (sT O O O O o) (yMI O) ?_)
       obtain⟨om,gf,h⟩:=bOs h
       refine oY (sT O O O O o) (yC [.slice E (Int.toNat f.2.2) F,vI (rdL p3.fC f.2.2)] go_80 O (fun W2 r=>bE (p3.fC.take (Int.toNat f.2.2)) (rdL p3.fC f.2.2) om gf W2 E (Int.toNat f.2.2) F (cutH_len U.2 O) ((RdL.cutH ax (RdL.arg Q) U.1 U.2) W2 r)) O) (oY O (ap (vB o) O) ?_)
       obtain rfl:=sI h
       exact key _ _ (kp4 (kp4 (kp4 (kp (kp O)))))
    ·refine cF (vB i) (aJ (ak ?_))
     obtain rfl:=sI h
     exact aC ⟨O,_,O,(kp4 (kp4 (kp O)))⟩
   ·intro e L tm hJ
    rcases oq with ot|oa
    ·dsimp only at h hJ
     obtain⟨rfl,ga,rfl,rfl⟩:=hJ
     refine⟨(by intro hc;cases hc),?_⟩
     refine al (ab ?_)
     obtain rfl:=sI h
     exact ao (.inl O) O (rVt (v:=.bool ot.1) O) (fun W2 r=>⟨O,r.none⟩)
    ·dsimp only at h hJ
     obtain⟨rfl,gb,rfl,rfl⟩:=hJ
     refine⟨(by intro hc;cases hc),?_⟩
     refine ai (aa (cS (cR (oY O (yMI O) (oY O (yMI O) (oY O (ge O O) (oY O (yAB O) (oN (aa (aq ?_))))))))))
     obtain rfl:=sI h
     exact ao (.inl O) O (rVt (v:=.bool (oa.2.1==p2)) O) (fun W2 r=>⟨O,r.none⟩)
theorem gg (p0:TL) (p1:(List Int)) (p2:Int) (p3:TTrace) (res:Int) (h:bu p0 p1 p2 p3=some res) (W:World) (Aa:Option Addr) (w ca:Nat) (N:w=p0.fNo.length) (D:Rd W Aa w ca (encL TNode_cells p0.fNo)) (Ab:Option Addr) (E cb:Nat) (d:List (Hd × TC)) (Q:E=p0.fC.length) (F:Rd W Ab E cb (encL TClaim_cells2 d)) (G:NestW W (fun z:TC=>z.fO) THop_cells d p0.fC) (Ac:Option Addr) (H cc:Nat) (U:H=p1.length) (I:Rd W Ac H cc (encL cI p1)) (g:Option Addr) (K o:Nat) (X:K=p3.fCase.length) (Y:Rd W g K o (encL cI p3.fCase)) (r:Option Addr) (M u:Nat) (Z:M=p3.fC.length) (V:Rd W r M u (encL cI p3.fC)) :
  Calls Tryz.prog 46 [.agg #[.slice Aa w ca,.slice Ab E cb],.slice Ac H cc,vI p2,.agg #[.slice g K o,.slice r M u]].toArray W fun e W2=>e=.returned (vI res)∧Ext W W2 []:=by
 subst N
 subst Q
 subst U
 subst X
 subst Z
 unfold bu at h
 refine ah (m:=23) Tryz.func46 O O (nB O) (cS (cR ?_))
 refine aO [.slice Aa p0.fNo.length ca,.slice Ab p0.fC.length cb] O O O (fun l=>?_)
 refine aO [.slice g p3.fCase.length o,.slice r p3.fC.length u] O O O (fun t=>?_)
 refine oY O (yAI O) (oN (aa (cS (cS (cR (oY O (yN 0 [.slice Aa p0.fNo.length ca,.slice Ab p0.fC.length cb] aR O O O) (oY O (yMS O) (oY O (yMI O) ?_))))))))
 obtain⟨p,R,h⟩:=bOs h
 refine oY O (yC [.agg #[.slice Aa p0.fNo.length ca,.slice Ab p0.fC.length cb],.slice Ac p1.length cc,vI p2] go_74 O (fun W2 f=>dN p0 p1 p2 p R W2 Aa p0.fNo.length ca O ((RdL.arg D) W2 f) Ab p0.fC.length cb d O ((RdL.arg F) W2 f) (NestL.at (NestL.arg G) W2 f) Ac p1.length cc O ((RdL.arg I) W2 f)) O) (oY O (yAI O) (oN (aa (cS (cR (oY O (yMI O) (oY O (ft O O) (oN (aa ?_)))))))))
 rcases iOs h with⟨T,h⟩|⟨T,h⟩
 ·refine cT (vB T) (cS (cR (oY O (yMI O) (oY O (yAI O) (oN (aa (aq (ab ?_))))))))
  obtain rfl:=sI h
  exact ao (.inl O) O (rVt (v:=vI p) O) (fun W2 f=>⟨O,f.none⟩)
 ·refine cF (vB T) (cK (aa (cS (cS (cR (oY O (yN 0 [.slice Aa p0.fNo.length ca,.slice Ab p0.fC.length cb] aR O O O) (oY O (yMS O) (oY O (yMI O) (oY O (yN 1 [.slice g p3.fCase.length o,.slice r p3.fC.length u] kM O O O) ?_)))))))))
  obtain⟨n,q,h⟩:=bOs h
  refine oY O (yC [.agg #[.slice Aa p0.fNo.length ca,.slice Ab p0.fC.length cb],.slice Ac p1.length cc,vI p2,.agg #[.slice g p3.fCase.length o,.slice r p3.fC.length u]] go_106 O (fun W2 f=>q7 p0 p1 p2 p3 n q W2 Aa p0.fNo.length ca O ((RdL.arg D) W2 f) Ab p0.fC.length cb d O ((RdL.arg F) W2 f) (NestL.at (NestL.arg G) W2 f) Ac p1.length cc O ((RdL.arg I) W2 f) g p3.fCase.length o O ((RdL.arg Y) W2 f) r p3.fC.length u O ((RdL.arg V) W2 f)) O) (oY O (fa O) (oN (aa ?_)))
  rcases iOs h with⟨S,h⟩|⟨S,h⟩
  ·refine cT (vB S) (cS (cR (oY O (yAI O) (oN (aa (aq (ab ?_)))))))
   obtain rfl:=sI h
   exact ao (.inl O) O (rVt (v:=vI 8) O) (fun W2 f=>⟨O,f.none⟩)
  ·refine cF (vB S) (cK (aa (cS (cR (oY O (yAI O) (oN (aa (aq ?_))))))))
   obtain rfl:=sI h
   exact ao (.inl O) O (rVt (v:=vI 0) O) (fun W2 f=>⟨O,f.none⟩)
end Go.Proofs.YtbblpokfbmekfaaGreat
