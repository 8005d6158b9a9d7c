import Derived.Test.YtcleeakjghgbdaaGs
import Derived.Test.YtcleeakjghgbdaaGr
import Derived.Test.YtcleeakjghgbdaaP
import Derived.Test.YtcleeakjghgbdaaProg
set_option maxRecDepth 20000
set_option linter.unusedVariables false
namespace Go.Proofs.Ytcleeakjghgbdaa
def aE (x:TBatch):List Value := [.int .i64 x.fBarrows, .int .i64 x.fSeen.x0, .int .i64 x.fSeen.x1, .int .i64 x.fSeen.x2, .int .i64 x.fKnown.x0.fLo, .int .i64 x.fKnown.x0.fHi, .int .i64 x.fKnown.x1.fLo, .int .i64 x.fKnown.x1.fHi, .int .i64 x.fKnown.x2.fLo, .int .i64 x.fKnown.x2.fHi]
theorem ao (x:TBatch):(aE x).length=10 := rfl
theorem fy (x:TBatch):((aE x).all (·.oneCell'))=true := rfl
def ae (x:TKinds):List Value := [.int .i64 x.x0, .int .i64 x.x1, .int .i64 x.x2]
theorem aB (x:TKinds):(ae x).length=3 := rfl
theorem da (x:TKinds):((ae x).all (·.oneCell'))=true := rfl
def jC (x:TRatio):List Value := [.int .i64 x.fNum, .int .i64 x.fDen]
def bj (x:TSpan):List Value := [.int .i64 x.fLo, .int .i64 x.fHi]
theorem aO (x:TSpan):(bj x).length=2 := rfl
theorem iv (x:TSpan):((bj x).all (·.oneCell'))=true := rfl
def TStep_cells (x:TStep):List Value := [.bool x.fBack, .int .i64 x.fSeen.x0, .int .i64 x.fSeen.x1, .int .i64 x.fSeen.x2]
theorem ax (x:TStep):(TStep_cells x).length=4 := rfl
theorem fF:Try.prog.underlying 23=some (.array 3 3) := by kernel_rfl
theorem eP:bg Try.prog 23=some (.agg #[.int .i64 0, .int .i64 0, .int .i64 0]) := by kernel_rfl
theorem iR:szB Try.prog 3 1=true := by kernel_rfl
theorem eh:strB Try.prog 25 [(0, 1), (1, 1)]=true := by kernel_rfl
theorem dz:bg Try.prog 25=some (.agg #[.int .i64 0, .int .i64 0]) := by kernel_rfl
theorem j2:Try.prog.underlying 26=some (.array 3 25) := by kernel_rfl
theorem ze_26:bg Try.prog 26=some (.agg #[.int .i64 0, .int .i64 0, .int .i64 0, .int .i64 0, .int .i64 0, .int .i64 0]) := by kernel_rfl
theorem eK:szB Try.prog 25 2=true := by kernel_rfl
theorem jI:strB Try.prog 28 [(0, 1), (1, 3), (4, 6)]=true := by kernel_rfl
theorem eV:bg Try.prog 28=some (.agg #[.int .i64 0, .int .i64 0, .int .i64 0, .int .i64 0, .int .i64 0, .int .i64 0, .int .i64 0, .int .i64 0, .int .i64 0, .int .i64 0]) := by kernel_rfl
theorem a6:jS Try.prog 28 10=true := by kernel_rfl
theorem gV:szB Try.prog 28 10=true := by kernel_rfl
theorem iO:cx Try.prog 34=true := by kernel_rfl
theorem jP:cx Try.prog 35=true := by kernel_rfl
theorem hU:Try.prog.underlying 55=some (.slice 3) := by kernel_rfl
theorem kA:kK Try.prog 55=some (3, 1) := by kernel_rfl
theorem az:scB Try.prog 3=true := by kernel_rfl
theorem go_60:cx Try.prog 60=true := by kernel_rfl
theorem lf:cx Try.prog 45=true := by kernel_rfl
theorem cY:kZ Try.prog 23=some (3, 1) := by kernel_rfl
theorem bm:jS Try.prog 23 3=true := by kernel_rfl
theorem go_58:cx Try.prog 58=true := by kernel_rfl
theorem jy:cx Try.prog 37=true := by kernel_rfl
theorem cm:Try.prog.follows .mixedOrders=true := by kernel_rfl
theorem eu:strB Try.prog 49 [(0, 1), (1, 1)]=true := by kernel_rfl
theorem ee:bg Try.prog 49=some (.agg #[.int .i64 0, .int .i64 0]) := by kernel_rfl
theorem dF:jS Try.prog 49 2=true := by kernel_rfl
theorem g0:szB Try.prog 49 2=true := by kernel_rfl
theorem go_36:cx Try.prog 36=true := by kernel_rfl
theorem go_39:cx Try.prog 39=true := by kernel_rfl
theorem go_38:cx Try.prog 38=true := by kernel_rfl
theorem bA:bV Try.prog 28 1=some 1 := by kernel_rfl
theorem d5:bV Try.prog 28 2=some 4 := by kernel_rfl
theorem iS:kZ Try.prog 26=some (3, 2) := by kernel_rfl
theorem dc:bV Try.prog 25 0=some 0 := by kernel_rfl
theorem go_62:cx Try.prog 62=true := by kernel_rfl
theorem cU:bV Try.prog 28 0=some 0 := by kernel_rfl
theorem cz:bV Try.prog 25 1=some 1 := by kernel_rfl
theorem sc_94:scB Try.prog 94=true := by kernel_rfl
theorem sz_94:szB Try.prog 94 1=true := by kernel_rfl
theorem ze_94:bg Try.prog 94=some (.nilFunc) := by kernel_rfl
theorem kF:scB Try.prog 32=true := by kernel_rfl
theorem sz_32:szB Try.prog 32 1=true := by kernel_rfl
theorem iE:jS Try.prog 26 6=true := by kernel_rfl
theorem bL:jS Try.prog 25 2=true := by kernel_rfl
theorem go_63:cx Try.prog 63=true := by kernel_rfl
theorem go_41:cx Try.prog 41=true := by kernel_rfl
theorem ze_32:bg Try.prog 32=some (.int .i64 0) := by kernel_rfl
theorem jQ:scB Try.prog 52=true := by kernel_rfl
theorem sz_52:szB Try.prog 52 1=true := by kernel_rfl
theorem fR:Try.prog.underlying 52=some (.slice 23) := by kernel_rfl
theorem jh:eC Try.prog 23 (.agg #[.int .i64 0, .int .i64 0, .int .i64 0]) 3 24=true := by kernel_rfl
theorem j4:madeCells (.agg #[.int .i64 0, .int .i64 0, .int .i64 0]:Value).cells (1*3) = #[.int .i64 0, .int .i64 0, .int .i64 0] := by kernel_rfl
theorem sz_23:szB Try.prog 23 3=true := by kernel_rfl
theorem go_61:cx Try.prog 61=true := by kernel_rfl
theorem kE:cx Try.prog 27=true := by kernel_rfl
theorem go_40:cx Try.prog 40=true := by kernel_rfl
theorem go_53:cx Try.prog 53=true := by kernel_rfl
theorem cQ:Try.prog.underlying 3=some (.int .i64) := by kernel_rfl
theorem sc_107:scB Try.prog 107=true := by kernel_rfl
theorem lk:Try.prog.underlying 107=some (.map 3 3) := by kernel_rfl
theorem ze_3:bg Try.prog 3=some (.int .i64 0) := by kernel_rfl
theorem by_3:eC Try.prog 3 (.int .i64 0) 1 8=true := by kernel_rfl
theorem sz_107:szB Try.prog 107 1=true := by kernel_rfl
theorem ze_107:bg Try.prog 107=some (.map none) := by kernel_rfl
theorem go_42:cx Try.prog 42=true := by kernel_rfl
theorem go_43:cx Try.prog 43=true := by kernel_rfl
theorem go_44:cx Try.prog 44=true := by kernel_rfl
theorem go_46:cx Try.prog 46=true := by kernel_rfl
theorem iy:bV Try.prog 49 1=some 1 := by kernel_rfl
theorem jw:bV Try.prog 49 0=some 0 := by kernel_rfl
theorem fl_49:flds Try.prog 49=some [(3, 0, true), (3, 1, true)] := by kernel_rfl
theorem eg_49:Try.prog.eqGuardType Try.prog.depth 49=false := by kernel_rfl
theorem go_52:cx Try.prog 52=true := by kernel_rfl
theorem go_64:cx Try.prog 64=true := by kernel_rfl
theorem go_65:cx Try.prog 65=true := by kernel_rfl
theorem go_50:cx Try.prog 50=true := by kernel_rfl
theorem go_47:cx Try.prog 47=true := by kernel_rfl
theorem go_48:cx Try.prog 48=true := by kernel_rfl
theorem sl_52:kK Try.prog 52=some (23, 3) := by kernel_rfl
theorem eg_23:Try.prog.eqGuardType Try.prog.depth 23=false := by kernel_rfl
theorem go_49:cx Try.prog 49=true := by kernel_rfl
theorem go_51:cx Try.prog 51=true := by kernel_rfl
theorem km:strB Try.prog 66 [(0, 1), (1, 1)]=true := by kernel_rfl
theorem j8:bg Try.prog 66=some (.agg #[.int .i64 0, .int .i64 0]) := by kernel_rfl
theorem ls:jS Try.prog 66 2=true := by kernel_rfl
theorem lu:szB Try.prog 66 2=true := by kernel_rfl
theorem jL:Try.prog.underlying 69=some (.slice 25) := by kernel_rfl
theorem lF:kK Try.prog 69=some (25, 2) := by kernel_rfl
theorem d9:Try.prog.underlying 36=some (.slice 28) := by kernel_rfl
theorem iN:kK Try.prog 36=some (28, 10) := by kernel_rfl
theorem go_54:cx Try.prog 54=true := by kernel_rfl
theorem by_25:eC Try.prog 25 (.agg #[.int .i64 0, .int .i64 0]) 2 16=true := by kernel_rfl
theorem mc_25_1:madeCells (.agg #[.int .i64 0, .int .i64 0]:Value).cells (1*2) = #[.int .i64 0, .int .i64 0] := by kernel_rfl
theorem go_56:cx Try.prog 56=true := by kernel_rfl
theorem go_55:cx Try.prog 55=true := by kernel_rfl
theorem go_57:cx Try.prog 57=true := by kernel_rfl
theorem fJ:flds Try.prog 25=some [(3, 0, true), (3, 1, true)] := by kernel_rfl
theorem eg_25:Try.prog.eqGuardType Try.prog.depth 25=false := by kernel_rfl
theorem go_11:cx Try.prog 11=true := by kernel_rfl
theorem go_12:cx Try.prog 12=true := by kernel_rfl
theorem go_13:cx Try.prog 13=true := by kernel_rfl
theorem go_16:cx Try.prog 16=true := by kernel_rfl
theorem go_17:cx Try.prog 17=true := by kernel_rfl
theorem go_18:cx Try.prog 18=true := by kernel_rfl
theorem go_19:cx Try.prog 19=true := by kernel_rfl
theorem go_20:cx Try.prog 20=true := by kernel_rfl
theorem mc_3_4:madeCells (.int .i64 0:Value).cells (4*1) = #[.int .i64 0, .int .i64 0, .int .i64 0, .int .i64 0] := by kernel_rfl
theorem go_21:cx Try.prog 21=true := by kernel_rfl
theorem go_23:cx Try.prog 23=true := by kernel_rfl
theorem go_22:cx Try.prog 22=true := by kernel_rfl
theorem go_24:cx Try.prog 24=true := by kernel_rfl
theorem go_26:cx Try.prog 26=true := by kernel_rfl
theorem fl_66:flds Try.prog 66=some [(3, 0, true), (3, 1, true)] := by kernel_rfl
theorem eg_66:Try.prog.eqGuardType Try.prog.depth 66=false := by kernel_rfl
theorem mc_25_2:madeCells (.agg #[.int .i64 0, .int .i64 0]:Value).cells (2*2) = #[.int .i64 0, .int .i64 0, .int .i64 0, .int .i64 0] := by kernel_rfl
theorem go_25:cx Try.prog 25=true := by kernel_rfl
theorem mc_28_2:madeCells (.agg #[.int .i64 0, .int .i64 0, .int .i64 0, .int .i64 0, .int .i64 0, .int .i64 0, .int .i64 0, .int .i64 0, .int .i64 0, .int .i64 0]:Value).cells (2*10) = #[.int .i64 0, .int .i64 0, .int .i64 0, .int .i64 0, .int .i64 0, .int .i64 0, .int .i64 0, .int .i64 0, .int .i64 0, .int .i64 0, .int .i64 0, .int .i64 0, .int .i64 0, .int .i64 0, .int .i64 0, .int .i64 0, .int .i64 0, .int .i64 0, .int .i64 0, .int .i64 0] := by kernel_rfl
theorem j7:eC Try.prog 28 (.agg #[.int .i64 0, .int .i64 0, .int .i64 0, .int .i64 0, .int .i64 0, .int .i64 0, .int .i64 0, .int .i64 0, .int .i64 0, .int .i64 0]) 10 80=true := by kernel_rfl
theorem mc_23_3:madeCells (.agg #[.int .i64 0, .int .i64 0, .int .i64 0]:Value).cells (3*3) = #[.int .i64 0, .int .i64 0, .int .i64 0, .int .i64 0, .int .i64 0, .int .i64 0, .int .i64 0, .int .i64 0, .int .i64 0] := by kernel_rfl
theorem go_15:cx Try.prog 15=true := by kernel_rfl
theorem go_14:cx Try.prog 14=true := by kernel_rfl
theorem ust_74:strB Try.prog 74 [(0, 10), (10, 1)]=true := by kernel_rfl
theorem ze_74:bg Try.prog 74=some (.agg #[.int .i64 0, .int .i64 0, .int .i64 0, .int .i64 0, .int .i64 0, .int .i64 0, .int .i64 0, .int .i64 0, .int .i64 0, .int .i64 0, .slice none 0 0]) := by kernel_rfl
theorem go_28:cx Try.prog 28=true := by kernel_rfl
theorem go_29:cx Try.prog 29=true := by kernel_rfl
theorem kW:cx Try.prog 30=true := by kernel_rfl
theorem go_31:cx Try.prog 31=true := by kernel_rfl
theorem fL:bV Try.prog 74 1=some 10 := by kernel_rfl
theorem iC:bV Try.prog 74 0=some 0 := by kernel_rfl
theorem go_6:cx Try.prog 6=true := by kernel_rfl
theorem fD:strB Try.prog 41 [(0, 10), (10, 1)]=true := by kernel_rfl
theorem gj:bg Try.prog 41=some (.agg #[.int .i64 0, .int .i64 0, .int .i64 0, .int .i64 0, .int .i64 0, .int .i64 0, .int .i64 0, .int .i64 0, .int .i64 0, .int .i64 0, .int .i64 0]) := by kernel_rfl
theorem ia:jS Try.prog 41 11=true := by kernel_rfl
theorem gG:szB Try.prog 41 11=true := by kernel_rfl
theorem go_59:cx Try.prog 59=true := by kernel_rfl
theorem go_33:cx Try.prog 33=true := by kernel_rfl
theorem go_32:cx Try.prog 32=true := by kernel_rfl
theorem go_4:cx Try.prog 4=true := by kernel_rfl
theorem us_29:Try.prog.underlying 29=some (.slice 38) := by kernel_rfl
theorem upn_31:Try.prog.underlying 31=some (.pointer (Try.prog.pointee 31)) := by kernel_rfl
theorem ub_4:Try.prog.underlying 4=some .bool := by kernel_rfl
theorem iW:kK Try.prog 29=some (38, 4) := by kernel_rfl
theorem lv:bV Try.prog 38 0=some 0 := by kernel_rfl
theorem sc_4:scB Try.prog 4=true := by kernel_rfl
theorem f4:bV Try.prog 38 1=some 1 := by kernel_rfl
theorem go_8:cx Try.prog 8=true := by kernel_rfl
theorem lc:bV Try.prog 41 1=some 10 := by kernel_rfl
theorem lq:bV Try.prog 41 0=some 0 := by kernel_rfl
theorem jk:madeCells (.agg #[.int .i64 0, .int .i64 0, .int .i64 0, .int .i64 0, .int .i64 0, .int .i64 0, .int .i64 0, .int .i64 0, .int .i64 0, .int .i64 0]:Value).cells (1*10) = #[.int .i64 0, .int .i64 0, .int .i64 0, .int .i64 0, .int .i64 0, .int .i64 0, .int .i64 0, .int .i64 0, .int .i64 0, .int .i64 0] := by kernel_rfl
theorem li:cx Try.prog 10=true := by kernel_rfl
theorem lA:flds Try.prog 28=some [(3, 0, true), (23, 1, true), (26, 4, true)] := by kernel_rfl
theorem kV:Try.prog.eqGuardType Try.prog.depth 28=false := by kernel_rfl
theorem go_7:cx Try.prog 7=true := by kernel_rfl
theorem go_9:cx Try.prog 9=true := by kernel_rfl
theorem go_5:cx Try.prog 5=true := by kernel_rfl
theorem ke_3:KeyE Try.prog 3 kI ki := keyE_int cQ
end Go.Proofs.Ytcleeakjghgbdaa
