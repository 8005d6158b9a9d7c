import Derived.Test.YtbblpokfbmekfaaGreatG8
import Derived.Test.YtbblpokfbmekfaaGreatGs
import Derived.Test.YtbblpokfbmekfaaGreatP
import Derived.Test.YtbblpokfbmekfaaGreatProg
set_option maxRecDepth 20000
set_option linter.unusedVariables false
namespace Go.Proofs.YtbblpokfbmekfaaGreat
def TNode_cells (x:TN):List Value := [.int .i64 x.fID, .int .i64 x.fLevel, .int .i64 x.fCost]
theorem ay (x:TN):(TNode_cells x).length=3 := rfl
theorem ru (x:TN):((TNode_cells x).all (·.oneCell'))=true := rfl
def THop_cells (x:TH):List Value := [.int .i64 x.fFrom, .int .i64 x.fTo]
theorem aA (x:TH):(THop_cells x).length=2 := rfl
theorem rN (x:TH):((THop_cells x).all (·.oneCell'))=true := rfl
def gz (x:Tasking):List Value := [.int .i64 x.f_id, .int .i64 x.f_left]
theorem gE (x:Tasking):(gz x).length=2 := rfl
theorem pb (x:Tasking):((gz x).all (·.oneCell'))=true := rfl
def TClaim_cells2 (p:Hd × TC):List Value := [.int .i64 p.2.fID, .slice p.1.1 p.1.2.1 p.1.2.2]
theorem ad (p:Hd × TC):(TClaim_cells2 p).length=2 := rfl
theorem py (p:Hd × TC):((TClaim_cells2 p).all (·.oneCell'))=true := rfl
theorem dD {p:Hd × TC} {z:TC} {k:Nat} (hs:p.2=z) (hl:p.1.2.1=k):TClaim_cells2 p=[.int .i64 z.fID, .slice p.1.1 k p.1.2.2] := by subst hs hl;rfl
theorem lM:Tryz.prog.underlying 22=some (.slice 97) := by kernel_rfl
theorem nG:slOf Tryz.prog 22=some (97, 3) := by kernel_rfl
theorem ag_97:aggB Tryz.prog 97 3=true := by kernel_rfl
theorem g6:fb Tryz.prog 97 0=some 0 := by kernel_rfl
theorem bW:scB Tryz.prog 3=true := by kernel_rfl
theorem cJ:fb Tryz.prog 25 0=some 0 := by kernel_rfl
theorem iM:scB Tryz.prog 22=true := by kernel_rfl
theorem go_120:cN Tryz.prog 120=true := by kernel_rfl
theorem go_119:cN Tryz.prog 119=true := by kernel_rfl
theorem kj:Tryz.prog.underlying 23=some (.slice 90) := by kernel_rfl
theorem kx:slOf Tryz.prog 23=some (90, 2) := by kernel_rfl
theorem ag_90:aggB Tryz.prog 90 2=true := by kernel_rfl
theorem kk:fb Tryz.prog 90 0=some 0 := by kernel_rfl
theorem bp:fb Tryz.prog 25 1=some 1 := by kernel_rfl
theorem eZ:scB Tryz.prog 23=true := by kernel_rfl
theorem go_144:cN Tryz.prog 144=true := by kernel_rfl
theorem go_139:cN Tryz.prog 139=true := by kernel_rfl
theorem lJ:Tryz.prog.underlying 88=some (.slice 111) := by kernel_rfl
theorem mN:aggB Tryz.prog 111 2=true := by kernel_rfl
theorem nF:slOf Tryz.prog 88=some (111, 2) := by kernel_rfl
theorem ui_3:Tryz.prog.underlying 3=some (.int .i64) := by kernel_rfl
theorem fl_111:flds Tryz.prog 111=some [(3, 0, true), (3, 1, true)] := by kernel_rfl
theorem eg_111:Tryz.prog.eqGuardType Tryz.prog.depth 111=false := by kernel_rfl
theorem di:Tryz.prog.follows .mixedOrders=true := by kernel_rfl
theorem go_162:cN Tryz.prog 162=true := by kernel_rfl
theorem r9:cN Tryz.prog 117=true := by kernel_rfl
theorem aR:aggB Tryz.prog 25 2=true := by kernel_rfl
theorem iX:fb Tryz.prog 111 0=some 0 := by kernel_rfl
theorem go_62:cN Tryz.prog 62=true := by kernel_rfl
theorem lO:fb Tryz.prog 111 1=some 1 := by kernel_rfl
theorem lX:fb Tryz.prog 97 1=some 1 := by kernel_rfl
theorem go_146:cN Tryz.prog 146=true := by kernel_rfl
theorem se:szB Tryz.prog 111 2=true := by kernel_rfl
theorem jd:cW Tryz.prog 111=some (.agg #[.int .i64 0, .int .i64 0]) := by kernel_rfl
theorem fo_97_2:fb Tryz.prog 97 2=some 2 := by kernel_rfl
theorem sz_97:szB Tryz.prog 97 3=true := by kernel_rfl
theorem nO:cW Tryz.prog 97=some (.agg #[.int .i64 0, .int .i64 0, .int .i64 0]) := by kernel_rfl
theorem db:fb Tryz.prog 90 1=some 1 := by kernel_rfl
theorem kd:scB Tryz.prog 88=true := by kernel_rfl
theorem go_118:cN Tryz.prog 118=true := by kernel_rfl
theorem go_114:cN Tryz.prog 114=true := by kernel_rfl
theorem sz_90:szB Tryz.prog 90 2=true := by kernel_rfl
theorem qc:cW Tryz.prog 90=some (.agg #[.int .i64 0, .slice none 0 0]) := by kernel_rfl
theorem go_168:cN Tryz.prog 168=true := by kernel_rfl
theorem dC:slOf Tryz.prog 26=some (3, 1) := by kernel_rfl
theorem go_154:cN Tryz.prog 154=true := by kernel_rfl
theorem rI:szB Tryz.prog 3 1=true := by kernel_rfl
theorem us_s9:Tryz.prog.underlying 9=some .string := by kernel_rfl
theorem ui_175:Tryz.prog.underlying 175=some (.int .u64) := by kernel_rfl
theorem ui_5:Tryz.prog.underlying 5=some (.int .u8) := by kernel_rfl
theorem go_158:cN Tryz.prog 158=true := by kernel_rfl
theorem ui_151:Tryz.prog.underlying 151=some (.int .u64) := by kernel_rfl
theorem go_128:cN Tryz.prog 128=true := by kernel_rfl
theorem go_148:cN Tryz.prog 148=true := by kernel_rfl
theorem go_127:cN Tryz.prog 127=true := by kernel_rfl
theorem bj:Tryz.prog.underlying 26=some (.slice 3) := by kernel_rfl
theorem go:madeCells (.int .i64 0:Value).cells (1*1) = #[.int .i64 0] := by kernel_rfl
theorem jN:Tryz.prog.underlying 94=some (.map 3 4) := by kernel_rfl
theorem j7:cW Tryz.prog 3=some (.int .i64 0) := by kernel_rfl
theorem go_78:cN Tryz.prog 78=true := by kernel_rfl
theorem kY:jQ Tryz.prog 3 (.int .i64 0) 1 8=true := by kernel_rfl
theorem go_96:cN Tryz.prog 96=true := by kernel_rfl
theorem go_121:cN Tryz.prog 121=true := by kernel_rfl
theorem go_171:cN Tryz.prog 171=true := by kernel_rfl
theorem go_169:cN Tryz.prog 169=true := by kernel_rfl
theorem go_161:cN Tryz.prog 161=true := by kernel_rfl
theorem go_160:cN Tryz.prog 160=true := by kernel_rfl
theorem go_159:cN Tryz.prog 159=true := by kernel_rfl
theorem um_154:Tryz.prog.underlying 154=some (.map 3 26) := by kernel_rfl
theorem ze_26:cW Tryz.prog 26=some (.slice none 0 0) := by kernel_rfl
theorem tE:cW Tryz.prog 4=some (.bool false) := by kernel_rfl
theorem go_131:cN Tryz.prog 131=true := by kernel_rfl
theorem sl_155:slOf Tryz.prog 155=some (3, 1) := by kernel_rfl
theorem fk:scB Tryz.prog 26=true := by kernel_rfl
theorem go_88:cN Tryz.prog 88=true := by kernel_rfl
theorem tl:cN Tryz.prog 132=true := by kernel_rfl
theorem sc_94:scB Tryz.prog 94=true := by kernel_rfl
theorem go_87:cN Tryz.prog 87=true := by kernel_rfl
theorem rU:cN Tryz.prog 130=true := by kernel_rfl
theorem go_86:cN Tryz.prog 86=true := by kernel_rfl
theorem sz_94:szB Tryz.prog 94 1=true := by kernel_rfl
theorem ze_94:cW Tryz.prog 94=some (.map none) := by kernel_rfl
theorem go_65:cN Tryz.prog 65=true := by kernel_rfl
theorem go_61:cN Tryz.prog 61=true := by kernel_rfl
theorem go_64:cN Tryz.prog 64=true := by kernel_rfl
theorem go_63:cN Tryz.prog 63=true := by kernel_rfl
theorem go_135:cN Tryz.prog 135=true := by kernel_rfl
theorem go_147:cN Tryz.prog 147=true := by kernel_rfl
theorem go_134:cN Tryz.prog 134=true := by kernel_rfl
theorem go_124:cN Tryz.prog 124=true := by kernel_rfl
theorem go_70:cN Tryz.prog 70=true := by kernel_rfl
theorem go_71:cN Tryz.prog 71=true := by kernel_rfl
theorem sc_107:scB Tryz.prog 107=true := by kernel_rfl
theorem sc_4:scB Tryz.prog 4=true := by kernel_rfl
theorem sz_4:szB Tryz.prog 4 1=true := by kernel_rfl
theorem go_126:cN Tryz.prog 126=true := by kernel_rfl
theorem sz_26:szB Tryz.prog 26 1=true := by kernel_rfl
theorem go_74:cN Tryz.prog 74=true := by kernel_rfl
theorem go_76:cN Tryz.prog 76=true := by kernel_rfl
theorem go_75:cN Tryz.prog 75=true := by kernel_rfl
theorem go_77:cN Tryz.prog 77=true := by kernel_rfl
theorem go_129:cN Tryz.prog 129=true := by kernel_rfl
theorem go_80:cN Tryz.prog 80=true := by kernel_rfl
theorem go_81:cN Tryz.prog 81=true := by kernel_rfl
theorem ust_48:strB Tryz.prog 48 [(0, 1), (1, 1)]=true := by kernel_rfl
theorem ze_48:cW Tryz.prog 48=some (.agg #[.int .i64 0, .int .i64 0]) := by kernel_rfl
theorem ag_48:aggB Tryz.prog 48 2=true := by kernel_rfl
theorem sz_48:szB Tryz.prog 48 2=true := by kernel_rfl
theorem rQ:jQ Tryz.prog 111 (.agg #[.int .i64 0, .int .i64 0]) 2 16=true := by kernel_rfl
theorem by_97:jQ Tryz.prog 97 (.agg #[.int .i64 0, .int .i64 0, .int .i64 0]) 3 24=true := by kernel_rfl
theorem by_90:jQ Tryz.prog 90 (.agg #[.int .i64 0, .slice none 0 0]) 2 32=true := by kernel_rfl
theorem go_142:cN Tryz.prog 142=true := by kernel_rfl
theorem go_143:cN Tryz.prog 143=true := by kernel_rfl
theorem ust_25:strB Tryz.prog 25 [(0, 1), (1, 1)]=true := by kernel_rfl
theorem tj:cW Tryz.prog 25=some (.agg #[.slice none 0 0, .slice none 0 0]) := by kernel_rfl
theorem sz_25:szB Tryz.prog 25 2=true := by kernel_rfl
theorem sz_88:szB Tryz.prog 88 1=true := by kernel_rfl
theorem go_110:cN Tryz.prog 110=true := by kernel_rfl
theorem go_111:cN Tryz.prog 111=true := by kernel_rfl
theorem us_121:Tryz.prog.underlying 121=some (.slice 123) := by kernel_rfl
theorem sl_121:slOf Tryz.prog 121=some (123, 2) := by kernel_rfl
theorem qO:aggB Tryz.prog 123 2=true := by kernel_rfl
theorem tM:szB Tryz.prog 123 2=true := by kernel_rfl
theorem pJ:cW Tryz.prog 123=some (.agg #[.int .i64 0, .int .i64 0]) := by kernel_rfl
theorem mI:fb Tryz.prog 123 1=some 1 := by kernel_rfl
theorem sZ:fb Tryz.prog 123 0=some 0 := by kernel_rfl
theorem ust_123:strB Tryz.prog 123 [(0, 1), (1, 1)]=true := by kernel_rfl
theorem go_90:cN Tryz.prog 90=true := by kernel_rfl
theorem go_91:cN Tryz.prog 91=true := by kernel_rfl
theorem by_123:jQ Tryz.prog 123 (.agg #[.int .i64 0, .int .i64 0]) 2 16=true := by kernel_rfl
theorem mc_123_1:madeCells (.agg #[.int .i64 0, .int .i64 0]:Value).cells (1*2) = #[.int .i64 0, .int .i64 0] := by kernel_rfl
theorem go_93:cN Tryz.prog 93=true := by kernel_rfl
theorem go_92:cN Tryz.prog 92=true := by kernel_rfl
theorem go_133:cN Tryz.prog 133=true := by kernel_rfl
theorem go_97:cN Tryz.prog 97=true := by kernel_rfl
theorem rV:strB Tryz.prog 97 [(0, 1), (1, 1), (2, 1)]=true := by kernel_rfl
theorem pz:strB Tryz.prog 111 [(0, 1), (1, 1)]=true := by kernel_rfl
theorem ust_90:strB Tryz.prog 90 [(0, 1), (1, 1)]=true := by kernel_rfl
theorem mc_90_4:madeCells (.agg #[.int .i64 0, .slice none 0 0]:Value).cells (4*2) = #[.int .i64 0, .slice none 0 0, .int .i64 0, .slice none 0 0, .int .i64 0, .slice none 0 0, .int .i64 0, .slice none 0 0] := by kernel_rfl
theorem mc_111_2:madeCells (.agg #[.int .i64 0, .int .i64 0]:Value).cells (2*2) = #[.int .i64 0, .int .i64 0, .int .i64 0, .int .i64 0] := by kernel_rfl
theorem mc_111_1:madeCells (.agg #[.int .i64 0, .int .i64 0]:Value).cells (1*2) = #[.int .i64 0, .int .i64 0] := by kernel_rfl
theorem mc_97_6:madeCells (.agg #[.int .i64 0, .int .i64 0, .int .i64 0]:Value).cells (6*3) = #[.int .i64 0, .int .i64 0, .int .i64 0, .int .i64 0, .int .i64 0, .int .i64 0, .int .i64 0, .int .i64 0, .int .i64 0, .int .i64 0, .int .i64 0, .int .i64 0, .int .i64 0, .int .i64 0, .int .i64 0, .int .i64 0, .int .i64 0, .int .i64 0] := by kernel_rfl
theorem go_60:cN Tryz.prog 60=true := by kernel_rfl
theorem go_24:cN Tryz.prog 24=true := by kernel_rfl
theorem go_26:cN Tryz.prog 26=true := by kernel_rfl
theorem tF:cN Tryz.prog 19=true := by kernel_rfl
theorem mc_3_4:madeCells (.int .i64 0:Value).cells (4*1) = #[.int .i64 0, .int .i64 0, .int .i64 0, .int .i64 0] := by kernel_rfl
theorem mc_3_2:madeCells (.int .i64 0:Value).cells (2*1) = #[.int .i64 0, .int .i64 0] := by kernel_rfl
theorem fl_48:flds Tryz.prog 48=some [(3, 0, true), (3, 1, true)] := by kernel_rfl
theorem eg_48:Tryz.prog.eqGuardType Tryz.prog.depth 48=false := by kernel_rfl
theorem mc_3_3:madeCells (.int .i64 0:Value).cells (3*1) = #[.int .i64 0, .int .i64 0, .int .i64 0] := by kernel_rfl
theorem go_15:cN Tryz.prog 15=true := by kernel_rfl
theorem go_17:cN Tryz.prog 17=true := by kernel_rfl
theorem go_28:cN Tryz.prog 28=true := by kernel_rfl
theorem go_22:cN Tryz.prog 22=true := by kernel_rfl
theorem go_20:cN Tryz.prog 20=true := by kernel_rfl
theorem go_36:cN Tryz.prog 36=true := by kernel_rfl
theorem go_34:cN Tryz.prog 34=true := by kernel_rfl
theorem go_59:cN Tryz.prog 59=true := by kernel_rfl
theorem rZ:cN Tryz.prog 122=true := by kernel_rfl
theorem tg:cN Tryz.prog 67=true := by kernel_rfl
theorem go_123:cN Tryz.prog 123=true := by kernel_rfl
theorem go_105:cN Tryz.prog 105=true := by kernel_rfl
theorem go_83:cN Tryz.prog 83=true := by kernel_rfl
theorem go_82:cN Tryz.prog 82=true := by kernel_rfl
theorem qi:slOf Tryz.prog 98=some (4, 1) := by kernel_rfl
theorem us_98:Tryz.prog.underlying 98=some (.slice 4) := by kernel_rfl
theorem by_4:jQ Tryz.prog 4 (.bool false) 1 1=true := by kernel_rfl
theorem go_89:cN Tryz.prog 89=true := by kernel_rfl
theorem go_85:cN Tryz.prog 85=true := by kernel_rfl
theorem go_66:cN Tryz.prog 66=true := by kernel_rfl
theorem go_68:cN Tryz.prog 68=true := by kernel_rfl
theorem go_137:cN Tryz.prog 137=true := by kernel_rfl
theorem go_125:cN Tryz.prog 125=true := by kernel_rfl
theorem go_72:cN Tryz.prog 72=true := by kernel_rfl
theorem go_13:cN Tryz.prog 13=true := by kernel_rfl
theorem go_14:cN Tryz.prog 14=true := by kernel_rfl
theorem go_38:cN Tryz.prog 38=true := by kernel_rfl
theorem go_43:cN Tryz.prog 43=true := by kernel_rfl
theorem go_100:cN Tryz.prog 100=true := by kernel_rfl
theorem go_101:cN Tryz.prog 101=true := by kernel_rfl
theorem ub_4:Tryz.prog.underlying 4=some .bool := by kernel_rfl
theorem go_138:cN Tryz.prog 138=true := by kernel_rfl
theorem go_103:cN Tryz.prog 103=true := by kernel_rfl
theorem go_140:cN Tryz.prog 140=true := by kernel_rfl
theorem go_141:cN Tryz.prog 141=true := by kernel_rfl
theorem ust_64:strB Tryz.prog 64 [(0, 1), (1, 1)]=true := by kernel_rfl
theorem rE:cW Tryz.prog 64=some (.agg #[.slice none 0 0, .slice none 0 0]) := by kernel_rfl
theorem kM:aggB Tryz.prog 64 2=true := by kernel_rfl
theorem ro:szB Tryz.prog 64 2=true := by kernel_rfl
theorem go_104:cN Tryz.prog 104=true := by kernel_rfl
theorem lG:fb Tryz.prog 64 0=some 0 := by kernel_rfl
theorem gc:fb Tryz.prog 64 1=some 1 := by kernel_rfl
theorem go_106:cN Tryz.prog 106=true := by kernel_rfl
theorem go_44:cN Tryz.prog 44=true := by kernel_rfl
theorem go_46:cN Tryz.prog 46=true := by kernel_rfl
theorem go_45:cN Tryz.prog 45=true := by kernel_rfl
theorem go_42:cN Tryz.prog 42=true := by kernel_rfl
theorem mQ:KeyE Tryz.prog 3 kI cX := keyE_int ui_3
end Go.Proofs.YtbblpokfbmekfaaGreat
