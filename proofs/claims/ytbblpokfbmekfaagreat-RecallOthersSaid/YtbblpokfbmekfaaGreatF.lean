import Derived.Test.YtbblpokfbmekfaaGreatG8
import Derived.Test.YtbblpokfbmekfaaGreatGs
import Derived.Test.YtbblpokfbmekfaaGreatP
import Derived.Test.YtbblpokfbmekfaaGreatProg
set_option maxRecDepth 20000
set_option linter.unusedVariables false
namespace Go.Proofs.YtbblpokfbmekfaaGreat
def TNode_cells (x:TN):List Value := [.int .i64 x.fID, .int .i64 x.fLevel, .int .i64 x.fCost]
theorem ad (x:TN):(TNode_cells x).length=3 := rfl
theorem eY (x:TN):((TNode_cells x).all (·.oneCell'))=true := rfl
def THop_cells (x:TH):List Value := [.int .i64 x.fFrom, .int .i64 x.fTo]
theorem au (x:TH):(THop_cells x).length=2 := rfl
theorem lG (x:TH):((THop_cells x).all (·.oneCell'))=true := rfl
def gm (x:Tasking):List Value := [.int .i64 x.f_id, .int .i64 x.f_left]
theorem gn (x:Tasking):(gm x).length=2 := rfl
theorem o8 (x:Tasking):((gm x).all (·.oneCell'))=true := rfl
def TClaim_cells2 (p:Hd × TC):List Value := [.int .i64 p.2.fID, .slice p.1.1 p.1.2.1 p.1.2.2]
theorem aa (p:Hd × TC):(TClaim_cells2 p).length=2 := rfl
theorem bU (p:Hd × TC):((TClaim_cells2 p).all (·.oneCell'))=true := rfl
theorem a6 {p:Hd × TC} {z:TC} {k:Nat} (hs:p.2=z) (hl:p.1.2.1=k):TClaim_cells2 p=[.int .i64 z.fID, .slice p.1.1 k p.1.2.2] := by subst hs hl;rfl
theorem gE:Tryz.prog.underlying 22=some (.slice 97) := by kernel_rfl
theorem jL:r8 Tryz.prog 22=some (97, 3) := by kernel_rfl
theorem mr:tg Tryz.prog 97 3=true := by kernel_rfl
theorem gd:eR Tryz.prog 97 0=some 0 := by kernel_rfl
theorem bN:scB Tryz.prog 3=true := by kernel_rfl
theorem aY:eR Tryz.prog 25 0=some 0 := by kernel_rfl
theorem dK:scB Tryz.prog 22=true := by kernel_rfl
theorem go_120:cE Tryz.prog 120=true := by kernel_rfl
theorem go_119:cE Tryz.prog 119=true := by kernel_rfl
theorem dQ:Tryz.prog.underlying 23=some (.slice 90) := by kernel_rfl
theorem dY:r8 Tryz.prog 23=some (90, 2) := by kernel_rfl
theorem lX:tg Tryz.prog 90 2=true := by kernel_rfl
theorem fh:eR Tryz.prog 90 0=some 0 := by kernel_rfl
theorem aD:eR Tryz.prog 25 1=some 1 := by kernel_rfl
theorem bT:scB Tryz.prog 23=true := by kernel_rfl
theorem go_144:cE Tryz.prog 144=true := by kernel_rfl
theorem go_139:cE Tryz.prog 139=true := by kernel_rfl
theorem fZ:Tryz.prog.underlying 88=some (.slice 111) := by kernel_rfl
theorem lW:tg Tryz.prog 111 2=true := by kernel_rfl
theorem lw:r8 Tryz.prog 88=some (111, 2) := by kernel_rfl
theorem pQ:Tryz.prog.underlying 3=some (.int .i64) := by kernel_rfl
theorem fl_111:flds Tryz.prog 111=some [(3, 0, true), (3, 1, true)] := by kernel_rfl
theorem eg_111:Tryz.prog.eqGuardType Tryz.prog.depth 111=false := by kernel_rfl
theorem cD:Tryz.prog.follows .mixedOrders=true := by kernel_rfl
theorem go_162:cE Tryz.prog 162=true := by kernel_rfl
theorem rl:cE Tryz.prog 117=true := by kernel_rfl
theorem aF:tg Tryz.prog 25 2=true := by kernel_rfl
theorem pV:eR Tryz.prog 111 0=some 0 := by kernel_rfl
theorem s4:cE Tryz.prog 62=true := by kernel_rfl
theorem p5:eR Tryz.prog 111 1=some 1 := by kernel_rfl
theorem ls:eR Tryz.prog 97 1=some 1 := by kernel_rfl
theorem go_146:cE Tryz.prog 146=true := by kernel_rfl
theorem sz_111:szB Tryz.prog 111 2=true := by kernel_rfl
theorem i8:cW Tryz.prog 111=some (.agg #[.int .i64 0, .int .i64 0]) := by kernel_rfl
theorem th:eR Tryz.prog 97 2=some 2 := by kernel_rfl
theorem sz_97:szB Tryz.prog 97 3=true := by kernel_rfl
theorem j7:cW Tryz.prog 97=some (.agg #[.int .i64 0, .int .i64 0, .int .i64 0]) := by kernel_rfl
theorem bQ:eR Tryz.prog 90 1=some 1 := by kernel_rfl
theorem gL:scB Tryz.prog 88=true := by kernel_rfl
theorem go_118:cE Tryz.prog 118=true := by kernel_rfl
theorem go_114:cE Tryz.prog 114=true := by kernel_rfl
theorem rY:szB Tryz.prog 90 2=true := by kernel_rfl
theorem gR:cW Tryz.prog 90=some (.agg #[.int .i64 0, .slice none 0 0]) := by kernel_rfl
theorem go_168:cE Tryz.prog 168=true := by kernel_rfl
theorem gM:r8 Tryz.prog 26=some (3, 1) := by kernel_rfl
theorem go_154:cE Tryz.prog 154=true := by kernel_rfl
theorem sz_3:szB Tryz.prog 3 1=true := by kernel_rfl
theorem us_s9:Tryz.prog.underlying 9=some .string := by kernel_rfl
theorem ui_175:Tryz.prog.underlying 175=some (.int .u64) := by kernel_rfl
theorem ui_5:Tryz.prog.underlying 5=some (.int .u8) := by kernel_rfl
theorem go_158:cE Tryz.prog 158=true := by kernel_rfl
theorem ui_151:Tryz.prog.underlying 151=some (.int .u64) := by kernel_rfl
theorem go_128:cE Tryz.prog 128=true := by kernel_rfl
theorem go_148:cE Tryz.prog 148=true := by kernel_rfl
theorem go_127:cE Tryz.prog 127=true := by kernel_rfl
theorem c6:Tryz.prog.underlying 26=some (.slice 3) := by kernel_rfl
theorem ib:madeCells (.int .i64 0:Value).cells (1*1) = #[.int .i64 0] := by kernel_rfl
theorem ku:Tryz.prog.underlying 94=some (.map 3 4) := by kernel_rfl
theorem mf:cW Tryz.prog 3=some (.int .i64 0) := by kernel_rfl
theorem go_78:cE Tryz.prog 78=true := by kernel_rfl
theorem mC:iY Tryz.prog 3 (.int .i64 0) 1 8=true := by kernel_rfl
theorem go_96:cE Tryz.prog 96=true := by kernel_rfl
theorem go_121:cE Tryz.prog 121=true := by kernel_rfl
theorem go_171:cE Tryz.prog 171=true := by kernel_rfl
theorem go_169:cE Tryz.prog 169=true := by kernel_rfl
theorem go_161:cE Tryz.prog 161=true := by kernel_rfl
theorem go_160:cE Tryz.prog 160=true := by kernel_rfl
theorem go_159:cE Tryz.prog 159=true := by kernel_rfl
theorem um_154:Tryz.prog.underlying 154=some (.map 3 26) := by kernel_rfl
theorem ze_26:cW Tryz.prog 26=some (.slice none 0 0) := by kernel_rfl
theorem ze_4:cW Tryz.prog 4=some (.bool false) := by kernel_rfl
theorem go_131:cE Tryz.prog 131=true := by kernel_rfl
theorem sl_155:r8 Tryz.prog 155=some (3, 1) := by kernel_rfl
theorem q8:scB Tryz.prog 26=true := by kernel_rfl
theorem go_88:cE Tryz.prog 88=true := by kernel_rfl
theorem go_132:cE Tryz.prog 132=true := by kernel_rfl
theorem sc_94:scB Tryz.prog 94=true := by kernel_rfl
theorem go_87:cE Tryz.prog 87=true := by kernel_rfl
theorem si:cE Tryz.prog 130=true := by kernel_rfl
theorem go_86:cE Tryz.prog 86=true := by kernel_rfl
theorem sz_94:szB Tryz.prog 94 1=true := by kernel_rfl
theorem ze_94:cW Tryz.prog 94=some (.map none) := by kernel_rfl
theorem go_65:cE Tryz.prog 65=true := by kernel_rfl
theorem sB:cE Tryz.prog 61=true := by kernel_rfl
theorem go_64:cE Tryz.prog 64=true := by kernel_rfl
theorem go_63:cE Tryz.prog 63=true := by kernel_rfl
theorem go_135:cE Tryz.prog 135=true := by kernel_rfl
theorem go_147:cE Tryz.prog 147=true := by kernel_rfl
theorem go_134:cE Tryz.prog 134=true := by kernel_rfl
theorem go_124:cE Tryz.prog 124=true := by kernel_rfl
theorem go_70:cE Tryz.prog 70=true := by kernel_rfl
theorem go_71:cE Tryz.prog 71=true := by kernel_rfl
theorem sc_107:scB Tryz.prog 107=true := by kernel_rfl
theorem sc_4:scB Tryz.prog 4=true := by kernel_rfl
theorem sz_4:szB Tryz.prog 4 1=true := by kernel_rfl
theorem go_126:cE Tryz.prog 126=true := by kernel_rfl
theorem sz_26:szB Tryz.prog 26 1=true := by kernel_rfl
theorem go_74:cE Tryz.prog 74=true := by kernel_rfl
theorem go_76:cE Tryz.prog 76=true := by kernel_rfl
theorem go_75:cE Tryz.prog 75=true := by kernel_rfl
theorem go_77:cE Tryz.prog 77=true := by kernel_rfl
theorem go_129:cE Tryz.prog 129=true := by kernel_rfl
theorem go_80:cE Tryz.prog 80=true := by kernel_rfl
theorem go_81:cE Tryz.prog 81=true := by kernel_rfl
theorem ust_48:strB Tryz.prog 48 [(0, 1), (1, 1)]=true := by kernel_rfl
theorem ze_48:cW Tryz.prog 48=some (.agg #[.int .i64 0, .int .i64 0]) := by kernel_rfl
theorem ag_48:tg Tryz.prog 48 2=true := by kernel_rfl
theorem sz_48:szB Tryz.prog 48 2=true := by kernel_rfl
theorem nC:iY Tryz.prog 111 (.agg #[.int .i64 0, .int .i64 0]) 2 16=true := by kernel_rfl
theorem o9:iY Tryz.prog 97 (.agg #[.int .i64 0, .int .i64 0, .int .i64 0]) 3 24=true := by kernel_rfl
theorem l8:iY Tryz.prog 90 (.agg #[.int .i64 0, .slice none 0 0]) 2 32=true := by kernel_rfl
theorem go_142:cE Tryz.prog 142=true := by kernel_rfl
theorem go_143:cE Tryz.prog 143=true := by kernel_rfl
theorem kg:strB Tryz.prog 25 [(0, 1), (1, 1)]=true := by kernel_rfl
theorem ft:cW Tryz.prog 25=some (.agg #[.slice none 0 0, .slice none 0 0]) := by kernel_rfl
theorem gN:szB Tryz.prog 25 2=true := by kernel_rfl
theorem sz_88:szB Tryz.prog 88 1=true := by kernel_rfl
theorem go_110:cE Tryz.prog 110=true := by kernel_rfl
theorem go_111:cE Tryz.prog 111=true := by kernel_rfl
theorem us_121:Tryz.prog.underlying 121=some (.slice 123) := by kernel_rfl
theorem sl_121:r8 Tryz.prog 121=some (123, 2) := by kernel_rfl
theorem qv:tg Tryz.prog 123 2=true := by kernel_rfl
theorem sQ:szB Tryz.prog 123 2=true := by kernel_rfl
theorem pu:cW Tryz.prog 123=some (.agg #[.int .i64 0, .int .i64 0]) := by kernel_rfl
theorem mh:eR Tryz.prog 123 1=some 1 := by kernel_rfl
theorem rO:eR Tryz.prog 123 0=some 0 := by kernel_rfl
theorem ust_123:strB Tryz.prog 123 [(0, 1), (1, 1)]=true := by kernel_rfl
theorem go_90:cE Tryz.prog 90=true := by kernel_rfl
theorem go_91:cE Tryz.prog 91=true := by kernel_rfl
theorem by_123:iY Tryz.prog 123 (.agg #[.int .i64 0, .int .i64 0]) 2 16=true := by kernel_rfl
theorem mc_123_1:madeCells (.agg #[.int .i64 0, .int .i64 0]:Value).cells (1*2) = #[.int .i64 0, .int .i64 0] := by kernel_rfl
theorem go_93:cE Tryz.prog 93=true := by kernel_rfl
theorem go_92:cE Tryz.prog 92=true := by kernel_rfl
theorem go_133:cE Tryz.prog 133=true := by kernel_rfl
theorem go_97:cE Tryz.prog 97=true := by kernel_rfl
theorem rj:strB Tryz.prog 97 [(0, 1), (1, 1), (2, 1)]=true := by kernel_rfl
theorem pe:strB Tryz.prog 111 [(0, 1), (1, 1)]=true := by kernel_rfl
theorem ust_90:strB Tryz.prog 90 [(0, 1), (1, 1)]=true := by kernel_rfl
theorem mc_90_4:madeCells (.agg #[.int .i64 0, .slice none 0 0]:Value).cells (4*2) = #[.int .i64 0, .slice none 0 0, .int .i64 0, .slice none 0 0, .int .i64 0, .slice none 0 0, .int .i64 0, .slice none 0 0] := by kernel_rfl
theorem mc_111_2:madeCells (.agg #[.int .i64 0, .int .i64 0]:Value).cells (2*2) = #[.int .i64 0, .int .i64 0, .int .i64 0, .int .i64 0] := by kernel_rfl
theorem rT:madeCells (.agg #[.int .i64 0, .int .i64 0]:Value).cells (1*2) = #[.int .i64 0, .int .i64 0] := by kernel_rfl
theorem mc_97_6:madeCells (.agg #[.int .i64 0, .int .i64 0, .int .i64 0]:Value).cells (6*3) = #[.int .i64 0, .int .i64 0, .int .i64 0, .int .i64 0, .int .i64 0, .int .i64 0, .int .i64 0, .int .i64 0, .int .i64 0, .int .i64 0, .int .i64 0, .int .i64 0, .int .i64 0, .int .i64 0, .int .i64 0, .int .i64 0, .int .i64 0, .int .i64 0] := by kernel_rfl
theorem go_60:cE Tryz.prog 60=true := by kernel_rfl
theorem go_24:cE Tryz.prog 24=true := by kernel_rfl
theorem go_26:cE Tryz.prog 26=true := by kernel_rfl
theorem sP:cE Tryz.prog 19=true := by kernel_rfl
theorem mc_3_4:madeCells (.int .i64 0:Value).cells (4*1) = #[.int .i64 0, .int .i64 0, .int .i64 0, .int .i64 0] := by kernel_rfl
theorem mc_3_2:madeCells (.int .i64 0:Value).cells (2*1) = #[.int .i64 0, .int .i64 0] := by kernel_rfl
theorem fl_48:flds Tryz.prog 48=some [(3, 0, true), (3, 1, true)] := by kernel_rfl
theorem eg_48:Tryz.prog.eqGuardType Tryz.prog.depth 48=false := by kernel_rfl
theorem mc_3_3:madeCells (.int .i64 0:Value).cells (3*1) = #[.int .i64 0, .int .i64 0, .int .i64 0] := by kernel_rfl
theorem go_15:cE Tryz.prog 15=true := by kernel_rfl
theorem go_17:cE Tryz.prog 17=true := by kernel_rfl
theorem go_28:cE Tryz.prog 28=true := by kernel_rfl
theorem go_22:cE Tryz.prog 22=true := by kernel_rfl
theorem go_20:cE Tryz.prog 20=true := by kernel_rfl
theorem go_36:cE Tryz.prog 36=true := by kernel_rfl
theorem go_34:cE Tryz.prog 34=true := by kernel_rfl
theorem go_59:cE Tryz.prog 59=true := by kernel_rfl
theorem rp:cE Tryz.prog 122=true := by kernel_rfl
theorem go_67:cE Tryz.prog 67=true := by kernel_rfl
theorem go_123:cE Tryz.prog 123=true := by kernel_rfl
theorem sN:cE Tryz.prog 105=true := by kernel_rfl
theorem go_83:cE Tryz.prog 83=true := by kernel_rfl
theorem go_82:cE Tryz.prog 82=true := by kernel_rfl
theorem go_66:cE Tryz.prog 66=true := by kernel_rfl
theorem go_137:cE Tryz.prog 137=true := by kernel_rfl
theorem go_13:cE Tryz.prog 13=true := by kernel_rfl
theorem go_14:cE Tryz.prog 14=true := by kernel_rfl
theorem sc_29:scB Tryz.prog 29=true := by kernel_rfl
theorem oW:madeCells (.agg #[.int .i64 0, .slice none 0 0]:Value).cells (1*2) = #[.int .i64 0, .slice none 0 0] := by kernel_rfl
theorem sz_23:szB Tryz.prog 23 1=true := by kernel_rfl
theorem go_79:cE Tryz.prog 79=true := by kernel_rfl
theorem go_95:cE Tryz.prog 95=true := by kernel_rfl
theorem go_136:cE Tryz.prog 136=true := by kernel_rfl
theorem go_98:cE Tryz.prog 98=true := by kernel_rfl
theorem go_99:cE Tryz.prog 99=true := by kernel_rfl
theorem go_107:cE Tryz.prog 107=true := by kernel_rfl
theorem go_108:cE Tryz.prog 108=true := by kernel_rfl
theorem iJ:strB Tryz.prog 77 [(0, 2), (2, 1)]=true := by kernel_rfl
theorem jk:cW Tryz.prog 77=some (.agg #[.slice none 0 0, .slice none 0 0, .int .i64 0]) := by kernel_rfl
theorem mg:tg Tryz.prog 77 3=true := by kernel_rfl
theorem kZ:szB Tryz.prog 77 3=true := by kernel_rfl
theorem go_109:cE Tryz.prog 109=true := by kernel_rfl
theorem go_113:cE Tryz.prog 113=true := by kernel_rfl
theorem go_112:cE Tryz.prog 112=true := by kernel_rfl
theorem go_145:cE Tryz.prog 145=true := by kernel_rfl
theorem sz_22:szB Tryz.prog 22 1=true := by kernel_rfl
theorem sY:madeCells (.agg #[.int .i64 0, .int .i64 0, .int .i64 0]:Value).cells (1*3) = #[.int .i64 0, .int .i64 0, .int .i64 0] := by kernel_rfl
theorem fl_97:flds Tryz.prog 97=some [(3, 0, true), (3, 1, true), (3, 2, true)] := by kernel_rfl
theorem eg_97:Tryz.prog.eqGuardType Tryz.prog.depth 97=false := by kernel_rfl
theorem go_115:cE Tryz.prog 115=true := by kernel_rfl
theorem go_116:cE Tryz.prog 116=true := by kernel_rfl
theorem rC:eR Tryz.prog 77 0=some 0 := by kernel_rfl
theorem go_58:cE Tryz.prog 58=true := by kernel_rfl
theorem rR:eR Tryz.prog 77 1=some 2 := by kernel_rfl
theorem go_57:cE Tryz.prog 57=true := by kernel_rfl
theorem go_56:cE Tryz.prog 56=true := by kernel_rfl
theorem go_55:cE Tryz.prog 55=true := by kernel_rfl
theorem go_54:cE Tryz.prog 54=true := by kernel_rfl
theorem go_53:cE Tryz.prog 53=true := by kernel_rfl
theorem go_52:cE Tryz.prog 52=true := by kernel_rfl
theorem go_51:cE Tryz.prog 51=true := by kernel_rfl
theorem go_50:cE Tryz.prog 50=true := by kernel_rfl
theorem mR:KeyE Tryz.prog 3 kI dx := keyE_int pQ
end Go.Proofs.YtbblpokfbmekfaaGreat
