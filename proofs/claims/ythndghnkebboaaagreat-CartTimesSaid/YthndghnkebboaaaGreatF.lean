import Derived.Test.YthndghnkebboaaaGreatGy
import Derived.Test.YthndghnkebboaaaGreatGz
import Derived.Test.YthndghnkebboaaaGreatP
import Derived.Test.YthndghnkebboaaaGreatProg
set_option maxRecDepth 20000
set_option linter.unusedVariables false
namespace Go.Proofs.YthndghnkebboaaaGreat
def TSpan_cells (x:TSpan):List Value := [.int .i64 x.fLo, .int .i64 x.fHi]
theorem aE (x:TSpan):(TSpan_cells x).length=2 := rfl
def ay (x:Twait):List Value := [.int .i64 x.f_at, .int .i64 x.f_stop.f_place, .int .i64 x.f_stop.f_toll]
theorem aS (x:Twait):(ay x).length=3 := rfl
theorem ou (x:Twait):((ay x).all (·.oneCell'))=true := rfl
def TLeg_cells (x:TLeg):List Value := [.int .i64 x.fTrack, .int .i64 x.fHour]
theorem bd (x:TLeg):(TLeg_cells x).length=2 := rfl
theorem pc (x:TLeg):((TLeg_cells x).all (·.oneCell'))=true := rfl
def aC (x:TO):List Value := [.int .i64 x.fID, .int .i64 x.fH.fLo, .int .i64 x.fH.fHi, .int .i64 x.fD, .int .i64 x.fW]
theorem av (x:TO):(aC x).length=5 := rfl
theorem nj (x:TO):((aC x).all (·.oneCell'))=true := rfl
def aG (x:TBay):List Value := [.int .i64 x.fID, .int .i64 x.fHour, .int .i64 x.fD]
theorem aL (x:TBay):(aG x).length=3 := rfl
theorem lj (x:TBay):((aG x).all (·.oneCell'))=true := rfl
def TTrack_cells2 (p:Hd × TT):List Value := [.int .i64 p.2.fID, .int .i64 p.2.fFrom, .int .i64 p.2.fTo, .int .i64 p.2.fLong, .int .i64 p.2.fToll, .slice p.1.1 p.1.2.1 p.1.2.2]
theorem ar (p:Hd × TT):(TTrack_cells2 p).length=6 := rfl
theorem jA (p:Hd × TT):((TTrack_cells2 p).all (·.oneCell'))=true := rfl
theorem bB {p:Hd × TT} {z:TT} {k:Nat} (hs:p.2=z) (hl:p.1.2.1=k):TTrack_cells2 p=[.int .i64 z.fID, .int .i64 z.fFrom, .int .i64 z.fTo, .int .i64 z.fLong, .int .i64 z.fToll, .slice p.1.1 k p.1.2.2] := by subst hs hl;rfl
def cf (p:Hd × TJ):List Value := [.slice p.1.1 p.1.2.1 p.1.2.2, .int .i64 p.2.fA, .int .i64 p.2.fToll]
theorem bk (p:Hd × TJ):(cf p).length=3 := rfl
theorem lr (p:Hd × TJ):((cf p).all (·.oneCell'))=true := rfl
theorem lO {p:Hd × TJ} {z:TJ} {k:Nat} (hs:p.2=z) (hl:p.1.2.1=k):cf p=[.slice p.1.1 k p.1.2.2, .int .i64 z.fA, .int .i64 z.fToll] := by subst hs hl;rfl
def SlInt_cells2 (p:Hd × (List Int)):List Value := [.slice p.1.1 p.1.2.1 p.1.2.2]
theorem ao (p:Hd × (List Int)):(SlInt_cells2 p).length=1 := rfl
theorem nv (p:Hd × (List Int)):((SlInt_cells2 p).all (·.oneCell'))=true := rfl
def cj (x:Ts):Value := .agg #[.int .i64 x.f_place, .int .i64 x.f_toll]
def bW (x:Tl):Value := .agg #[.int .i64 x.f_at, .int .i64 x.f_from.f_place, .int .i64 x.f_from.f_toll, .int .i64 x.f_leg.fTrack, .int .i64 x.f_leg.fHour, .bool x.f_begin]
theorem bI:aY Tryz.prog 24 1=some 1 := by kernel_rfl
theorem f7:scB Tryz.prog 22=true := by kernel_rfl
theorem ij:Tryz.prog.underlying 22=some (.slice 120) := by kernel_rfl
theorem iI:qF Tryz.prog 22=some (120, 6) := by kernel_rfl
theorem fC:aY Tryz.prog 120 5=some 5 := by kernel_rfl
theorem j9:scB Tryz.prog 118=true := by kernel_rfl
theorem lW:Tryz.prog.underlying 118=some (.slice 63) := by kernel_rfl
theorem dE:aY Tryz.prog 24 0=some 0 := by kernel_rfl
theorem aN:scB Tryz.prog 3=true := by kernel_rfl
theorem gY:bu Tryz.prog 107=true := by kernel_rfl
theorem jx:qF Tryz.prog 118=some (63, 2) := by kernel_rfl
theorem ag_63:nf Tryz.prog 63 2=true := by kernel_rfl
theorem gt:aY Tryz.prog 63 0=some 0 := by kernel_rfl
theorem eH:aY Tryz.prog 63 1=some 1 := by kernel_rfl
theorem sz_63:szB Tryz.prog 63 2=true := by kernel_rfl
theorem rC:bt Tryz.prog 63=some (.agg #[.int .i64 0, .int .i64 0]) := by kernel_rfl
theorem gl:nf Tryz.prog 120 6=true := by kernel_rfl
theorem go_192:bu Tryz.prog 192=true := by kernel_rfl
theorem im:aY Tryz.prog 120 0=some 0 := by kernel_rfl
theorem go_182:bu Tryz.prog 182=true := by kernel_rfl
theorem go_181:bu Tryz.prog 181=true := by kernel_rfl
theorem gO:aY Tryz.prog 120 1=some 1 := by kernel_rfl
theorem go_159:bu Tryz.prog 159=true := by kernel_rfl
theorem gg:aY Tryz.prog 120 2=some 2 := by kernel_rfl
theorem fy:aY Tryz.prog 120 3=some 3 := by kernel_rfl
theorem fw:aY Tryz.prog 120 4=some 4 := by kernel_rfl
theorem go_122:bu Tryz.prog 122=true := by kernel_rfl
theorem dh:nf Tryz.prog 24 2=true := by kernel_rfl
theorem go_155:bu Tryz.prog 155=true := by kernel_rfl
theorem nh:szB Tryz.prog 120 6=true := by kernel_rfl
theorem g0:bt Tryz.prog 120=some (.agg #[.int .i64 0, .int .i64 0, .int .i64 0, .int .i64 0, .int .i64 0, .slice none 0 0]) := by kernel_rfl
theorem go_124:bu Tryz.prog 124=true := by kernel_rfl
theorem ld:bu Tryz.prog 108=true := by kernel_rfl
theorem pt:Tryz.prog.underlying 198=some (.slice 196) := by kernel_rfl
theorem m7:qF Tryz.prog 198=some (196, 3) := by kernel_rfl
theorem nF:aY Tryz.prog 196 0=some 0 := by kernel_rfl
theorem bZ:Tryz.prog.follows .mixedOrders=true := by kernel_rfl
theorem sK:nf Tryz.prog 196 3=true := by kernel_rfl
theorem su:szB Tryz.prog 196 3=true := by kernel_rfl
theorem jS:mh Tryz.prog 194 "Less" = some (212, false) := by kernel_rfl
theorem j4:Tryz.prog.underlying 194=some (.pointer 198) := by kernel_rfl
theorem jr:scB Tryz.prog 198=true := by kernel_rfl
theorem sx:bu Tryz.prog 212=true := by kernel_rfl
theorem jL:mh Tryz.prog 194 "Swap" = some (215, false) := by kernel_rfl
theorem nc:bu Tryz.prog 215=true := by kernel_rfl
theorem qm:tb Tryz.prog 196=true := by kernel_rfl
theorem sz_198:szB Tryz.prog 198 1=true := by kernel_rfl
theorem oA:bt Tryz.prog 196=some (.agg #[.int .i64 0, .int .i64 0, .int .i64 0]) := by kernel_rfl
theorem pB:mh Tryz.prog 194 "Len" = some (147, false) := by kernel_rfl
theorem go_147:bu Tryz.prog 147=true := by kernel_rfl
theorem tC:mh Tryz.prog 194 "Pop" = some (213, true) := by kernel_rfl
theorem go_213:bu Tryz.prog 213=true := by kernel_rfl
theorem go_177:bu Tryz.prog 177=true := by kernel_rfl
theorem sc:madeCells (.agg #[.int .i64 0, .int .i64 0, .int .i64 0]:Value).cells (1*3) = #[.int .i64 0, .int .i64 0, .int .i64 0] := by kernel_rfl
theorem by_196:fi Tryz.prog 196 (.agg #[.int .i64 0, .int .i64 0, .int .i64 0]) 3 24=true := by kernel_rfl
theorem rB:mh Tryz.prog 194 "Push" = some (214, true) := by kernel_rfl
theorem go_214:bu Tryz.prog 214=true := by kernel_rfl
theorem go_179:bu Tryz.prog 179=true := by kernel_rfl
theorem oV:rl Tryz.prog 191 [(0, 1), (1, 1)]=true := by kernel_rfl
theorem pz:bt Tryz.prog 191=some (.agg #[.int .i64 0, .int .i64 0]) := by kernel_rfl
theorem ust_193:rl Tryz.prog 193 [(0, 1), (1, 2), (3, 2), (5, 1)]=true := by kernel_rfl
theorem j5:bt Tryz.prog 193=some (.agg #[.int .i64 0, .int .i64 0, .int .i64 0, .int .i64 0, .int .i64 0, .bool false]) := by kernel_rfl
theorem ust_196:rl Tryz.prog 196 [(0, 1), (1, 2)]=true := by kernel_rfl
theorem sc_194:scB Tryz.prog 194=true := by kernel_rfl
theorem nif_194:tb Tryz.prog 194=true := by kernel_rfl
theorem sj:scB Tryz.prog 157=true := by kernel_rfl
theorem nD:aY Tryz.prog 196 1=some 1 := by kernel_rfl
theorem mZ:nf Tryz.prog 191 2=true := by kernel_rfl
theorem m6:Tryz.prog.underlying 157=some (.map 191 193) := by kernel_rfl
theorem sG:fldT Tryz.prog 193 0=some (3, 0) := by kernel_rfl
theorem fo_191_0:aY Tryz.prog 191 0=some 0 := by kernel_rfl
theorem si:bu Tryz.prog 123=true := by kernel_rfl
theorem pO:aY Tryz.prog 191 1=some 1 := by kernel_rfl
theorem pN:aY Tryz.prog 193 0=some 0 := by kernel_rfl
theorem ust_132:rl Tryz.prog 132 [(0, 1), (1, 1)]=true := by kernel_rfl
theorem sS:bt Tryz.prog 132=some (.agg #[.int .i64 0, .int .i64 0]) := by kernel_rfl
theorem go_150:bu Tryz.prog 150=true := by kernel_rfl
theorem qM:szB Tryz.prog 193 6=true := by kernel_rfl
theorem sz_191:szB Tryz.prog 191 2=true := by kernel_rfl
theorem go_178:bu Tryz.prog 178=true := by kernel_rfl
theorem go_149:bu Tryz.prog 149=true := by kernel_rfl
theorem go_148:bu Tryz.prog 148=true := by kernel_rfl
theorem sz_194:szB Tryz.prog 194 1=true := by kernel_rfl
theorem ze_194:bt Tryz.prog 194=some (.pointer none) := by kernel_rfl
theorem sz_157:szB Tryz.prog 157 1=true := by kernel_rfl
theorem ze_157:bt Tryz.prog 157=some (.map none) := by kernel_rfl
theorem ar_160:arrOf Tryz.prog 160=some (61, 1) := by kernel_rfl
theorem qb:szB Tryz.prog 3 1=true := by kernel_rfl
theorem rv:nf Tryz.prog 160 61=true := by kernel_rfl
theorem rE:szB Tryz.prog 160 61=true := by kernel_rfl
theorem sA:bt Tryz.prog 160=some (.agg (encL cI (List.replicate 61 0)).toArray) := by kernel_rfl
theorem th:Tryz.prog.underlying 27=some (.slice 132) := by kernel_rfl
theorem rz:qF Tryz.prog 27=some (132, 2) := by kernel_rfl
theorem sE:nf Tryz.prog 132 2=true := by kernel_rfl
theorem sz_132:szB Tryz.prog 132 2=true := by kernel_rfl
theorem ust_29:rl Tryz.prog 29 [(0, 1), (1, 1), (2, 1)]=true := by kernel_rfl
theorem la:bt Tryz.prog 29=some (.agg #[.slice none 0 0, .int .i64 0, .int .i64 0]) := by kernel_rfl
theorem fo_193_3:aY Tryz.prog 193 3=some 5 := by kernel_rfl
theorem sc_4:scB Tryz.prog 4=true := by kernel_rfl
theorem kJ:aY Tryz.prog 29 0=some 0 := by kernel_rfl
theorem rK:scB Tryz.prog 27=true := by kernel_rfl
theorem fo_193_2:aY Tryz.prog 193 2=some 3 := by kernel_rfl
theorem ag_193:nf Tryz.prog 193 6=true := by kernel_rfl
theorem fo_193_1:aY Tryz.prog 193 1=some 1 := by kernel_rfl
theorem sz_27:szB Tryz.prog 27 1=true := by kernel_rfl
theorem by_132:fi Tryz.prog 132 (.agg #[.int .i64 0, .int .i64 0]) 2 16=true := by kernel_rfl
theorem mc_132_1:madeCells (.agg #[.int .i64 0, .int .i64 0]:Value).cells (1*2) = #[.int .i64 0, .int .i64 0] := by kernel_rfl
theorem lE:nf Tryz.prog 29 3=true := by kernel_rfl
theorem mz:szB Tryz.prog 29 3=true := by kernel_rfl
theorem go_183:bu Tryz.prog 183=true := by kernel_rfl
theorem ua_160:Tryz.prog.underlying 160=some (.array 61 3) := by kernel_rfl
theorem sD:Tryz.prog.underlying 106=some (.slice 29) := by kernel_rfl
theorem by_29:fi Tryz.prog 29 (.agg #[.slice none 0 0, .int .i64 0, .int .i64 0]) 3 40=true := by kernel_rfl
theorem mc_29_1:madeCells (.agg #[.slice none 0 0, .int .i64 0, .int .i64 0]:Value).cells (1*3) = #[.slice none 0 0, .int .i64 0, .int .i64 0] := by kernel_rfl
theorem go_157:bu Tryz.prog 157=true := by kernel_rfl
theorem go_111:bu Tryz.prog 111=true := by kernel_rfl
theorem go_110:bu Tryz.prog 110=true := by kernel_rfl
theorem sk:qF Tryz.prog 106=some (29, 3) := by kernel_rfl
theorem n2:aY Tryz.prog 29 2=some 2 := by kernel_rfl
theorem go_119:bu Tryz.prog 119=true := by kernel_rfl
theorem tj:bu Tryz.prog 70=true := by kernel_rfl
theorem go_71:bu Tryz.prog 71=true := by kernel_rfl
theorem lv:aY Tryz.prog 29 1=some 1 := by kernel_rfl
theorem go_72:bu Tryz.prog 72=true := by kernel_rfl
theorem sh:fi Tryz.prog 120 (.agg #[.int .i64 0, .int .i64 0, .int .i64 0, .int .i64 0, .int .i64 0, .slice none 0 0]) 6 64=true := by kernel_rfl
theorem rY:bu Tryz.prog 176=true := by kernel_rfl
theorem bS:qF Tryz.prog 42=some (3, 1) := by kernel_rfl
theorem go_168:bu Tryz.prog 168=true := by kernel_rfl
theorem us_s9:Tryz.prog.underlying 9=some .string := by kernel_rfl
theorem ui_5:Tryz.prog.underlying 5=some (.int .u8) := by kernel_rfl
theorem ui_220:Tryz.prog.underlying 220=some (.int .u64) := by kernel_rfl
theorem ui_3:Tryz.prog.underlying 3=some (.int .i64) := by kernel_rfl
theorem go_172:bu Tryz.prog 172=true := by kernel_rfl
theorem ui_176:Tryz.prog.underlying 176=some (.int .u64) := by kernel_rfl
theorem go_129:bu Tryz.prog 129=true := by kernel_rfl
theorem go_162:bu Tryz.prog 162=true := by kernel_rfl
theorem go_128:bu Tryz.prog 128=true := by kernel_rfl
theorem cO:Tryz.prog.underlying 42=some (.slice 3) := by kernel_rfl
theorem go_80:bu Tryz.prog 80=true := by kernel_rfl
theorem go_79:bu Tryz.prog 79=true := by kernel_rfl
theorem ust_24:rl Tryz.prog 24 [(0, 1), (1, 1)]=true := by kernel_rfl
theorem ze_24:bt Tryz.prog 24=some (.agg #[.int .i64 0, .slice none 0 0]) := by kernel_rfl
theorem sz_24:szB Tryz.prog 24 2=true := by kernel_rfl
theorem mF:bt Tryz.prog 3=some (.int .i64 0) := by kernel_rfl
theorem pu:fi Tryz.prog 3 (.int .i64 0) 1 8=true := by kernel_rfl
theorem ob:madeCells (.int .i64 0:Value).cells (1*1) = #[.int .i64 0] := by kernel_rfl
theorem go_81:bu Tryz.prog 81=true := by kernel_rfl
theorem go_18:bu Tryz.prog 18=true := by kernel_rfl
theorem lD:Tryz.prog.underlying 51=some (.slice 65) := by kernel_rfl
theorem kz:qF Tryz.prog 51=some (65, 5) := by kernel_rfl
theorem qR:nf Tryz.prog 65 5=true := by kernel_rfl
theorem go_173:bu Tryz.prog 173=true := by kernel_rfl
theorem kw:aY Tryz.prog 65 0=some 0 := by kernel_rfl
theorem cg:aY Tryz.prog 53 1=some 1 := by kernel_rfl
theorem gT:scB Tryz.prog 51=true := by kernel_rfl
theorem go_135:bu Tryz.prog 135=true := by kernel_rfl
theorem go_134:bu Tryz.prog 134=true := by kernel_rfl
theorem kc:Tryz.prog.underlying 50=some (.slice 69) := by kernel_rfl
theorem mV:qF Tryz.prog 50=some (69, 3) := by kernel_rfl
theorem ag_69:nf Tryz.prog 69 3=true := by kernel_rfl
theorem go_174:bu Tryz.prog 174=true := by kernel_rfl
theorem kH:aY Tryz.prog 69 0=some 0 := by kernel_rfl
theorem en:aY Tryz.prog 53 0=some 0 := by kernel_rfl
theorem ku:scB Tryz.prog 50=true := by kernel_rfl
theorem go_140:bu Tryz.prog 140=true := by kernel_rfl
theorem go_139:bu Tryz.prog 139=true := by kernel_rfl
theorem pX:aY Tryz.prog 69 1=some 1 := by kernel_rfl
theorem qu:aY Tryz.prog 69 2=some 2 := by kernel_rfl
theorem dl:nf Tryz.prog 53 2=true := by kernel_rfl
theorem go_96:bu Tryz.prog 96=true := by kernel_rfl
theorem sz_69:szB Tryz.prog 69 3=true := by kernel_rfl
theorem pf:bt Tryz.prog 69=some (.agg #[.int .i64 0, .int .i64 0, .int .i64 0]) := by kernel_rfl
theorem hQ:aY Tryz.prog 65 1=some 1 := by kernel_rfl
theorem qr:aY Tryz.prog 65 2=some 3 := by kernel_rfl
theorem jo:aY Tryz.prog 65 3=some 4 := by kernel_rfl
theorem go_90:bu Tryz.prog 90=true := by kernel_rfl
theorem sz_65:szB Tryz.prog 65 5=true := by kernel_rfl
theorem ph:bt Tryz.prog 65=some (.agg #[.int .i64 0, .int .i64 0, .int .i64 0, .int .i64 0, .int .i64 0]) := by kernel_rfl
theorem sc_189:scB Tryz.prog 189=true := by kernel_rfl
theorem um_189:Tryz.prog.underlying 189=some (.map 3 4) := by kernel_rfl
theorem ze_4:bt Tryz.prog 4=some (.bool false) := by kernel_rfl
theorem go_101:bu Tryz.prog 101=true := by kernel_rfl
theorem sq:scB Tryz.prog 152=true := by kernel_rfl
theorem ra:Tryz.prog.underlying 152=some (.map 3 3) := by kernel_rfl
theorem sc_127:scB Tryz.prog 127=true := by kernel_rfl
theorem go_156:bu Tryz.prog 156=true := by kernel_rfl
theorem sz_127:szB Tryz.prog 127 1=true := by kernel_rfl
theorem ze_127:bt Tryz.prog 127=some (.nilFunc) := by kernel_rfl
theorem sz_189:szB Tryz.prog 189 1=true := by kernel_rfl
theorem ze_189:bt Tryz.prog 189=some (.map none) := by kernel_rfl
theorem go_190:bu Tryz.prog 190=true := by kernel_rfl
theorem go_175:bu Tryz.prog 175=true := by kernel_rfl
theorem go_145:bu Tryz.prog 145=true := by kernel_rfl
theorem go_144:bu Tryz.prog 144=true := by kernel_rfl
theorem go_117:bu Tryz.prog 117=true := by kernel_rfl
theorem go_143:bu Tryz.prog 143=true := by kernel_rfl
theorem go_130:bu Tryz.prog 130=true := by kernel_rfl
theorem go_100:bu Tryz.prog 100=true := by kernel_rfl
theorem by_65:fi Tryz.prog 65 (.agg #[.int .i64 0, .int .i64 0, .int .i64 0, .int .i64 0, .int .i64 0]) 5 40=true := by kernel_rfl
theorem go_115:bu Tryz.prog 115=true := by kernel_rfl
theorem ust_53:rl Tryz.prog 53 [(0, 1), (1, 1)]=true := by kernel_rfl
theorem rA:bt Tryz.prog 53=some (.agg #[.slice none 0 0, .slice none 0 0]) := by kernel_rfl
theorem sz_53:szB Tryz.prog 53 2=true := by kernel_rfl
theorem tz:bu Tryz.prog 83=true := by kernel_rfl
theorem go_131:bu Tryz.prog 131=true := by kernel_rfl
theorem go_85:bu Tryz.prog 85=true := by kernel_rfl
theorem go_88:bu Tryz.prog 88=true := by kernel_rfl
theorem go_45:bu Tryz.prog 45=true := by kernel_rfl
theorem go_84:bu Tryz.prog 84=true := by kernel_rfl
theorem go_137:bu Tryz.prog 137=true := by kernel_rfl
theorem go_138:bu Tryz.prog 138=true := by kernel_rfl
theorem go_136:bu Tryz.prog 136=true := by kernel_rfl
theorem sz_152:szB Tryz.prog 152 1=true := by kernel_rfl
theorem ze_152:bt Tryz.prog 152=some (.map none) := by kernel_rfl
theorem go_91:bu Tryz.prog 91=true := by kernel_rfl
theorem go_94:bu Tryz.prog 94=true := by kernel_rfl
theorem go_93:bu Tryz.prog 93=true := by kernel_rfl
theorem go_92:bu Tryz.prog 92=true := by kernel_rfl
theorem by_69:fi Tryz.prog 69 (.agg #[.int .i64 0, .int .i64 0, .int .i64 0]) 3 24=true := by kernel_rfl
theorem go_142:bu Tryz.prog 142=true := by kernel_rfl
theorem go_141:bu Tryz.prog 141=true := by kernel_rfl
theorem go_97:bu Tryz.prog 97=true := by kernel_rfl
theorem ust_71:rl Tryz.prog 71 [(0, 1), (1, 1), (2, 1)]=true := by kernel_rfl
theorem sV:bt Tryz.prog 71=some (.agg #[.slice none 0 0, .int .i64 0, .slice none 0 0]) := by kernel_rfl
theorem sz_71:szB Tryz.prog 71 3=true := by kernel_rfl
theorem fo_71_0:aY Tryz.prog 71 0=some 0 := by kernel_rfl
theorem gH:scB Tryz.prog 42=true := by kernel_rfl
theorem rU:aY Tryz.prog 71 2=some 2 := by kernel_rfl
theorem ql:aY Tryz.prog 71 1=some 1 := by kernel_rfl
theorem sz_42:szB Tryz.prog 42 1=true := by kernel_rfl
theorem ag_71:nf Tryz.prog 71 3=true := by kernel_rfl
theorem go_99:bu Tryz.prog 99=true := by kernel_rfl
theorem gk:bu Tryz.prog 109=true := by kernel_rfl
theorem qX:bu Tryz.prog 77=true := by kernel_rfl
theorem go_98:bu Tryz.prog 98=true := by kernel_rfl
theorem go_104:bu Tryz.prog 104=true := by kernel_rfl
theorem go_46:bu Tryz.prog 46=true := by kernel_rfl
theorem go_105:bu Tryz.prog 105=true := by kernel_rfl
theorem go_106:bu Tryz.prog 106=true := by kernel_rfl
theorem ust_87:rl Tryz.prog 87 [(0, 1)]=true := by kernel_rfl
theorem tt:bt Tryz.prog 87=some (.agg #[.slice none 0 0]) := by kernel_rfl
theorem pd:nf Tryz.prog 87 1=true := by kernel_rfl
theorem sz_87:szB Tryz.prog 87 1=true := by kernel_rfl
theorem cq:aY Tryz.prog 87 0=some 0 := by kernel_rfl
theorem iE:scB Tryz.prog 85=true := by kernel_rfl
theorem mc_42_1:madeCells (.slice none 0 0:Value).cells (1*1) = #[.slice none 0 0] := by kernel_rfl
theorem nq:Tryz.prog.underlying 85=some (.slice 42) := by kernel_rfl
theorem ze_42:bt Tryz.prog 42=some (.slice none 0 0) := by kernel_rfl
theorem by_42:fi Tryz.prog 42 (.slice none 0 0) 1 24=true := by kernel_rfl
theorem sz_85:szB Tryz.prog 85 1=true := by kernel_rfl
theorem qs:rl Tryz.prog 120 [(0, 1), (1, 1), (2, 1), (3, 1), (4, 1), (5, 1)]=true := by kernel_rfl
theorem sw:rl Tryz.prog 63 [(0, 1), (1, 1)]=true := by kernel_rfl
theorem mc_120_4:madeCells (.agg #[.int .i64 0, .int .i64 0, .int .i64 0, .int .i64 0, .int .i64 0, .slice none 0 0]:Value).cells (4*6) = #[.int .i64 0, .int .i64 0, .int .i64 0, .int .i64 0, .int .i64 0, .slice none 0 0, .int .i64 0, .int .i64 0, .int .i64 0, .int .i64 0, .int .i64 0, .slice none 0 0, .int .i64 0, .int .i64 0, .int .i64 0, .int .i64 0, .int .i64 0, .slice none 0 0, .int .i64 0, .int .i64 0, .int .i64 0, .int .i64 0, .int .i64 0, .slice none 0 0] := by kernel_rfl
theorem mc_63_1:madeCells (.agg #[.int .i64 0, .int .i64 0]:Value).cells (1*2) = #[.int .i64 0, .int .i64 0] := by kernel_rfl
theorem by_63:fi Tryz.prog 63 (.agg #[.int .i64 0, .int .i64 0]) 2 16=true := by kernel_rfl
theorem ust_69:rl Tryz.prog 69 [(0, 1), (1, 1), (2, 1)]=true := by kernel_rfl
theorem ust_65:rl Tryz.prog 65 [(0, 1), (1, 2), (3, 1), (4, 1)]=true := by kernel_rfl
theorem mc_65_3:madeCells (.agg #[.int .i64 0, .int .i64 0, .int .i64 0, .int .i64 0, .int .i64 0]:Value).cells (3*5) = #[.int .i64 0, .int .i64 0, .int .i64 0, .int .i64 0, .int .i64 0, .int .i64 0, .int .i64 0, .int .i64 0, .int .i64 0, .int .i64 0, .int .i64 0, .int .i64 0, .int .i64 0, .int .i64 0, .int .i64 0] := by kernel_rfl
theorem mc_69_2:madeCells (.agg #[.int .i64 0, .int .i64 0, .int .i64 0]:Value).cells (2*3) = #[.int .i64 0, .int .i64 0, .int .i64 0, .int .i64 0, .int .i64 0, .int .i64 0] := by kernel_rfl
theorem go_69:bu Tryz.prog 69=true := by kernel_rfl
theorem go_19:bu Tryz.prog 19=true := by kernel_rfl
theorem iq:qF Tryz.prog 85=some (42, 1) := by kernel_rfl
theorem sW:bu Tryz.prog 25=true := by kernel_rfl
theorem mc_3_2:madeCells (.int .i64 0:Value).cells (2*1) = #[.int .i64 0, .int .i64 0] := by kernel_rfl
theorem go_33:bu Tryz.prog 33=true := by kernel_rfl
theorem go_44:bu Tryz.prog 44=true := by kernel_rfl
theorem go_31:bu Tryz.prog 31=true := by kernel_rfl
theorem mc_3_3:madeCells (.int .i64 0:Value).cells (3*1) = #[.int .i64 0, .int .i64 0, .int .i64 0] := by kernel_rfl
theorem go_29:bu Tryz.prog 29=true := by kernel_rfl
theorem go_27:bu Tryz.prog 27=true := by kernel_rfl
theorem go_37:bu Tryz.prog 37=true := by kernel_rfl
theorem go_23:bu Tryz.prog 23=true := by kernel_rfl
theorem go_61:bu Tryz.prog 61=true := by kernel_rfl
theorem go_49:bu Tryz.prog 49=true := by kernel_rfl
theorem go_68:bu Tryz.prog 68=true := by kernel_rfl
theorem go_67:bu Tryz.prog 67=true := by kernel_rfl
theorem go_16:bu Tryz.prog 16=true := by kernel_rfl
theorem go_17:bu Tryz.prog 17=true := by kernel_rfl
theorem go_184:bu Tryz.prog 184=true := by kernel_rfl
theorem go_160:bu Tryz.prog 160=true := by kernel_rfl
theorem go_125:bu Tryz.prog 125=true := by kernel_rfl
theorem go_161:bu Tryz.prog 161=true := by kernel_rfl
theorem go_126:bu Tryz.prog 126=true := by kernel_rfl
theorem go_127:bu Tryz.prog 127=true := by kernel_rfl
theorem go_73:bu Tryz.prog 73=true := by kernel_rfl
theorem go_75:bu Tryz.prog 75=true := by kernel_rfl
theorem sQ:aY Tryz.prog 132 0=some 0 := by kernel_rfl
theorem go_76:bu Tryz.prog 76=true := by kernel_rfl
theorem kT:aY Tryz.prog 132 1=some 1 := by kernel_rfl
theorem go_78:bu Tryz.prog 78=true := by kernel_rfl
theorem sc_30:scB Tryz.prog 30=true := by kernel_rfl
theorem go_21:bu Tryz.prog 21=true := by kernel_rfl
theorem go_180:bu Tryz.prog 180=true := by kernel_rfl
theorem go_153:bu Tryz.prog 153=true := by kernel_rfl
theorem go_152:bu Tryz.prog 152=true := by kernel_rfl
theorem go_151:bu Tryz.prog 151=true := by kernel_rfl
theorem go_154:bu Tryz.prog 154=true := by kernel_rfl
theorem go_112:bu Tryz.prog 112=true := by kernel_rfl
theorem go_113:bu Tryz.prog 113=true := by kernel_rfl
theorem go_47:bu Tryz.prog 47=true := by kernel_rfl
theorem go_48:bu Tryz.prog 48=true := by kernel_rfl
theorem go_50:bu Tryz.prog 50=true := by kernel_rfl
theorem go_51:bu Tryz.prog 51=true := by kernel_rfl
theorem ust_98:rl Tryz.prog 98 [(0, 1), (1, 1)]=true := by kernel_rfl
theorem ze_98:bt Tryz.prog 98=some (.agg #[.slice none 0 0, .int .i64 0]) := by kernel_rfl
theorem ag_98:nf Tryz.prog 98 2=true := by kernel_rfl
theorem sz_98:szB Tryz.prog 98 2=true := by kernel_rfl
theorem go_114:bu Tryz.prog 114=true := by kernel_rfl
theorem go_55:bu Tryz.prog 55=true := by kernel_rfl
theorem fo_98_0:aY Tryz.prog 98 0=some 0 := by kernel_rfl
theorem go_56:bu Tryz.prog 56=true := by kernel_rfl
theorem fo_98_1:aY Tryz.prog 98 1=some 1 := by kernel_rfl
theorem go_57:bu Tryz.prog 57=true := by kernel_rfl
theorem go_54:bu Tryz.prog 54=true := by kernel_rfl
theorem kf_191:fldsB Tryz.prog 191 [(0, 1, 3), (1, 1, 3)]=true := by kernel_rfl
theorem kl_191:laidOutB Tryz.prog=true := by kernel_rfl
theorem kw_191:(match Tryz.prog.underlying 191 with|some (.array _ _)|some (.struct _)=>true|_=>false)=true := by kernel_rfl
theorem m9:KeyE Tryz.prog 191 cj a5 where
  keyed := .of_law (deep_law_laid kl_191 (m := 6) (by omega) (of_decide_eq_true (by kernel_rfl)) (by kernel_rfl) kw_191)
  tot := fun x h=>by
    unfold a5 at h
    simp only[Bool.and_eq_true]at h
    obtain⟨h0, h1⟩ := h
    exact keyS_2 (of_decide_eq_true (by kernel_rfl)) kf_191 ui_3 ui_3 (rN h0) (rN h1)
  inj := fun x y h=>by
    cases x;cases y
    simp only[cj]at h
    simp_all
theorem ke_3:KeyE Tryz.prog 3 kI eg := keyE_int ui_3
end Go.Proofs.YthndghnkebboaaaGreat
