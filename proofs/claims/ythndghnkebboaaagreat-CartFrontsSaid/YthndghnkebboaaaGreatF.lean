import Derived.Test.YthndghnkebboaaaGreatGy
import Derived.Test.YthndghnkebboaaaGreatGz
import Derived.Test.YthndghnkebboaaaGreatP
import Derived.Test.YthndghnkebboaaaGreatProg
set_option maxRecDepth 20000
set_option linter.unusedVariables false
namespace Go.Proofs.YthndghnkebboaaaGreat
def TSpan_cells (x:TSpan):List Value := [.int .i64 x.fLo, .int .i64 x.fHi]
theorem aG (x:TSpan):(TSpan_cells x).length=2 := rfl
def aA (x:Twait):List Value := [.int .i64 x.f_at, .int .i64 x.f_stop.f_place, .int .i64 x.f_stop.f_toll]
theorem aX (x:Twait):(aA x).length=3 := rfl
theorem po (x:Twait):((aA x).all (·.oneCell'))=true := rfl
def TLeg_cells (x:TLeg):List Value := [.int .i64 x.fTrack, .int .i64 x.fHour]
theorem bo (x:TLeg):(TLeg_cells x).length=2 := rfl
theorem pO (x:TLeg):((TLeg_cells x).all (·.oneCell'))=true := rfl
def aE (x:TO):List Value := [.int .i64 x.fID, .int .i64 x.fH.fLo, .int .i64 x.fH.fHi, .int .i64 x.fD, .int .i64 x.fW]
theorem ax (x:TO):(aE x).length=5 := rfl
theorem n3 (x:TO):((aE x).all (·.oneCell'))=true := rfl
def aH (x:TBay):List Value := [.int .i64 x.fID, .int .i64 x.fHour, .int .i64 x.fD]
theorem aO (x:TBay):(aH x).length=3 := rfl
theorem l6 (x:TBay):((aH x).all (·.oneCell'))=true := rfl
def fp (x:TPoint):List Value := [.int .i64 x.fToll, .int .i64 x.fA]
theorem di (x:TPoint):(fp x).length=2 := rfl
theorem n0 (x:TPoint):((fp x).all (·.oneCell'))=true := rfl
def TTrack_cells2 (p:Hd × TT):List Value := [.int .i64 p.2.fID, .int .i64 p.2.fFrom, .int .i64 p.2.fTo, .int .i64 p.2.fLong, .int .i64 p.2.fToll, .slice p.1.1 p.1.2.1 p.1.2.2]
theorem au (p:Hd × TT):(TTrack_cells2 p).length=6 := rfl
theorem kh (p:Hd × TT):((TTrack_cells2 p).all (·.oneCell'))=true := rfl
theorem bI {p:Hd × TT} {z:TT} {k:Nat} (hs:p.2=z) (hl:p.1.2.1=k):TTrack_cells2 p=[.int .i64 z.fID, .int .i64 z.fFrom, .int .i64 z.fTo, .int .i64 z.fLong, .int .i64 z.fToll, .slice p.1.1 k p.1.2.2] := by subst hs hl;rfl
def TJourney_cells2 (p:Hd × TJ):List Value := [.slice p.1.1 p.1.2.1 p.1.2.2, .int .i64 p.2.fA, .int .i64 p.2.fToll]
theorem aq (p:Hd × TJ):(TJourney_cells2 p).length=3 := rfl
theorem mg (p:Hd × TJ):((TJourney_cells2 p).all (·.oneCell'))=true := rfl
theorem cA {p:Hd × TJ} {z:TJ} {k:Nat} (hs:p.2=z) (hl:p.1.2.1=k):TJourney_cells2 p=[.slice p.1.1 k p.1.2.2, .int .i64 z.fA, .int .i64 z.fToll] := by subst hs hl;rfl
def SlInt_cells2 (p:Hd × (List Int)):List Value := [.slice p.1.1 p.1.2.1 p.1.2.2]
theorem ao (p:Hd × (List Int)):(SlInt_cells2 p).length=1 := rfl
theorem ob (p:Hd × (List Int)):((SlInt_cells2 p).all (·.oneCell'))=true := rfl
def cv (x:Ts):Value := .agg #[.int .i64 x.f_place, .int .i64 x.f_toll]
def cn (x:Tl):Value := .agg #[.int .i64 x.f_at, .int .i64 x.f_from.f_place, .int .i64 x.f_from.f_toll, .int .i64 x.f_leg.fTrack, .int .i64 x.f_leg.fHour, .bool x.f_begin]
theorem bU:bd Tryz.prog 24 1=some 1 := by kernel_rfl
theorem gv:scB Tryz.prog 22=true := by kernel_rfl
theorem i6:Tryz.prog.underlying 22=some (.slice 120) := by kernel_rfl
theorem jE:qd Tryz.prog 22=some (120, 6) := by kernel_rfl
theorem f4:bd Tryz.prog 120 5=some 5 := by kernel_rfl
theorem kM:scB Tryz.prog 118=true := by kernel_rfl
theorem mY:Tryz.prog.underlying 118=some (.slice 63) := by kernel_rfl
theorem dW:bd Tryz.prog 24 0=some 0 := by kernel_rfl
theorem aK:scB Tryz.prog 3=true := by kernel_rfl
theorem iF:bA Tryz.prog 107=true := by kernel_rfl
theorem kk:qd Tryz.prog 118=some (63, 2) := by kernel_rfl
theorem ag_63:nQ Tryz.prog 63 2=true := by kernel_rfl
theorem gK:bd Tryz.prog 63 0=some 0 := by kernel_rfl
theorem fg:bd Tryz.prog 63 1=some 1 := by kernel_rfl
theorem sz_63:szB Tryz.prog 63 2=true := by kernel_rfl
theorem si:bz Tryz.prog 63=some (.agg #[.int .i64 0, .int .i64 0]) := by kernel_rfl
theorem gS:nQ Tryz.prog 120 6=true := by kernel_rfl
theorem go_192:bA Tryz.prog 192=true := by kernel_rfl
theorem iU:bd Tryz.prog 120 0=some 0 := by kernel_rfl
theorem go_182:bA Tryz.prog 182=true := by kernel_rfl
theorem go_181:bA Tryz.prog 181=true := by kernel_rfl
theorem ii:bd Tryz.prog 120 1=some 1 := by kernel_rfl
theorem go_159:bA Tryz.prog 159=true := by kernel_rfl
theorem gD:bd Tryz.prog 120 2=some 2 := by kernel_rfl
theorem f5:bd Tryz.prog 120 3=some 3 := by kernel_rfl
theorem gb:bd Tryz.prog 120 4=some 4 := by kernel_rfl
theorem go_122:bA Tryz.prog 122=true := by kernel_rfl
theorem dG:nQ Tryz.prog 24 2=true := by kernel_rfl
theorem go_155:bA Tryz.prog 155=true := by kernel_rfl
theorem nU:szB Tryz.prog 120 6=true := by kernel_rfl
theorem ip:bz Tryz.prog 120=some (.agg #[.int .i64 0, .int .i64 0, .int .i64 0, .int .i64 0, .int .i64 0, .slice none 0 0]) := by kernel_rfl
theorem go_124:bA Tryz.prog 124=true := by kernel_rfl
theorem mb:bA Tryz.prog 108=true := by kernel_rfl
theorem qm:Tryz.prog.underlying 198=some (.slice 196) := by kernel_rfl
theorem nW:qd Tryz.prog 198=some (196, 3) := by kernel_rfl
theorem oz:bd Tryz.prog 196 0=some 0 := by kernel_rfl
theorem bW:Tryz.prog.follows .mixedOrders=true := by kernel_rfl
theorem sY:nQ Tryz.prog 196 3=true := by kernel_rfl
theorem tJ:szB Tryz.prog 196 3=true := by kernel_rfl
theorem kr:nc Tryz.prog 194 "Less" = some (212, false) := by kernel_rfl
theorem kJ:Tryz.prog.underlying 194=some (.pointer 198) := by kernel_rfl
theorem ke:scB Tryz.prog 198=true := by kernel_rfl
theorem go_212:bA Tryz.prog 212=true := by kernel_rfl
theorem ky:nc Tryz.prog 194 "Swap" = some (215, false) := by kernel_rfl
theorem nN:bA Tryz.prog 215=true := by kernel_rfl
theorem qE:notIf Tryz.prog 196=true := by kernel_rfl
theorem sz_198:szB Tryz.prog 198 1=true := by kernel_rfl
theorem oQ:bz Tryz.prog 196=some (.agg #[.int .i64 0, .int .i64 0, .int .i64 0]) := by kernel_rfl
theorem qj:nc Tryz.prog 194 "Len" = some (147, false) := by kernel_rfl
theorem go_147:bA Tryz.prog 147=true := by kernel_rfl
theorem me_194_Pop:nc Tryz.prog 194 "Pop" = some (213, true) := by kernel_rfl
theorem go_213:bA Tryz.prog 213=true := by kernel_rfl
theorem go_177:bA Tryz.prog 177=true := by kernel_rfl
theorem mc_196_1:madeCells (.agg #[.int .i64 0, .int .i64 0, .int .i64 0]:Value).cells (1*3) = #[.int .i64 0, .int .i64 0, .int .i64 0] := by kernel_rfl
theorem by_196:fJ Tryz.prog 196 (.agg #[.int .i64 0, .int .i64 0, .int .i64 0]) 3 24=true := by kernel_rfl
theorem su:nc Tryz.prog 194 "Push" = some (214, true) := by kernel_rfl
theorem go_214:bA Tryz.prog 214=true := by kernel_rfl
theorem go_179:bA Tryz.prog 179=true := by kernel_rfl
theorem pb:rS Tryz.prog 191 [(0, 1), (1, 1)]=true := by kernel_rfl
theorem ql:bz Tryz.prog 191=some (.agg #[.int .i64 0, .int .i64 0]) := by kernel_rfl
theorem ust_193:rS Tryz.prog 193 [(0, 1), (1, 2), (3, 2), (5, 1)]=true := by kernel_rfl
theorem kP:bz Tryz.prog 193=some (.agg #[.int .i64 0, .int .i64 0, .int .i64 0, .int .i64 0, .int .i64 0, .bool false]) := by kernel_rfl
theorem ust_196:rS Tryz.prog 196 [(0, 1), (1, 2)]=true := by kernel_rfl
theorem sc_194:scB Tryz.prog 194=true := by kernel_rfl
theorem nif_194:notIf Tryz.prog 194=true := by kernel_rfl
theorem sc_157:scB Tryz.prog 157=true := by kernel_rfl
theorem oG:bd Tryz.prog 196 1=some 1 := by kernel_rfl
theorem nF:nQ Tryz.prog 191 2=true := by kernel_rfl
theorem nP:Tryz.prog.underlying 157=some (.map 191 193) := by kernel_rfl
theorem tG:fldT Tryz.prog 193 0=some (3, 0) := by kernel_rfl
theorem fo_191_0:bd Tryz.prog 191 0=some 0 := by kernel_rfl
theorem ti:bA Tryz.prog 123=true := by kernel_rfl
theorem qz:bd Tryz.prog 191 1=some 1 := by kernel_rfl
theorem rq:bd Tryz.prog 193 0=some 0 := by kernel_rfl
theorem ust_132:rS Tryz.prog 132 [(0, 1), (1, 1)]=true := by kernel_rfl
theorem tL:bz Tryz.prog 132=some (.agg #[.int .i64 0, .int .i64 0]) := by kernel_rfl
theorem go_150:bA Tryz.prog 150=true := by kernel_rfl
theorem rG:szB Tryz.prog 193 6=true := by kernel_rfl
theorem sz_191:szB Tryz.prog 191 2=true := by kernel_rfl
theorem go_178:bA Tryz.prog 178=true := by kernel_rfl
theorem go_149:bA Tryz.prog 149=true := by kernel_rfl
theorem go_148:bA Tryz.prog 148=true := by kernel_rfl
theorem sz_194:szB Tryz.prog 194 1=true := by kernel_rfl
theorem ze_194:bz Tryz.prog 194=some (.pointer none) := by kernel_rfl
theorem sz_157:szB Tryz.prog 157 1=true := by kernel_rfl
theorem ze_157:bz Tryz.prog 157=some (.map none) := by kernel_rfl
theorem tB:arrOf Tryz.prog 160=some (61, 1) := by kernel_rfl
theorem px:szB Tryz.prog 3 1=true := by kernel_rfl
theorem pF:nQ Tryz.prog 160 61=true := by kernel_rfl
theorem se:szB Tryz.prog 160 61=true := by kernel_rfl
theorem qe:bz Tryz.prog 160=some (.agg (encL cI (List.replicate 61 0)).toArray) := by kernel_rfl
theorem us_27:Tryz.prog.underlying 27=some (.slice 132) := by kernel_rfl
theorem sw:qd Tryz.prog 27=some (132, 2) := by kernel_rfl
theorem tg:nQ Tryz.prog 132 2=true := by kernel_rfl
theorem sz_132:szB Tryz.prog 132 2=true := by kernel_rfl
theorem ust_29:rS Tryz.prog 29 [(0, 1), (1, 1), (2, 1)]=true := by kernel_rfl
theorem lr:bz Tryz.prog 29=some (.agg #[.slice none 0 0, .int .i64 0, .int .i64 0]) := by kernel_rfl
theorem fo_193_3:bd Tryz.prog 193 3=some 5 := by kernel_rfl
theorem sc_4:scB Tryz.prog 4=true := by kernel_rfl
theorem lc:bd Tryz.prog 29 0=some 0 := by kernel_rfl
theorem sC:scB Tryz.prog 27=true := by kernel_rfl
theorem fo_193_2:bd Tryz.prog 193 2=some 3 := by kernel_rfl
theorem ag_193:nQ Tryz.prog 193 6=true := by kernel_rfl
theorem fo_193_1:bd Tryz.prog 193 1=some 1 := by kernel_rfl
theorem sz_27:szB Tryz.prog 27 1=true := by kernel_rfl
theorem by_132:fJ Tryz.prog 132 (.agg #[.int .i64 0, .int .i64 0]) 2 16=true := by kernel_rfl
theorem mc_132_1:madeCells (.agg #[.int .i64 0, .int .i64 0]:Value).cells (1*2) = #[.int .i64 0, .int .i64 0] := by kernel_rfl
theorem lX:nQ Tryz.prog 29 3=true := by kernel_rfl
theorem m6:szB Tryz.prog 29 3=true := by kernel_rfl
theorem go_183:bA Tryz.prog 183=true := by kernel_rfl
theorem sS:Tryz.prog.underlying 160=some (.array 61 3) := by kernel_rfl
theorem kg:Tryz.prog.underlying 106=some (.slice 29) := by kernel_rfl
theorem by_29:fJ Tryz.prog 29 (.agg #[.slice none 0 0, .int .i64 0, .int .i64 0]) 3 40=true := by kernel_rfl
theorem mc_29_1:madeCells (.agg #[.slice none 0 0, .int .i64 0, .int .i64 0]:Value).cells (1*3) = #[.slice none 0 0, .int .i64 0, .int .i64 0] := by kernel_rfl
theorem go_157:bA Tryz.prog 157=true := by kernel_rfl
theorem go_111:bA Tryz.prog 111=true := by kernel_rfl
theorem go_110:bA Tryz.prog 110=true := by kernel_rfl
theorem gH:qd Tryz.prog 106=some (29, 3) := by kernel_rfl
theorem iN:bd Tryz.prog 29 2=some 2 := by kernel_rfl
theorem go_119:bA Tryz.prog 119=true := by kernel_rfl
theorem go_70:bA Tryz.prog 70=true := by kernel_rfl
theorem go_71:bA Tryz.prog 71=true := by kernel_rfl
theorem gN:bd Tryz.prog 29 1=some 1 := by kernel_rfl
theorem go_72:bA Tryz.prog 72=true := by kernel_rfl
theorem tD:fJ Tryz.prog 120 (.agg #[.int .i64 0, .int .i64 0, .int .i64 0, .int .i64 0, .int .i64 0, .slice none 0 0]) 6 64=true := by kernel_rfl
theorem go_176:bA Tryz.prog 176=true := by kernel_rfl
theorem bS:qd Tryz.prog 42=some (3, 1) := by kernel_rfl
theorem go_168:bA Tryz.prog 168=true := by kernel_rfl
theorem us_s9:Tryz.prog.underlying 9=some .string := by kernel_rfl
theorem ui_5:Tryz.prog.underlying 5=some (.int .u8) := by kernel_rfl
theorem ui_220:Tryz.prog.underlying 220=some (.int .u64) := by kernel_rfl
theorem ui_3:Tryz.prog.underlying 3=some (.int .i64) := by kernel_rfl
theorem go_172:bA Tryz.prog 172=true := by kernel_rfl
theorem ui_176:Tryz.prog.underlying 176=some (.int .u64) := by kernel_rfl
theorem go_129:bA Tryz.prog 129=true := by kernel_rfl
theorem go_162:bA Tryz.prog 162=true := by kernel_rfl
theorem go_128:bA Tryz.prog 128=true := by kernel_rfl
theorem cQ:Tryz.prog.underlying 42=some (.slice 3) := by kernel_rfl
theorem go_80:bA Tryz.prog 80=true := by kernel_rfl
theorem go_79:bA Tryz.prog 79=true := by kernel_rfl
theorem ust_24:rS Tryz.prog 24 [(0, 1), (1, 1)]=true := by kernel_rfl
theorem ze_24:bz Tryz.prog 24=some (.agg #[.int .i64 0, .slice none 0 0]) := by kernel_rfl
theorem sz_24:szB Tryz.prog 24 2=true := by kernel_rfl
theorem nD:bz Tryz.prog 3=some (.int .i64 0) := by kernel_rfl
theorem qa:fJ Tryz.prog 3 (.int .i64 0) 1 8=true := by kernel_rfl
theorem o4:madeCells (.int .i64 0:Value).cells (1*1) = #[.int .i64 0] := by kernel_rfl
theorem go_81:bA Tryz.prog 81=true := by kernel_rfl
theorem go_18:bA Tryz.prog 18=true := by kernel_rfl
theorem mi:Tryz.prog.underlying 51=some (.slice 65) := by kernel_rfl
theorem lC:qd Tryz.prog 51=some (65, 5) := by kernel_rfl
theorem rC:nQ Tryz.prog 65 5=true := by kernel_rfl
theorem go_173:bA Tryz.prog 173=true := by kernel_rfl
theorem k7:bd Tryz.prog 65 0=some 0 := by kernel_rfl
theorem cw:bd Tryz.prog 53 1=some 1 := by kernel_rfl
theorem iG:scB Tryz.prog 51=true := by kernel_rfl
theorem go_135:bA Tryz.prog 135=true := by kernel_rfl
theorem go_134:bA Tryz.prog 134=true := by kernel_rfl
theorem kS:Tryz.prog.underlying 50=some (.slice 69) := by kernel_rfl
theorem ni:qd Tryz.prog 50=some (69, 3) := by kernel_rfl
theorem ag_69:nQ Tryz.prog 69 3=true := by kernel_rfl
theorem go_174:bA Tryz.prog 174=true := by kernel_rfl
theorem ld:bd Tryz.prog 69 0=some 0 := by kernel_rfl
theorem fm:bd Tryz.prog 53 0=some 0 := by kernel_rfl
theorem ly:scB Tryz.prog 50=true := by kernel_rfl
theorem go_140:bA Tryz.prog 140=true := by kernel_rfl
theorem go_139:bA Tryz.prog 139=true := by kernel_rfl
theorem qX:bd Tryz.prog 69 1=some 1 := by kernel_rfl
theorem qT:bd Tryz.prog 69 2=some 2 := by kernel_rfl
theorem dF:nQ Tryz.prog 53 2=true := by kernel_rfl
theorem go_96:bA Tryz.prog 96=true := by kernel_rfl
theorem sz_69:szB Tryz.prog 69 3=true := by kernel_rfl
theorem pW:bz Tryz.prog 69=some (.agg #[.int .i64 0, .int .i64 0, .int .i64 0]) := by kernel_rfl
theorem iJ:bd Tryz.prog 65 1=some 1 := by kernel_rfl
theorem qL:bd Tryz.prog 65 2=some 3 := by kernel_rfl
theorem jT:bd Tryz.prog 65 3=some 4 := by kernel_rfl
theorem go_90:bA Tryz.prog 90=true := by kernel_rfl
theorem sz_65:szB Tryz.prog 65 5=true := by kernel_rfl
theorem pY:bz Tryz.prog 65=some (.agg #[.int .i64 0, .int .i64 0, .int .i64 0, .int .i64 0, .int .i64 0]) := by kernel_rfl
theorem sc_189:scB Tryz.prog 189=true := by kernel_rfl
theorem um_189:Tryz.prog.underlying 189=some (.map 3 4) := by kernel_rfl
theorem ze_4:bz Tryz.prog 4=some (.bool false) := by kernel_rfl
theorem go_101:bA Tryz.prog 101=true := by kernel_rfl
theorem tO:scB Tryz.prog 152=true := by kernel_rfl
theorem r9:Tryz.prog.underlying 152=some (.map 3 3) := by kernel_rfl
theorem sc_127:scB Tryz.prog 127=true := by kernel_rfl
theorem go_156:bA Tryz.prog 156=true := by kernel_rfl
theorem sz_127:szB Tryz.prog 127 1=true := by kernel_rfl
theorem ze_127:bz Tryz.prog 127=some (.nilFunc) := by kernel_rfl
theorem sz_189:szB Tryz.prog 189 1=true := by kernel_rfl
theorem ze_189:bz Tryz.prog 189=some (.map none) := by kernel_rfl
theorem go_190:bA Tryz.prog 190=true := by kernel_rfl
theorem go_175:bA Tryz.prog 175=true := by kernel_rfl
theorem go_145:bA Tryz.prog 145=true := by kernel_rfl
theorem go_144:bA Tryz.prog 144=true := by kernel_rfl
theorem go_117:bA Tryz.prog 117=true := by kernel_rfl
theorem go_143:bA Tryz.prog 143=true := by kernel_rfl
theorem go_130:bA Tryz.prog 130=true := by kernel_rfl
theorem go_100:bA Tryz.prog 100=true := by kernel_rfl
theorem by_65:fJ Tryz.prog 65 (.agg #[.int .i64 0, .int .i64 0, .int .i64 0, .int .i64 0, .int .i64 0]) 5 40=true := by kernel_rfl
theorem go_115:bA Tryz.prog 115=true := by kernel_rfl
theorem ust_53:rS Tryz.prog 53 [(0, 1), (1, 1)]=true := by kernel_rfl
theorem sq:bz Tryz.prog 53=some (.agg #[.slice none 0 0, .slice none 0 0]) := by kernel_rfl
theorem sz_53:szB Tryz.prog 53 2=true := by kernel_rfl
theorem go_83:bA Tryz.prog 83=true := by kernel_rfl
theorem go_131:bA Tryz.prog 131=true := by kernel_rfl
theorem go_85:bA Tryz.prog 85=true := by kernel_rfl
theorem go_88:bA Tryz.prog 88=true := by kernel_rfl
theorem go_45:bA Tryz.prog 45=true := by kernel_rfl
theorem go_84:bA Tryz.prog 84=true := by kernel_rfl
theorem go_137:bA Tryz.prog 137=true := by kernel_rfl
theorem go_138:bA Tryz.prog 138=true := by kernel_rfl
theorem go_136:bA Tryz.prog 136=true := by kernel_rfl
theorem sz_152:szB Tryz.prog 152 1=true := by kernel_rfl
theorem ze_152:bz Tryz.prog 152=some (.map none) := by kernel_rfl
theorem go_91:bA Tryz.prog 91=true := by kernel_rfl
theorem go_94:bA Tryz.prog 94=true := by kernel_rfl
theorem go_93:bA Tryz.prog 93=true := by kernel_rfl
theorem go_92:bA Tryz.prog 92=true := by kernel_rfl
theorem by_69:fJ Tryz.prog 69 (.agg #[.int .i64 0, .int .i64 0, .int .i64 0]) 3 24=true := by kernel_rfl
theorem go_142:bA Tryz.prog 142=true := by kernel_rfl
theorem go_141:bA Tryz.prog 141=true := by kernel_rfl
theorem go_97:bA Tryz.prog 97=true := by kernel_rfl
theorem ust_71:rS Tryz.prog 71 [(0, 1), (1, 1), (2, 1)]=true := by kernel_rfl
theorem ze_71:bz Tryz.prog 71=some (.agg #[.slice none 0 0, .int .i64 0, .slice none 0 0]) := by kernel_rfl
theorem sz_71:szB Tryz.prog 71 3=true := by kernel_rfl
theorem fo_71_0:bd Tryz.prog 71 0=some 0 := by kernel_rfl
theorem gM:scB Tryz.prog 42=true := by kernel_rfl
theorem sO:bd Tryz.prog 71 2=some 2 := by kernel_rfl
theorem qW:bd Tryz.prog 71 1=some 1 := by kernel_rfl
theorem sz_42:szB Tryz.prog 42 1=true := by kernel_rfl
theorem ag_71:nQ Tryz.prog 71 3=true := by kernel_rfl
theorem go_99:bA Tryz.prog 99=true := by kernel_rfl
theorem gE:bA Tryz.prog 109=true := by kernel_rfl
theorem rA:bA Tryz.prog 77=true := by kernel_rfl
theorem go_98:bA Tryz.prog 98=true := by kernel_rfl
theorem go_104:bA Tryz.prog 104=true := by kernel_rfl
theorem go_46:bA Tryz.prog 46=true := by kernel_rfl
theorem go_105:bA Tryz.prog 105=true := by kernel_rfl
theorem go_106:bA Tryz.prog 106=true := by kernel_rfl
theorem ust_87:rS Tryz.prog 87 [(0, 1)]=true := by kernel_rfl
theorem ze_87:bz Tryz.prog 87=some (.agg #[.slice none 0 0]) := by kernel_rfl
theorem r6:nQ Tryz.prog 87 1=true := by kernel_rfl
theorem sz_87:szB Tryz.prog 87 1=true := by kernel_rfl
theorem dw:bd Tryz.prog 87 0=some 0 := by kernel_rfl
theorem km:scB Tryz.prog 85=true := by kernel_rfl
theorem mc_42_1:madeCells (.slice none 0 0:Value).cells (1*1) = #[.slice none 0 0] := by kernel_rfl
theorem rk:Tryz.prog.underlying 85=some (.slice 42) := by kernel_rfl
theorem ze_42:bz Tryz.prog 42=some (.slice none 0 0) := by kernel_rfl
theorem by_42:fJ Tryz.prog 42 (.slice none 0 0) 1 24=true := by kernel_rfl
theorem sz_85:szB Tryz.prog 85 1=true := by kernel_rfl
theorem q7:rS Tryz.prog 120 [(0, 1), (1, 1), (2, 1), (3, 1), (4, 1), (5, 1)]=true := by kernel_rfl
theorem tn:rS Tryz.prog 63 [(0, 1), (1, 1)]=true := by kernel_rfl
theorem mc_120_4:madeCells (.agg #[.int .i64 0, .int .i64 0, .int .i64 0, .int .i64 0, .int .i64 0, .slice none 0 0]:Value).cells (4*6) = #[.int .i64 0, .int .i64 0, .int .i64 0, .int .i64 0, .int .i64 0, .slice none 0 0, .int .i64 0, .int .i64 0, .int .i64 0, .int .i64 0, .int .i64 0, .slice none 0 0, .int .i64 0, .int .i64 0, .int .i64 0, .int .i64 0, .int .i64 0, .slice none 0 0, .int .i64 0, .int .i64 0, .int .i64 0, .int .i64 0, .int .i64 0, .slice none 0 0] := by kernel_rfl
theorem mc_63_1:madeCells (.agg #[.int .i64 0, .int .i64 0]:Value).cells (1*2) = #[.int .i64 0, .int .i64 0] := by kernel_rfl
theorem by_63:fJ Tryz.prog 63 (.agg #[.int .i64 0, .int .i64 0]) 2 16=true := by kernel_rfl
theorem ust_69:rS Tryz.prog 69 [(0, 1), (1, 1), (2, 1)]=true := by kernel_rfl
theorem ust_65:rS Tryz.prog 65 [(0, 1), (1, 2), (3, 1), (4, 1)]=true := by kernel_rfl
theorem mc_65_3:madeCells (.agg #[.int .i64 0, .int .i64 0, .int .i64 0, .int .i64 0, .int .i64 0]:Value).cells (3*5) = #[.int .i64 0, .int .i64 0, .int .i64 0, .int .i64 0, .int .i64 0, .int .i64 0, .int .i64 0, .int .i64 0, .int .i64 0, .int .i64 0, .int .i64 0, .int .i64 0, .int .i64 0, .int .i64 0, .int .i64 0] := by kernel_rfl
theorem mc_69_2:madeCells (.agg #[.int .i64 0, .int .i64 0, .int .i64 0]:Value).cells (2*3) = #[.int .i64 0, .int .i64 0, .int .i64 0, .int .i64 0, .int .i64 0, .int .i64 0] := by kernel_rfl
theorem go_69:bA Tryz.prog 69=true := by kernel_rfl
theorem go_19:bA Tryz.prog 19=true := by kernel_rfl
theorem iu:qd Tryz.prog 85=some (42, 1) := by kernel_rfl
theorem go_25:bA Tryz.prog 25=true := by kernel_rfl
theorem mc_3_2:madeCells (.int .i64 0:Value).cells (2*1) = #[.int .i64 0, .int .i64 0] := by kernel_rfl
theorem go_33:bA Tryz.prog 33=true := by kernel_rfl
theorem go_44:bA Tryz.prog 44=true := by kernel_rfl
theorem go_31:bA Tryz.prog 31=true := by kernel_rfl
theorem mc_3_3:madeCells (.int .i64 0:Value).cells (3*1) = #[.int .i64 0, .int .i64 0, .int .i64 0] := by kernel_rfl
theorem go_29:bA Tryz.prog 29=true := by kernel_rfl
theorem go_27:bA Tryz.prog 27=true := by kernel_rfl
theorem go_37:bA Tryz.prog 37=true := by kernel_rfl
theorem go_23:bA Tryz.prog 23=true := by kernel_rfl
theorem go_61:bA Tryz.prog 61=true := by kernel_rfl
theorem go_49:bA Tryz.prog 49=true := by kernel_rfl
theorem go_68:bA Tryz.prog 68=true := by kernel_rfl
theorem go_67:bA Tryz.prog 67=true := by kernel_rfl
theorem go_16:bA Tryz.prog 16=true := by kernel_rfl
theorem go_17:bA Tryz.prog 17=true := by kernel_rfl
theorem go_184:bA Tryz.prog 184=true := by kernel_rfl
theorem go_160:bA Tryz.prog 160=true := by kernel_rfl
theorem go_125:bA Tryz.prog 125=true := by kernel_rfl
theorem ust_37:rS Tryz.prog 37 [(0, 1), (1, 1)]=true := by kernel_rfl
theorem ze_37:bz Tryz.prog 37=some (.agg #[.int .i64 0, .int .i64 0]) := by kernel_rfl
theorem us_109:Tryz.prog.underlying 109=some (.slice 37) := by kernel_rfl
theorem by_37:fJ Tryz.prog 37 (.agg #[.int .i64 0, .int .i64 0]) 2 16=true := by kernel_rfl
theorem mc_37_1:madeCells (.agg #[.int .i64 0, .int .i64 0]:Value).cells (1*2) = #[.int .i64 0, .int .i64 0] := by kernel_rfl
theorem go_161:bA Tryz.prog 161=true := by kernel_rfl
theorem go_126:bA Tryz.prog 126=true := by kernel_rfl
theorem go_127:bA Tryz.prog 127=true := by kernel_rfl
theorem go_73:bA Tryz.prog 73=true := by kernel_rfl
theorem sl_109:qd Tryz.prog 109=some (37, 2) := by kernel_rfl
theorem go_74:bA Tryz.prog 74=true := by kernel_rfl
theorem go_75:bA Tryz.prog 75=true := by kernel_rfl
theorem tz:bd Tryz.prog 132 0=some 0 := by kernel_rfl
theorem go_76:bA Tryz.prog 76=true := by kernel_rfl
theorem lI:bd Tryz.prog 132 1=some 1 := by kernel_rfl
theorem go_78:bA Tryz.prog 78=true := by kernel_rfl
theorem sc_30:scB Tryz.prog 30=true := by kernel_rfl
theorem fo_37_0:bd Tryz.prog 37 0=some 0 := by kernel_rfl
theorem fo_37_1:bd Tryz.prog 37 1=some 1 := by kernel_rfl
theorem go_21:bA Tryz.prog 21=true := by kernel_rfl
theorem go_180:bA Tryz.prog 180=true := by kernel_rfl
theorem go_153:bA Tryz.prog 153=true := by kernel_rfl
theorem go_152:bA Tryz.prog 152=true := by kernel_rfl
theorem go_151:bA Tryz.prog 151=true := by kernel_rfl
theorem go_154:bA Tryz.prog 154=true := by kernel_rfl
theorem go_112:bA Tryz.prog 112=true := by kernel_rfl
theorem go_113:bA Tryz.prog 113=true := by kernel_rfl
theorem go_47:bA Tryz.prog 47=true := by kernel_rfl
theorem go_48:bA Tryz.prog 48=true := by kernel_rfl
theorem go_114:bA Tryz.prog 114=true := by kernel_rfl
theorem ust_111:rS Tryz.prog 111 [(0, 1), (1, 1)]=true := by kernel_rfl
theorem tj:bz Tryz.prog 111=some (.agg #[.slice none 0 0, .int .i64 0]) := by kernel_rfl
theorem ag_111:nQ Tryz.prog 111 2=true := by kernel_rfl
theorem sz_111:szB Tryz.prog 111 2=true := by kernel_rfl
theorem go_158:bA Tryz.prog 158=true := by kernel_rfl
theorem go_121:bA Tryz.prog 121=true := by kernel_rfl
theorem go_120:bA Tryz.prog 120=true := by kernel_rfl
theorem eg_160:Tryz.prog.eqGuardType Tryz.prog.depth 160=false := by kernel_rfl
theorem fo_111_1:bd Tryz.prog 111 1=some 1 := by kernel_rfl
theorem go_63:bA Tryz.prog 63=true := by kernel_rfl
theorem go_64:bA Tryz.prog 64=true := by kernel_rfl
theorem go_65:bA Tryz.prog 65=true := by kernel_rfl
theorem go_62:bA Tryz.prog 62=true := by kernel_rfl
theorem kf_191:fldsB Tryz.prog 191 [(0, 1, 3), (1, 1, 3)]=true := by kernel_rfl
theorem kl_191:laidOutB Tryz.prog=true := by kernel_rfl
theorem kw_191:(match Tryz.prog.underlying 191 with|some (.array _ _)|some (.struct _)=>true|_=>false)=true := by kernel_rfl
theorem nK:KeyE Tryz.prog 191 cv aW where
  keyed := .of_law (deep_law_laid kl_191 (m := 6) (by omega) (of_decide_eq_true (by kernel_rfl)) (by kernel_rfl) kw_191)
  tot := fun x h=>by
    unfold aW at h
    simp only[Bool.and_eq_true]at h
    obtain⟨h0, h1⟩ := h
    exact keyS_2 (of_decide_eq_true (by kernel_rfl)) kf_191 ui_3 ui_3 (sg h0) (sg h1)
  inj := fun x y h=>by
    cases x;cases y
    simp only[cv]at h
    simp_all
theorem ke_3:KeyE Tryz.prog 3 kI eI := keyE_int ui_3
end Go.Proofs.YthndghnkebboaaaGreat
