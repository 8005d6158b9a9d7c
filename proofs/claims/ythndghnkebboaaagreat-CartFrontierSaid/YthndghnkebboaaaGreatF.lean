import Derived.Test.YthndghnkebboaaaGreatGC
import Derived.Test.YthndghnkebboaaaGreatGz
import Derived.Test.YthndghnkebboaaaGreatP
import Derived.Test.YthndghnkebboaaaGreatProg
set_option maxRecDepth 20000
set_option linter.unusedVariables false
namespace Go.Proofs.YthndghnkebboaaaGreat
def TSpan_cells (x : TSpan) : List Value := [.int .i64 x.fLo, .int .i64 x.fHi]
theorem er (x : TSpan) : (TSpan_cells x).length = 2 := rfl
def aw (x : Twait) : List Value := [.int .i64 x.f_at, .int .i64 x.f_stop.f_place, .int .i64 x.f_stop.f_toll]
theorem aP (x : Twait) : (aw x).length = 3 := rfl
theorem nw (x : Twait) : ((aw x).all (·.oneCell')) = true := rfl
def TLeg_cells (x : TLeg) : List Value := [.int .i64 x.fTrack, .int .i64 x.fHour]
theorem bA (x : TLeg) : (TLeg_cells x).length = 2 := rfl
theorem ol (x : TLeg) : ((TLeg_cells x).all (·.oneCell')) = true := rfl
def aA (x : TO) : List Value := [.int .i64 x.fID, .int .i64 x.fH.fLo, .int .i64 x.fH.fHi, .int .i64 x.fD, .int .i64 x.fW]
theorem am (x : TO) : (aA x).length = 5 := rfl
theorem mP (x : TO) : ((aA x).all (·.oneCell')) = true := rfl
def aC (x : TBay) : List Value := [.int .i64 x.fID, .int .i64 x.fHour, .int .i64 x.fD]
theorem aI (x : TBay) : (aC x).length = 3 := rfl
theorem kQ (x : TBay) : ((aC x).all (·.oneCell')) = true := rfl
def TTrack_cells2 (p : Hd × TT) : List Value := [.int .i64 p.2.fID, .int .i64 p.2.fFrom, .int .i64 p.2.fTo, .int .i64 p.2.fLong, .int .i64 p.2.fToll, .slice p.1.1 p.1.2.1 p.1.2.2]
theorem ax (p : Hd × TT) : (TTrack_cells2 p).length = 6 := rfl
theorem iZ (p : Hd × TT) : ((TTrack_cells2 p).all (·.oneCell')) = true := rfl
theorem cZ {p : Hd × TT} {z : TT} {k : Nat} (hs : p.2 = z) (hl : p.1.2.1 = k) : TTrack_cells2 p = [.int .i64 z.fID, .int .i64 z.fFrom, .int .i64 z.fTo, .int .i64 z.fLong, .int .i64 z.fToll, .slice p.1.1 k p.1.2.2] := by subst hs hl; rfl
def TJourney_cells2 (p : Hd × TJ) : List Value := [.slice p.1.1 p.1.2.1 p.1.2.2, .int .i64 p.2.fA, .int .i64 p.2.fToll]
theorem ap (p : Hd × TJ) : (TJourney_cells2 p).length = 3 := rfl
theorem kU (p : Hd × TJ) : ((TJourney_cells2 p).all (·.oneCell')) = true := rfl
theorem dX {p : Hd × TJ} {z : TJ} {k : Nat} (hs : p.2 = z) (hl : p.1.2.1 = k) : TJourney_cells2 p = [.slice p.1.1 k p.1.2.2, .int .i64 z.fA, .int .i64 z.fToll] := by subst hs hl; rfl
def SlInt_cells2 (p : Hd × (List Int)) : List Value := [.slice p.1.1 p.1.2.1 p.1.2.2]
theorem aF (p : Hd × (List Int)) : (SlInt_cells2 p).length = 1 := rfl
theorem mS (p : Hd × (List Int)) : ((SlInt_cells2 p).all (·.oneCell')) = true := rfl
def cl (x : Ts) : Value := .agg #[.int .i64 x.f_place, .int .i64 x.f_toll]
def bW (x : Tl) : Value := .agg #[.int .i64 x.f_at, .int .i64 x.f_from.f_place, .int .i64 x.f_from.f_toll, .int .i64 x.f_leg.fTrack, .int .i64 x.f_leg.fHour, .bool x.f_begin]
theorem dV : aZ Tryz.prog 24 1 = some 1 := by kernel_rfl
theorem jK : scB Tryz.prog 22 = true := by kernel_rfl
theorem ji : Tryz.prog.underlying 22 = some (.slice 120) := by kernel_rfl
theorem kE : ph Tryz.prog 22 = some (120, 6) := by kernel_rfl
theorem mV : aZ Tryz.prog 120 5 = some 5 := by kernel_rfl
theorem rh : scB Tryz.prog 118 = true := by kernel_rfl
theorem qd : Tryz.prog.underlying 118 = some (.slice 63) := by kernel_rfl
theorem jp : aZ Tryz.prog 24 0 = some 0 := by kernel_rfl
theorem aX : scB Tryz.prog 3 = true := by kernel_rfl
theorem gx : bw Tryz.prog 107 = true := by kernel_rfl
theorem sl_118 : ph Tryz.prog 118 = some (63, 2) := by kernel_rfl
theorem ag_63 : mU Tryz.prog 63 2 = true := by kernel_rfl
theorem jk : aZ Tryz.prog 63 0 = some 0 := by kernel_rfl
theorem iq : aZ Tryz.prog 63 1 = some 1 := by kernel_rfl
theorem sz_63 : szB Tryz.prog 63 2 = true := by kernel_rfl
theorem qQ : bp Tryz.prog 63 = some (.agg #[.int .i64 0, .int .i64 0]) := by kernel_rfl
theorem jQ : mU Tryz.prog 120 6 = true := by kernel_rfl
theorem go_192 : bw Tryz.prog 192 = true := by kernel_rfl
theorem lV : aZ Tryz.prog 120 0 = some 0 := by kernel_rfl
theorem go_182 : bw Tryz.prog 182 = true := by kernel_rfl
theorem go_181 : bw Tryz.prog 181 = true := by kernel_rfl
theorem lY : aZ Tryz.prog 120 1 = some 1 := by kernel_rfl
theorem go_159 : bw Tryz.prog 159 = true := by kernel_rfl
theorem lw : aZ Tryz.prog 120 2 = some 2 := by kernel_rfl
theorem iH : aZ Tryz.prog 120 3 = some 3 := by kernel_rfl
theorem lU : aZ Tryz.prog 120 4 = some 4 := by kernel_rfl
theorem go_122 : bw Tryz.prog 122 = true := by kernel_rfl
theorem eC : mU Tryz.prog 24 2 = true := by kernel_rfl
theorem go_155 : bw Tryz.prog 155 = true := by kernel_rfl
theorem qe : szB Tryz.prog 120 6 = true := by kernel_rfl
theorem iD : bp Tryz.prog 120 = some (.agg #[.int .i64 0, .int .i64 0, .int .i64 0, .int .i64 0, .int .i64 0, .slice none 0 0]) := by kernel_rfl
theorem go_124 : bw Tryz.prog 124 = true := by kernel_rfl
theorem kS : bw Tryz.prog 108 = true := by kernel_rfl
theorem oO : Tryz.prog.underlying 198 = some (.slice 196) := by kernel_rfl
theorem ms : ph Tryz.prog 198 = some (196, 3) := by kernel_rfl
theorem mY : aZ Tryz.prog 196 0 = some 0 := by kernel_rfl
theorem dm : Tryz.prog.follows .mixedOrders = true := by kernel_rfl
theorem rp : mU Tryz.prog 196 3 = true := by kernel_rfl
theorem rt : szB Tryz.prog 196 3 = true := by kernel_rfl
theorem jr : lK Tryz.prog 194 "Less" = some (212, false) := by kernel_rfl
theorem jG : Tryz.prog.underlying 194 = some (.pointer 198) := by kernel_rfl
theorem i8 : scB Tryz.prog 198 = true := by kernel_rfl
theorem rH : bw Tryz.prog 212 = true := by kernel_rfl
theorem jj : lK Tryz.prog 194 "Swap" = some (215, false) := by kernel_rfl
theorem mA : bw Tryz.prog 215 = true := by kernel_rfl
theorem pw : sq Tryz.prog 196 = true := by kernel_rfl
theorem sz_198 : szB Tryz.prog 198 1 = true := by kernel_rfl
theorem nj : bp Tryz.prog 196 = some (.agg #[.int .i64 0, .int .i64 0, .int .i64 0]) := by kernel_rfl
theorem oP : lK Tryz.prog 194 "Len" = some (147, false) := by kernel_rfl
theorem sK : bw Tryz.prog 147 = true := by kernel_rfl
theorem rY : lK Tryz.prog 194 "Pop" = some (213, true) := by kernel_rfl
theorem go_213 : bw Tryz.prog 213 = true := by kernel_rfl
theorem go_177 : bw Tryz.prog 177 = true := by kernel_rfl
theorem rB : madeCells (.agg #[.int .i64 0, .int .i64 0, .int .i64 0] : Value).cells (1 * 3) = #[.int .i64 0, .int .i64 0, .int .i64 0] := by kernel_rfl
theorem tc : eS Tryz.prog 196 (.agg #[.int .i64 0, .int .i64 0, .int .i64 0]) 3 24 = true := by kernel_rfl
theorem qt : lK Tryz.prog 194 "Push" = some (214, true) := by kernel_rfl
theorem go_214 : bw Tryz.prog 214 = true := by kernel_rfl
theorem go_179 : bw Tryz.prog 179 = true := by kernel_rfl
theorem nz : qr Tryz.prog 191 [(0, 1), (1, 1)] = true := by kernel_rfl
theorem oA : bp Tryz.prog 191 = some (.agg #[.int .i64 0, .int .i64 0]) := by kernel_rfl
theorem th : qr Tryz.prog 193 [(0, 1), (1, 2), (3, 2), (5, 1)] = true := by kernel_rfl
theorem jH : bp Tryz.prog 193 = some (.agg #[.int .i64 0, .int .i64 0, .int .i64 0, .int .i64 0, .int .i64 0, .bool false]) := by kernel_rfl
theorem sP : qr Tryz.prog 196 [(0, 1), (1, 2)] = true := by kernel_rfl
theorem sW : scB Tryz.prog 194 = true := by kernel_rfl
theorem tQ : sq Tryz.prog 194 = true := by kernel_rfl
theorem rn : scB Tryz.prog 157 = true := by kernel_rfl
theorem m8 : aZ Tryz.prog 196 1 = some 1 := by kernel_rfl
theorem mz : mU Tryz.prog 191 2 = true := by kernel_rfl
theorem mH : Tryz.prog.underlying 157 = some (.map 191 193) := by kernel_rfl
theorem qZ : fldT Tryz.prog 193 0 = some (3, 0) := by kernel_rfl
theorem fo_191_0 : aZ Tryz.prog 191 0 = some 0 := by kernel_rfl
theorem rc : bw Tryz.prog 123 = true := by kernel_rfl
theorem o1 : aZ Tryz.prog 191 1 = some 1 := by kernel_rfl
theorem pA : aZ Tryz.prog 193 0 = some 0 := by kernel_rfl
theorem ust_132 : qr Tryz.prog 132 [(0, 1), (1, 1)] = true := by kernel_rfl
theorem ro : bp Tryz.prog 132 = some (.agg #[.int .i64 0, .int .i64 0]) := by kernel_rfl
theorem go_150 : bw Tryz.prog 150 = true := by kernel_rfl
theorem pX : szB Tryz.prog 193 6 = true := by kernel_rfl
theorem sz_191 : szB Tryz.prog 191 2 = true := by kernel_rfl
theorem go_178 : bw Tryz.prog 178 = true := by kernel_rfl
theorem go_149 : bw Tryz.prog 149 = true := by kernel_rfl
theorem go_148 : bw Tryz.prog 148 = true := by kernel_rfl
theorem sz_194 : szB Tryz.prog 194 1 = true := by kernel_rfl
theorem ze_194 : bp Tryz.prog 194 = some (.pointer none) := by kernel_rfl
theorem sz_157 : szB Tryz.prog 157 1 = true := by kernel_rfl
theorem ze_157 : bp Tryz.prog 157 = some (.map none) := by kernel_rfl
theorem re : arrOf Tryz.prog 160 = some (61, 1) := by kernel_rfl
theorem pD : szB Tryz.prog 3 1 = true := by kernel_rfl
theorem nA : mU Tryz.prog 160 61 = true := by kernel_rfl
theorem qq : szB Tryz.prog 160 61 = true := by kernel_rfl
theorem oV : bp Tryz.prog 160 = some (.agg (encL cI (List.replicate 61 0)).toArray) := by kernel_rfl
theorem sx : Tryz.prog.underlying 27 = some (.slice 132) := by kernel_rfl
theorem tN : ph Tryz.prog 27 = some (132, 2) := by kernel_rfl
theorem rG : mU Tryz.prog 132 2 = true := by kernel_rfl
theorem tA : szB Tryz.prog 132 2 = true := by kernel_rfl
theorem tx : qr Tryz.prog 29 [(0, 1), (1, 1), (2, 1)] = true := by kernel_rfl
theorem jN : bp Tryz.prog 29 = some (.agg #[.slice none 0 0, .int .i64 0, .int .i64 0]) := by kernel_rfl
theorem fo_193_3 : aZ Tryz.prog 193 3 = some 5 := by kernel_rfl
theorem sc_4 : scB Tryz.prog 4 = true := by kernel_rfl
theorem nx : aZ Tryz.prog 29 0 = some 0 := by kernel_rfl
theorem sc_27 : scB Tryz.prog 27 = true := by kernel_rfl
theorem fo_193_2 : aZ Tryz.prog 193 2 = some 3 := by kernel_rfl
theorem ag_193 : mU Tryz.prog 193 6 = true := by kernel_rfl
theorem fo_193_1 : aZ Tryz.prog 193 1 = some 1 := by kernel_rfl
theorem sz_27 : szB Tryz.prog 27 1 = true := by kernel_rfl
theorem by_132 : eS Tryz.prog 132 (.agg #[.int .i64 0, .int .i64 0]) 2 16 = true := by kernel_rfl
theorem mc_132_1 : madeCells (.agg #[.int .i64 0, .int .i64 0] : Value).cells (1 * 2) = #[.int .i64 0, .int .i64 0] := by kernel_rfl
theorem jB : mU Tryz.prog 29 3 = true := by kernel_rfl
theorem k9 : szB Tryz.prog 29 3 = true := by kernel_rfl
theorem go_183 : bw Tryz.prog 183 = true := by kernel_rfl
theorem rz : Tryz.prog.underlying 160 = some (.array 61 3) := by kernel_rfl
theorem kN : Tryz.prog.underlying 106 = some (.slice 29) := by kernel_rfl
theorem by_29 : eS Tryz.prog 29 (.agg #[.slice none 0 0, .int .i64 0, .int .i64 0]) 3 40 = true := by kernel_rfl
theorem mc_29_1 : madeCells (.agg #[.slice none 0 0, .int .i64 0, .int .i64 0] : Value).cells (1 * 3) = #[.slice none 0 0, .int .i64 0, .int .i64 0] := by kernel_rfl
theorem go_157 : bw Tryz.prog 157 = true := by kernel_rfl
theorem go_111 : bw Tryz.prog 111 = true := by kernel_rfl
theorem go_110 : bw Tryz.prog 110 = true := by kernel_rfl
theorem iW : ph Tryz.prog 106 = some (29, 3) := by kernel_rfl
theorem ik : aZ Tryz.prog 29 2 = some 2 := by kernel_rfl
theorem go_119 : bw Tryz.prog 119 = true := by kernel_rfl
theorem sn : bw Tryz.prog 70 = true := by kernel_rfl
theorem go_71 : bw Tryz.prog 71 = true := by kernel_rfl
theorem gh : aZ Tryz.prog 29 1 = some 1 := by kernel_rfl
theorem go_72 : bw Tryz.prog 72 = true := by kernel_rfl
theorem rN : eS Tryz.prog 120 (.agg #[.int .i64 0, .int .i64 0, .int .i64 0, .int .i64 0, .int .i64 0, .slice none 0 0]) 6 64 = true := by kernel_rfl
theorem rI : bw Tryz.prog 176 = true := by kernel_rfl
theorem dN : ph Tryz.prog 42 = some (3, 1) := by kernel_rfl
theorem go_168 : bw Tryz.prog 168 = true := by kernel_rfl
theorem us_s9 : Tryz.prog.underlying 9 = some .string := by kernel_rfl
theorem ui_220 : Tryz.prog.underlying 220 = some (.int .u64) := by kernel_rfl
theorem ui_3 : Tryz.prog.underlying 3 = some (.int .i64) := by kernel_rfl
theorem ui_5 : Tryz.prog.underlying 5 = some (.int .u8) := by kernel_rfl
theorem go_172 : bw Tryz.prog 172 = true := by kernel_rfl
theorem ui_176 : Tryz.prog.underlying 176 = some (.int .u64) := by kernel_rfl
theorem go_129 : bw Tryz.prog 129 = true := by kernel_rfl
theorem go_162 : bw Tryz.prog 162 = true := by kernel_rfl
theorem go_128 : bw Tryz.prog 128 = true := by kernel_rfl
theorem c8 : Tryz.prog.underlying 42 = some (.slice 3) := by kernel_rfl
theorem go_80 : bw Tryz.prog 80 = true := by kernel_rfl
theorem go_79 : bw Tryz.prog 79 = true := by kernel_rfl
theorem ust_24 : qr Tryz.prog 24 [(0, 1), (1, 1)] = true := by kernel_rfl
theorem sM : bp Tryz.prog 24 = some (.agg #[.int .i64 0, .slice none 0 0]) := by kernel_rfl
theorem sz_24 : szB Tryz.prog 24 2 = true := by kernel_rfl
theorem mB : bp Tryz.prog 3 = some (.int .i64 0) := by kernel_rfl
theorem pp : eS Tryz.prog 3 (.int .i64 0) 1 8 = true := by kernel_rfl
theorem nN : madeCells (.int .i64 0 : Value).cells (1 * 1) = #[.int .i64 0] := by kernel_rfl
theorem go_81 : bw Tryz.prog 81 = true := by kernel_rfl
theorem go_18 : bw Tryz.prog 18 = true := by kernel_rfl
theorem k8 : Tryz.prog.underlying 51 = some (.slice 65) := by kernel_rfl
theorem ke : ph Tryz.prog 51 = some (65, 5) := by kernel_rfl
theorem pO : mU Tryz.prog 65 5 = true := by kernel_rfl
theorem go_173 : bw Tryz.prog 173 = true := by kernel_rfl
theorem jW : aZ Tryz.prog 65 0 = some 0 := by kernel_rfl
theorem cj : aZ Tryz.prog 53 1 = some 1 := by kernel_rfl
theorem gr : scB Tryz.prog 51 = true := by kernel_rfl
theorem go_135 : bw Tryz.prog 135 = true := by kernel_rfl
theorem go_134 : bw Tryz.prog 134 = true := by kernel_rfl
theorem jL : Tryz.prog.underlying 50 = some (.slice 69) := by kernel_rfl
theorem ml : ph Tryz.prog 50 = some (69, 3) := by kernel_rfl
theorem ag_69 : mU Tryz.prog 69 3 = true := by kernel_rfl
theorem go_174 : bw Tryz.prog 174 = true := by kernel_rfl
theorem jS : aZ Tryz.prog 69 0 = some 0 := by kernel_rfl
theorem ei : aZ Tryz.prog 53 0 = some 0 := by kernel_rfl
theorem j6 : scB Tryz.prog 50 = true := by kernel_rfl
theorem go_140 : bw Tryz.prog 140 = true := by kernel_rfl
theorem go_139 : bw Tryz.prog 139 = true := by kernel_rfl
theorem pj : aZ Tryz.prog 69 1 = some 1 := by kernel_rfl
theorem pB : aZ Tryz.prog 69 2 = some 2 := by kernel_rfl
theorem dl : mU Tryz.prog 53 2 = true := by kernel_rfl
theorem go_96 : bw Tryz.prog 96 = true := by kernel_rfl
theorem sz_69 : szB Tryz.prog 69 3 = true := by kernel_rfl
theorem oe : bp Tryz.prog 69 = some (.agg #[.int .i64 0, .int .i64 0, .int .i64 0]) := by kernel_rfl
theorem gH : aZ Tryz.prog 65 1 = some 1 := by kernel_rfl
theorem pq : aZ Tryz.prog 65 2 = some 3 := by kernel_rfl
theorem iP : aZ Tryz.prog 65 3 = some 4 := by kernel_rfl
theorem go_90 : bw Tryz.prog 90 = true := by kernel_rfl
theorem sz_65 : szB Tryz.prog 65 5 = true := by kernel_rfl
theorem oz : bp Tryz.prog 65 = some (.agg #[.int .i64 0, .int .i64 0, .int .i64 0, .int .i64 0, .int .i64 0]) := by kernel_rfl
theorem sc_189 : scB Tryz.prog 189 = true := by kernel_rfl
theorem um_189 : Tryz.prog.underlying 189 = some (.map 3 4) := by kernel_rfl
theorem ze_4 : bp Tryz.prog 4 = some (.bool false) := by kernel_rfl
theorem go_101 : bw Tryz.prog 101 = true := by kernel_rfl
theorem rD : scB Tryz.prog 152 = true := by kernel_rfl
theorem pV : Tryz.prog.underlying 152 = some (.map 3 3) := by kernel_rfl
theorem sc_127 : scB Tryz.prog 127 = true := by kernel_rfl
theorem go_156 : bw Tryz.prog 156 = true := by kernel_rfl
theorem sz_127 : szB Tryz.prog 127 1 = true := by kernel_rfl
theorem ze_127 : bp Tryz.prog 127 = some (.nilFunc) := by kernel_rfl
theorem sz_189 : szB Tryz.prog 189 1 = true := by kernel_rfl
theorem ze_189 : bp Tryz.prog 189 = some (.map none) := by kernel_rfl
theorem go_190 : bw Tryz.prog 190 = true := by kernel_rfl
theorem go_175 : bw Tryz.prog 175 = true := by kernel_rfl
theorem go_145 : bw Tryz.prog 145 = true := by kernel_rfl
theorem go_144 : bw Tryz.prog 144 = true := by kernel_rfl
theorem go_117 : bw Tryz.prog 117 = true := by kernel_rfl
theorem go_143 : bw Tryz.prog 143 = true := by kernel_rfl
theorem go_130 : bw Tryz.prog 130 = true := by kernel_rfl
theorem go_100 : bw Tryz.prog 100 = true := by kernel_rfl
theorem by_65 : eS Tryz.prog 65 (.agg #[.int .i64 0, .int .i64 0, .int .i64 0, .int .i64 0, .int .i64 0]) 5 40 = true := by kernel_rfl
theorem go_115 : bw Tryz.prog 115 = true := by kernel_rfl
theorem sE : qr Tryz.prog 53 [(0, 1), (1, 1)] = true := by kernel_rfl
theorem qC : bp Tryz.prog 53 = some (.agg #[.slice none 0 0, .slice none 0 0]) := by kernel_rfl
theorem sz_53 : szB Tryz.prog 53 2 = true := by kernel_rfl
theorem rT : bw Tryz.prog 83 = true := by kernel_rfl
theorem go_131 : bw Tryz.prog 131 = true := by kernel_rfl
theorem go_85 : bw Tryz.prog 85 = true := by kernel_rfl
theorem go_88 : bw Tryz.prog 88 = true := by kernel_rfl
theorem tj : bw Tryz.prog 45 = true := by kernel_rfl
theorem go_84 : bw Tryz.prog 84 = true := by kernel_rfl
theorem go_137 : bw Tryz.prog 137 = true := by kernel_rfl
theorem tU : bw Tryz.prog 138 = true := by kernel_rfl
theorem go_136 : bw Tryz.prog 136 = true := by kernel_rfl
theorem sz_152 : szB Tryz.prog 152 1 = true := by kernel_rfl
theorem ze_152 : bp Tryz.prog 152 = some (.map none) := by kernel_rfl
theorem go_91 : bw Tryz.prog 91 = true := by kernel_rfl
theorem go_94 : bw Tryz.prog 94 = true := by kernel_rfl
theorem go_93 : bw Tryz.prog 93 = true := by kernel_rfl
theorem go_92 : bw Tryz.prog 92 = true := by kernel_rfl
theorem by_69 : eS Tryz.prog 69 (.agg #[.int .i64 0, .int .i64 0, .int .i64 0]) 3 24 = true := by kernel_rfl
theorem go_142 : bw Tryz.prog 142 = true := by kernel_rfl
theorem go_141 : bw Tryz.prog 141 = true := by kernel_rfl
theorem go_97 : bw Tryz.prog 97 = true := by kernel_rfl
theorem ust_71 : qr Tryz.prog 71 [(0, 1), (1, 1), (2, 1)] = true := by kernel_rfl
theorem rZ : bp Tryz.prog 71 = some (.agg #[.slice none 0 0, .int .i64 0, .slice none 0 0]) := by kernel_rfl
theorem tl : szB Tryz.prog 71 3 = true := by kernel_rfl
theorem fo_71_0 : aZ Tryz.prog 71 0 = some 0 := by kernel_rfl
theorem lX : scB Tryz.prog 42 = true := by kernel_rfl
theorem qp : aZ Tryz.prog 71 2 = some 2 := by kernel_rfl
theorem o5 : aZ Tryz.prog 71 1 = some 1 := by kernel_rfl
theorem sz_42 : szB Tryz.prog 42 1 = true := by kernel_rfl
theorem tT : mU Tryz.prog 71 3 = true := by kernel_rfl
theorem go_99 : bw Tryz.prog 99 = true := by kernel_rfl
theorem mF : bw Tryz.prog 109 = true := by kernel_rfl
theorem go_77 : bw Tryz.prog 77 = true := by kernel_rfl
theorem go_98 : bw Tryz.prog 98 = true := by kernel_rfl
theorem tD : bw Tryz.prog 104 = true := by kernel_rfl
theorem go_46 : bw Tryz.prog 46 = true := by kernel_rfl
theorem go_105 : bw Tryz.prog 105 = true := by kernel_rfl
theorem go_106 : bw Tryz.prog 106 = true := by kernel_rfl
theorem ust_87 : qr Tryz.prog 87 [(0, 1)] = true := by kernel_rfl
theorem tw : bp Tryz.prog 87 = some (.agg #[.slice none 0 0]) := by kernel_rfl
theorem qB : mU Tryz.prog 87 1 = true := by kernel_rfl
theorem sz_87 : szB Tryz.prog 87 1 = true := by kernel_rfl
theorem eQ : aZ Tryz.prog 87 0 = some 0 := by kernel_rfl
theorem kZ : scB Tryz.prog 85 = true := by kernel_rfl
theorem mc_42_1 : madeCells (.slice none 0 0 : Value).cells (1 * 1) = #[.slice none 0 0] := by kernel_rfl
theorem qH : Tryz.prog.underlying 85 = some (.slice 42) := by kernel_rfl
theorem ze_42 : bp Tryz.prog 42 = some (.slice none 0 0) := by kernel_rfl
theorem by_42 : eS Tryz.prog 42 (.slice none 0 0) 1 24 = true := by kernel_rfl
theorem sz_85 : szB Tryz.prog 85 1 = true := by kernel_rfl
theorem oX : qr Tryz.prog 120 [(0, 1), (1, 1), (2, 1), (3, 1), (4, 1), (5, 1)] = true := by kernel_rfl
theorem qV : qr Tryz.prog 63 [(0, 1), (1, 1)] = true := by kernel_rfl
theorem mc_120_4 : madeCells (.agg #[.int .i64 0, .int .i64 0, .int .i64 0, .int .i64 0, .int .i64 0, .slice none 0 0] : Value).cells (4 * 6) = #[.int .i64 0, .int .i64 0, .int .i64 0, .int .i64 0, .int .i64 0, .slice none 0 0, .int .i64 0, .int .i64 0, .int .i64 0, .int .i64 0, .int .i64 0, .slice none 0 0, .int .i64 0, .int .i64 0, .int .i64 0, .int .i64 0, .int .i64 0, .slice none 0 0, .int .i64 0, .int .i64 0, .int .i64 0, .int .i64 0, .int .i64 0, .slice none 0 0] := by kernel_rfl
theorem mc_63_1 : madeCells (.agg #[.int .i64 0, .int .i64 0] : Value).cells (1 * 2) = #[.int .i64 0, .int .i64 0] := by kernel_rfl
theorem by_63 : eS Tryz.prog 63 (.agg #[.int .i64 0, .int .i64 0]) 2 16 = true := by kernel_rfl
theorem ust_69 : qr Tryz.prog 69 [(0, 1), (1, 1), (2, 1)] = true := by kernel_rfl
theorem tq : qr Tryz.prog 65 [(0, 1), (1, 2), (3, 1), (4, 1)] = true := by kernel_rfl
theorem mc_65_3 : madeCells (.agg #[.int .i64 0, .int .i64 0, .int .i64 0, .int .i64 0, .int .i64 0] : Value).cells (3 * 5) = #[.int .i64 0, .int .i64 0, .int .i64 0, .int .i64 0, .int .i64 0, .int .i64 0, .int .i64 0, .int .i64 0, .int .i64 0, .int .i64 0, .int .i64 0, .int .i64 0, .int .i64 0, .int .i64 0, .int .i64 0] := by kernel_rfl
theorem mc_69_2 : madeCells (.agg #[.int .i64 0, .int .i64 0, .int .i64 0] : Value).cells (2 * 3) = #[.int .i64 0, .int .i64 0, .int .i64 0, .int .i64 0, .int .i64 0, .int .i64 0] := by kernel_rfl
theorem go_69 : bw Tryz.prog 69 = true := by kernel_rfl
theorem go_19 : bw Tryz.prog 19 = true := by kernel_rfl
theorem og : ph Tryz.prog 85 = some (42, 1) := by kernel_rfl
theorem go_25 : bw Tryz.prog 25 = true := by kernel_rfl
theorem sS : madeCells (.int .i64 0 : Value).cells (2 * 1) = #[.int .i64 0, .int .i64 0] := by kernel_rfl
theorem go_33 : bw Tryz.prog 33 = true := by kernel_rfl
theorem go_44 : bw Tryz.prog 44 = true := by kernel_rfl
theorem go_31 : bw Tryz.prog 31 = true := by kernel_rfl
theorem mc_3_3 : madeCells (.int .i64 0 : Value).cells (3 * 1) = #[.int .i64 0, .int .i64 0, .int .i64 0] := by kernel_rfl
theorem go_29 : bw Tryz.prog 29 = true := by kernel_rfl
theorem go_27 : bw Tryz.prog 27 = true := by kernel_rfl
theorem go_37 : bw Tryz.prog 37 = true := by kernel_rfl
theorem go_23 : bw Tryz.prog 23 = true := by kernel_rfl
theorem go_61 : bw Tryz.prog 61 = true := by kernel_rfl
theorem go_49 : bw Tryz.prog 49 = true := by kernel_rfl
theorem go_68 : bw Tryz.prog 68 = true := by kernel_rfl
theorem go_67 : bw Tryz.prog 67 = true := by kernel_rfl
theorem go_16 : bw Tryz.prog 16 = true := by kernel_rfl
theorem tC : bw Tryz.prog 17 = true := by kernel_rfl
theorem fo_132_0 : aZ Tryz.prog 132 0 = some 0 := by kernel_rfl
theorem lW : aZ Tryz.prog 132 1 = some 1 := by kernel_rfl
theorem go_180 : bw Tryz.prog 180 = true := by kernel_rfl
theorem go_153 : bw Tryz.prog 153 = true := by kernel_rfl
theorem go_152 : bw Tryz.prog 152 = true := by kernel_rfl
theorem go_151 : bw Tryz.prog 151 = true := by kernel_rfl
theorem go_154 : bw Tryz.prog 154 = true := by kernel_rfl
theorem go_112 : bw Tryz.prog 112 = true := by kernel_rfl
theorem go_113 : bw Tryz.prog 113 = true := by kernel_rfl
theorem go_47 : bw Tryz.prog 47 = true := by kernel_rfl
theorem go_48 : bw Tryz.prog 48 = true := by kernel_rfl
theorem go_51 : bw Tryz.prog 51 = true := by kernel_rfl
theorem go_158 : bw Tryz.prog 158 = true := by kernel_rfl
theorem go_121 : bw Tryz.prog 121 = true := by kernel_rfl
theorem go_120 : bw Tryz.prog 120 = true := by kernel_rfl
theorem eg_160 : Tryz.prog.eqGuardType Tryz.prog.depth 160 = false := by kernel_rfl
theorem go_64 : bw Tryz.prog 64 = true := by kernel_rfl
theorem go_66 : bw Tryz.prog 66 = true := by kernel_rfl
theorem kf_191 : fldsB Tryz.prog 191 [(0, 1, 3), (1, 1, 3)] = true := by kernel_rfl
theorem kl_191 : laidOutB Tryz.prog = true := by kernel_rfl
theorem kw_191 : (match Tryz.prog.underlying 191 with | some (.array _ _) | some (.struct _) => true | _ => false) = true := by kernel_rfl
theorem mI : KeyE Tryz.prog 191 cl aO where
  keyed := .of_law (deep_law_laid kl_191 (m := 6) (by omega) (of_decide_eq_true (by kernel_rfl)) (by kernel_rfl) kw_191)
  tot := fun x h => by
    unfold aO at h
    simp only [Bool.and_eq_true] at h
    obtain ⟨h0, h1⟩ := h
    exact keyS_2 (of_decide_eq_true (by kernel_rfl)) kf_191 ui_3 ui_3 (qP h0) (qP h1)
  inj := fun x y h => by
    cases x; cases y
    simp only [cl] at h
    simp_all
theorem ke_3 : KeyE Tryz.prog 3 kI dP := keyE_int ui_3
end Go.Proofs.YthndghnkebboaaaGreat
