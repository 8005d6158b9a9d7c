import Derived.Test.YthndghnkebboaaaGreatGk
import Derived.Test.YthndghnkebboaaaGreatGz
import Derived.Test.YthndghnkebboaaaGreatP
import Derived.Test.YthndghnkebboaaaGreatProg
set_option maxRecDepth 20000
set_option linter.unusedVariables false
namespace Go.Proofs.YthndghnkebboaaaGreat
def aK (x : TSpan) : List Value := [.int .i64 x.fLo, .int .i64 x.fHi]
theorem d5 (x : TSpan) : (aK x).length = 2 := rfl
def au (x : Twait) : List Value := [.int .i64 x.f_at, .int .i64 x.f_stop.f_place, .int .i64 x.f_stop.f_toll]
theorem aN (x : Twait) : (au x).length = 3 := rfl
theorem nl (x : Twait) : ((au x).all (·.oneCell')) = true := rfl
def bu (x : TLeg) : List Value := [.int .i64 x.fTrack, .int .i64 x.fHour]
theorem bP (x : TLeg) : (bu x).length = 2 := rfl
theorem nH (x : TLeg) : ((bu x).all (·.oneCell')) = true := rfl
def TOrder_cells (x : TO) : List Value := [.int .i64 x.fID, .int .i64 x.fH.fLo, .int .i64 x.fH.fHi, .int .i64 x.fD, .int .i64 x.fW]
theorem ae (x : TO) : (TOrder_cells x).length = 5 := rfl
theorem eO (x : TO) : ((TOrder_cells x).all (·.oneCell')) = true := rfl
def TBay_cells (x : TBay) : List Value := [.int .i64 x.fID, .int .i64 x.fHour, .int .i64 x.fD]
theorem aE (x : TBay) : (TBay_cells x).length = 3 := rfl
theorem kg (x : TBay) : ((TBay_cells x).all (·.oneCell')) = true := rfl
def aB (p : Hd × TT) : List Value := [.int .i64 p.2.fID, .int .i64 p.2.fFrom, .int .i64 p.2.fTo, .int .i64 p.2.fLong, .int .i64 p.2.fToll, .slice p.1.1 p.1.2.1 p.1.2.2]
theorem aT (p : Hd × TT) : (aB p).length = 6 := rfl
theorem iP (p : Hd × TT) : ((aB p).all (·.oneCell')) = true := rfl
theorem eK {p : Hd × TT} {z : TT} {k : Nat} (hs : p.2 = z) (hl : p.1.2.1 = k) : aB p = [.int .i64 z.fID, .int .i64 z.fFrom, .int .i64 z.fTo, .int .i64 z.fLong, .int .i64 z.fToll, .slice p.1.1 k p.1.2.2] := by subst hs hl; rfl
def cm (p : Hd × TJ) : List Value := [.slice p.1.1 p.1.2.1 p.1.2.2, .int .i64 p.2.fA, .int .i64 p.2.fToll]
theorem a6 (p : Hd × TJ) : (cm p).length = 3 := rfl
theorem kz (p : Hd × TJ) : ((cm p).all (·.oneCell')) = true := rfl
theorem la {p : Hd × TJ} {z : TJ} {k : Nat} (hs : p.2 = z) (hl : p.1.2.1 = k) : cm p = [.slice p.1.1 k p.1.2.2, .int .i64 z.fA, .int .i64 z.fToll] := by subst hs hl; rfl
def dE (p : Hd × (List Int)) : List Value := [.slice p.1.1 p.1.2.1 p.1.2.2]
theorem bA (p : Hd × (List Int)) : (dE p).length = 1 := rfl
theorem mi (p : Hd × (List Int)) : ((dE p).all (·.oneCell')) = true := rfl
def cn (x : Ts) : Value := .agg #[.int .i64 x.f_place, .int .i64 x.f_toll]
def cf (x : Tl) : Value := .agg #[.int .i64 x.f_at, .int .i64 x.f_from.f_place, .int .i64 x.f_from.f_toll, .int .i64 x.f_leg.fTrack, .int .i64 x.f_leg.fHour, .bool x.f_begin]
theorem kH : aZ Tryz.prog 24 1 = some 1 := by kernel_rfl
theorem qg : scB Tryz.prog 22 = true := by kernel_rfl
theorem kW : Tryz.prog.underlying 22 = some (.slice 120) := by kernel_rfl
theorem o9 : o7 Tryz.prog 22 = some (120, 6) := by kernel_rfl
theorem o3 : aZ Tryz.prog 120 5 = some 5 := by kernel_rfl
theorem sw : scB Tryz.prog 118 = true := by kernel_rfl
theorem q5 : Tryz.prog.underlying 118 = some (.slice 63) := by kernel_rfl
theorem lT : aZ Tryz.prog 24 0 = some 0 := by kernel_rfl
theorem ba : scB Tryz.prog 3 = true := by kernel_rfl
theorem gv : bD Tryz.prog 107 = true := by kernel_rfl
theorem sl_118 : o7 Tryz.prog 118 = some (63, 2) := by kernel_rfl
theorem ag_63 : mh Tryz.prog 63 2 = true := by kernel_rfl
theorem iV : aZ Tryz.prog 63 0 = some 0 := by kernel_rfl
theorem g5 : aZ Tryz.prog 63 1 = some 1 := by kernel_rfl
theorem sz_63 : szB Tryz.prog 63 2 = true := by kernel_rfl
theorem pN : bk Tryz.prog 63 = some (.agg #[.int .i64 0, .int .i64 0]) := by kernel_rfl
theorem lZ : mh Tryz.prog 120 6 = true := by kernel_rfl
theorem go_192 : bD Tryz.prog 192 = true := by kernel_rfl
theorem k5 : aZ Tryz.prog 120 0 = some 0 := by kernel_rfl
theorem go_182 : bD Tryz.prog 182 = true := by kernel_rfl
theorem go_181 : bD Tryz.prog 181 = true := by kernel_rfl
theorem oQ : aZ Tryz.prog 120 1 = some 1 := by kernel_rfl
theorem go_159 : bD Tryz.prog 159 = true := by kernel_rfl
theorem pe : aZ Tryz.prog 120 2 = some 2 := by kernel_rfl
theorem lA : aZ Tryz.prog 120 3 = some 3 := by kernel_rfl
theorem qp : aZ Tryz.prog 120 4 = some 4 := by kernel_rfl
theorem go_122 : bD Tryz.prog 122 = true := by kernel_rfl
theorem ip : mh Tryz.prog 24 2 = true := by kernel_rfl
theorem go_155 : bD Tryz.prog 155 = true := by kernel_rfl
theorem qN : szB Tryz.prog 120 6 = true := by kernel_rfl
theorem iH : bk Tryz.prog 120 = some (.agg #[.int .i64 0, .int .i64 0, .int .i64 0, .int .i64 0, .int .i64 0, .slice none 0 0]) := by kernel_rfl
theorem go_124 : bD Tryz.prog 124 = true := by kernel_rfl
theorem nz : bD Tryz.prog 108 = true := by kernel_rfl
theorem n2 : Tryz.prog.underlying 198 = some (.slice 196) := by kernel_rfl
theorem lY : o7 Tryz.prog 198 = some (196, 3) := by kernel_rfl
theorem mC : aZ Tryz.prog 196 0 = some 0 := by kernel_rfl
theorem dD : Tryz.prog.follows .mixedOrders = true := by kernel_rfl
theorem qX : mh Tryz.prog 196 3 = true := by kernel_rfl
theorem qx : szB Tryz.prog 196 3 = true := by kernel_rfl
theorem i7 : kL Tryz.prog 194 "Less" = some (212, false) := by kernel_rfl
theorem jk : Tryz.prog.underlying 194 = some (.pointer 198) := by kernel_rfl
theorem iN : scB Tryz.prog 198 = true := by kernel_rfl
theorem qo : bD Tryz.prog 212 = true := by kernel_rfl
theorem i4 : kL Tryz.prog 194 "Swap" = some (215, false) := by kernel_rfl
theorem l6 : bD Tryz.prog 215 = true := by kernel_rfl
theorem ou : rB Tryz.prog 196 = true := by kernel_rfl
theorem sz_198 : szB Tryz.prog 198 1 = true := by kernel_rfl
theorem mZ : bk Tryz.prog 196 = some (.agg #[.int .i64 0, .int .i64 0, .int .i64 0]) := by kernel_rfl
theorem nR : kL Tryz.prog 194 "Len" = some (147, false) := by kernel_rfl
theorem sv : bD Tryz.prog 147 = true := by kernel_rfl
theorem rl : kL Tryz.prog 194 "Pop" = some (213, true) := by kernel_rfl
theorem go_213 : bD Tryz.prog 213 = true := by kernel_rfl
theorem go_177 : bD Tryz.prog 177 = true := by kernel_rfl
theorem q6 : madeCells (.agg #[.int .i64 0, .int .i64 0, .int .i64 0] : Value).cells (1 * 3) = #[.int .i64 0, .int .i64 0, .int .i64 0] := by kernel_rfl
theorem se : eA Tryz.prog 196 (.agg #[.int .i64 0, .int .i64 0, .int .i64 0]) 3 24 = true := by kernel_rfl
theorem pZ : kL Tryz.prog 194 "Push" = some (214, true) := by kernel_rfl
theorem go_214 : bD Tryz.prog 214 = true := by kernel_rfl
theorem go_179 : bD Tryz.prog 179 = true := by kernel_rfl
theorem mY : pY Tryz.prog 191 [(0, 1), (1, 1)] = true := by kernel_rfl
theorem nJ : bk Tryz.prog 191 = some (.agg #[.int .i64 0, .int .i64 0]) := by kernel_rfl
theorem r4 : pY Tryz.prog 193 [(0, 1), (1, 2), (3, 2), (5, 1)] = true := by kernel_rfl
theorem jh : bk Tryz.prog 193 = some (.agg #[.int .i64 0, .int .i64 0, .int .i64 0, .int .i64 0, .int .i64 0, .bool false]) := by kernel_rfl
theorem ust_196 : pY Tryz.prog 196 [(0, 1), (1, 2)] = true := by kernel_rfl
theorem tb : scB Tryz.prog 194 = true := by kernel_rfl
theorem sb : rB Tryz.prog 194 = true := by kernel_rfl
theorem q9 : scB Tryz.prog 157 = true := by kernel_rfl
theorem mI : aZ Tryz.prog 196 1 = some 1 := by kernel_rfl
theorem l7 : mh Tryz.prog 191 2 = true := by kernel_rfl
theorem l5 : Tryz.prog.underlying 157 = some (.map 191 193) := by kernel_rfl
theorem qU : fldT Tryz.prog 193 0 = some (3, 0) := by kernel_rfl
theorem fo_191_0 : aZ Tryz.prog 191 0 = some 0 := by kernel_rfl
theorem go_123 : bD Tryz.prog 123 = true := by kernel_rfl
theorem pg : aZ Tryz.prog 191 1 = some 1 := by kernel_rfl
theorem oG : aZ Tryz.prog 193 0 = some 0 := by kernel_rfl
theorem ust_132 : pY Tryz.prog 132 [(0, 1), (1, 1)] = true := by kernel_rfl
theorem ze_132 : bk Tryz.prog 132 = some (.agg #[.int .i64 0, .int .i64 0]) := by kernel_rfl
theorem go_150 : bD Tryz.prog 150 = true := by kernel_rfl
theorem pE : szB Tryz.prog 193 6 = true := by kernel_rfl
theorem sz_191 : szB Tryz.prog 191 2 = true := by kernel_rfl
theorem go_178 : bD Tryz.prog 178 = true := by kernel_rfl
theorem go_149 : bD Tryz.prog 149 = true := by kernel_rfl
theorem go_148 : bD Tryz.prog 148 = true := by kernel_rfl
theorem sz_194 : szB Tryz.prog 194 1 = true := by kernel_rfl
theorem ze_194 : bk Tryz.prog 194 = some (.pointer none) := by kernel_rfl
theorem sz_157 : szB Tryz.prog 157 1 = true := by kernel_rfl
theorem ze_157 : bk Tryz.prog 157 = some (.map none) := by kernel_rfl
theorem ar_160 : arrOf Tryz.prog 160 = some (61, 1) := by kernel_rfl
theorem pW : szB Tryz.prog 3 1 = true := by kernel_rfl
theorem pU : mh Tryz.prog 160 61 = true := by kernel_rfl
theorem qe : szB Tryz.prog 160 61 = true := by kernel_rfl
theorem qs : bk Tryz.prog 160 = some (.agg (ap cI (List.replicate 61 0)).toArray) := by kernel_rfl
theorem us_27 : Tryz.prog.underlying 27 = some (.slice 132) := by kernel_rfl
theorem sl_27 : o7 Tryz.prog 27 = some (132, 2) := by kernel_rfl
theorem ag_132 : mh Tryz.prog 132 2 = true := by kernel_rfl
theorem sz_132 : szB Tryz.prog 132 2 = true := by kernel_rfl
theorem ust_29 : pY Tryz.prog 29 [(0, 1), (1, 1), (2, 1)] = true := by kernel_rfl
theorem kf : bk Tryz.prog 29 = some (.agg #[.slice none 0 0, .int .i64 0, .int .i64 0]) := by kernel_rfl
theorem fo_193_3 : aZ Tryz.prog 193 3 = some 5 := by kernel_rfl
theorem sc_4 : scB Tryz.prog 4 = true := by kernel_rfl
theorem p5 : aZ Tryz.prog 29 0 = some 0 := by kernel_rfl
theorem sc_27 : scB Tryz.prog 27 = true := by kernel_rfl
theorem fo_193_2 : aZ Tryz.prog 193 2 = some 3 := by kernel_rfl
theorem ag_193 : mh Tryz.prog 193 6 = true := by kernel_rfl
theorem fo_193_1 : aZ Tryz.prog 193 1 = some 1 := by kernel_rfl
theorem sz_27 : szB Tryz.prog 27 1 = true := by kernel_rfl
theorem by_132 : eA Tryz.prog 132 (.agg #[.int .i64 0, .int .i64 0]) 2 16 = true := by kernel_rfl
theorem mc_132_1 : madeCells (.agg #[.int .i64 0, .int .i64 0] : Value).cells (1 * 2) = #[.int .i64 0, .int .i64 0] := by kernel_rfl
theorem nD : mh Tryz.prog 29 3 = true := by kernel_rfl
theorem lU : szB Tryz.prog 29 3 = true := by kernel_rfl
theorem go_183 : bD Tryz.prog 183 = true := by kernel_rfl
theorem ua_160 : Tryz.prog.underlying 160 = some (.array 61 3) := by kernel_rfl
theorem qD : Tryz.prog.underlying 106 = some (.slice 29) := by kernel_rfl
theorem by_29 : eA Tryz.prog 29 (.agg #[.slice none 0 0, .int .i64 0, .int .i64 0]) 3 40 = true := by kernel_rfl
theorem mc_29_1 : madeCells (.agg #[.slice none 0 0, .int .i64 0, .int .i64 0] : Value).cells (1 * 3) = #[.slice none 0 0, .int .i64 0, .int .i64 0] := by kernel_rfl
theorem go_157 : bD Tryz.prog 157 = true := by kernel_rfl
theorem go_111 : bD Tryz.prog 111 = true := by kernel_rfl
theorem go_110 : bD Tryz.prog 110 = true := by kernel_rfl
theorem qC : o7 Tryz.prog 106 = some (29, 3) := by kernel_rfl
theorem qj : aZ Tryz.prog 29 2 = some 2 := by kernel_rfl
theorem go_119 : bD Tryz.prog 119 = true := by kernel_rfl
theorem go_70 : bD Tryz.prog 70 = true := by kernel_rfl
theorem go_71 : bD Tryz.prog 71 = true := by kernel_rfl
theorem nq : aZ Tryz.prog 29 1 = some 1 := by kernel_rfl
theorem go_72 : bD Tryz.prog 72 = true := by kernel_rfl
theorem q8 : eA Tryz.prog 120 (.agg #[.int .i64 0, .int .i64 0, .int .i64 0, .int .i64 0, .int .i64 0, .slice none 0 0]) 6 64 = true := by kernel_rfl
theorem qZ : bD Tryz.prog 176 = true := by kernel_rfl
theorem cN : o7 Tryz.prog 42 = some (3, 1) := by kernel_rfl
theorem go_168 : bD Tryz.prog 168 = true := by kernel_rfl
theorem us_s9 : Tryz.prog.underlying 9 = some .string := by kernel_rfl
theorem ui_220 : Tryz.prog.underlying 220 = some (.int .u64) := by kernel_rfl
theorem ui_3 : Tryz.prog.underlying 3 = some (.int .i64) := by kernel_rfl
theorem ui_5 : Tryz.prog.underlying 5 = some (.int .u8) := by kernel_rfl
theorem go_172 : bD Tryz.prog 172 = true := by kernel_rfl
theorem ui_176 : Tryz.prog.underlying 176 = some (.int .u64) := by kernel_rfl
theorem go_129 : bD Tryz.prog 129 = true := by kernel_rfl
theorem go_162 : bD Tryz.prog 162 = true := by kernel_rfl
theorem cH : Tryz.prog.underlying 42 = some (.slice 3) := by kernel_rfl
theorem go_128 : bD Tryz.prog 128 = true := by kernel_rfl
theorem go_80 : bD Tryz.prog 80 = true := by kernel_rfl
theorem go_79 : bD Tryz.prog 79 = true := by kernel_rfl
theorem ust_24 : pY Tryz.prog 24 [(0, 1), (1, 1)] = true := by kernel_rfl
theorem sq : bk Tryz.prog 24 = some (.agg #[.int .i64 0, .slice none 0 0]) := by kernel_rfl
theorem sz_24 : szB Tryz.prog 24 2 = true := by kernel_rfl
theorem l0 : bk Tryz.prog 3 = some (.int .i64 0) := by kernel_rfl
theorem oe : eA Tryz.prog 3 (.int .i64 0) 1 8 = true := by kernel_rfl
theorem ng : madeCells (.int .i64 0 : Value).cells (1 * 1) = #[.int .i64 0] := by kernel_rfl
theorem go_81 : bD Tryz.prog 81 = true := by kernel_rfl
theorem go_18 : bD Tryz.prog 18 = true := by kernel_rfl
theorem fI : Tryz.prog.underlying 51 = some (.slice 65) := by kernel_rfl
theorem iK : o7 Tryz.prog 51 = some (65, 5) := by kernel_rfl
theorem jl : mh Tryz.prog 65 5 = true := by kernel_rfl
theorem go_173 : bD Tryz.prog 173 = true := by kernel_rfl
theorem jB : aZ Tryz.prog 65 0 = some 0 := by kernel_rfl
theorem bq : aZ Tryz.prog 53 1 = some 1 := by kernel_rfl
theorem dT : scB Tryz.prog 51 = true := by kernel_rfl
theorem go_135 : bD Tryz.prog 135 = true := by kernel_rfl
theorem go_134 : bD Tryz.prog 134 = true := by kernel_rfl
theorem ib : Tryz.prog.underlying 50 = some (.slice 69) := by kernel_rfl
theorem kw : o7 Tryz.prog 50 = some (69, 3) := by kernel_rfl
theorem pk : mh Tryz.prog 69 3 = true := by kernel_rfl
theorem go_174 : bD Tryz.prog 174 = true := by kernel_rfl
theorem jD : aZ Tryz.prog 69 0 = some 0 := by kernel_rfl
theorem cq : aZ Tryz.prog 53 0 = some 0 := by kernel_rfl
theorem gz : scB Tryz.prog 50 = true := by kernel_rfl
theorem go_140 : bD Tryz.prog 140 = true := by kernel_rfl
theorem go_139 : bD Tryz.prog 139 = true := by kernel_rfl
theorem ob : aZ Tryz.prog 69 1 = some 1 := by kernel_rfl
theorem ol : aZ Tryz.prog 69 2 = some 2 := by kernel_rfl
theorem bO : mh Tryz.prog 53 2 = true := by kernel_rfl
theorem go_96 : bD Tryz.prog 96 = true := by kernel_rfl
theorem sz_69 : szB Tryz.prog 69 3 = true := by kernel_rfl
theorem nu : bk Tryz.prog 69 = some (.agg #[.int .i64 0, .int .i64 0, .int .i64 0]) := by kernel_rfl
theorem gC : aZ Tryz.prog 65 1 = some 1 := by kernel_rfl
theorem ph : aZ Tryz.prog 65 2 = some 3 := by kernel_rfl
theorem eX : aZ Tryz.prog 65 3 = some 4 := by kernel_rfl
theorem go_90 : bD Tryz.prog 90 = true := by kernel_rfl
theorem r3 : szB Tryz.prog 65 5 = true := by kernel_rfl
theorem jN : bk Tryz.prog 65 = some (.agg #[.int .i64 0, .int .i64 0, .int .i64 0, .int .i64 0, .int .i64 0]) := by kernel_rfl
theorem sc_189 : scB Tryz.prog 189 = true := by kernel_rfl
theorem q7 : Tryz.prog.underlying 189 = some (.map 3 4) := by kernel_rfl
theorem ze_4 : bk Tryz.prog 4 = some (.bool false) := by kernel_rfl
theorem go_101 : bD Tryz.prog 101 = true := by kernel_rfl
theorem qw : scB Tryz.prog 152 = true := by kernel_rfl
theorem nL : Tryz.prog.underlying 152 = some (.map 3 3) := by kernel_rfl
theorem sc_127 : scB Tryz.prog 127 = true := by kernel_rfl
theorem go_156 : bD Tryz.prog 156 = true := by kernel_rfl
theorem sz_127 : szB Tryz.prog 127 1 = true := by kernel_rfl
theorem ze_127 : bk Tryz.prog 127 = some (.nilFunc) := by kernel_rfl
theorem sz_189 : szB Tryz.prog 189 1 = true := by kernel_rfl
theorem ze_189 : bk Tryz.prog 189 = some (.map none) := by kernel_rfl
theorem go_190 : bD Tryz.prog 190 = true := by kernel_rfl
theorem go_175 : bD Tryz.prog 175 = true := by kernel_rfl
theorem go_145 : bD Tryz.prog 145 = true := by kernel_rfl
theorem go_144 : bD Tryz.prog 144 = true := by kernel_rfl
theorem qv : bD Tryz.prog 117 = true := by kernel_rfl
theorem go_143 : bD Tryz.prog 143 = true := by kernel_rfl
theorem go_130 : bD Tryz.prog 130 = true := by kernel_rfl
theorem go_100 : bD Tryz.prog 100 = true := by kernel_rfl
theorem oo : eA Tryz.prog 65 (.agg #[.int .i64 0, .int .i64 0, .int .i64 0, .int .i64 0, .int .i64 0]) 5 40 = true := by kernel_rfl
theorem go_115 : bD Tryz.prog 115 = true := by kernel_rfl
theorem pr : pY Tryz.prog 53 [(0, 1), (1, 1)] = true := by kernel_rfl
theorem nA : bk Tryz.prog 53 = some (.agg #[.slice none 0 0, .slice none 0 0]) := by kernel_rfl
theorem rk : szB Tryz.prog 53 2 = true := by kernel_rfl
theorem rK : bD Tryz.prog 83 = true := by kernel_rfl
theorem go_131 : bD Tryz.prog 131 = true := by kernel_rfl
theorem go_85 : bD Tryz.prog 85 = true := by kernel_rfl
theorem go_88 : bD Tryz.prog 88 = true := by kernel_rfl
theorem qk : bD Tryz.prog 45 = true := by kernel_rfl
theorem go_84 : bD Tryz.prog 84 = true := by kernel_rfl
theorem go_137 : bD Tryz.prog 137 = true := by kernel_rfl
theorem rX : bD Tryz.prog 138 = true := by kernel_rfl
theorem go_136 : bD Tryz.prog 136 = true := by kernel_rfl
theorem sz_152 : szB Tryz.prog 152 1 = true := by kernel_rfl
theorem ze_152 : bk Tryz.prog 152 = some (.map none) := by kernel_rfl
theorem go_91 : bD Tryz.prog 91 = true := by kernel_rfl
theorem go_94 : bD Tryz.prog 94 = true := by kernel_rfl
theorem go_93 : bD Tryz.prog 93 = true := by kernel_rfl
theorem go_92 : bD Tryz.prog 92 = true := by kernel_rfl
theorem by_69 : eA Tryz.prog 69 (.agg #[.int .i64 0, .int .i64 0, .int .i64 0]) 3 24 = true := by kernel_rfl
theorem go_142 : bD Tryz.prog 142 = true := by kernel_rfl
theorem go_141 : bD Tryz.prog 141 = true := by kernel_rfl
theorem go_97 : bD Tryz.prog 97 = true := by kernel_rfl
theorem pj : pY Tryz.prog 71 [(0, 1), (1, 1), (2, 1)] = true := by kernel_rfl
theorem mf : bk Tryz.prog 71 = some (.agg #[.slice none 0 0, .int .i64 0, .slice none 0 0]) := by kernel_rfl
theorem lC : szB Tryz.prog 71 3 = true := by kernel_rfl
theorem fm : aZ Tryz.prog 71 0 = some 0 := by kernel_rfl
theorem gA : scB Tryz.prog 42 = true := by kernel_rfl
theorem jF : aZ Tryz.prog 71 2 = some 2 := by kernel_rfl
theorem ns : aZ Tryz.prog 71 1 = some 1 := by kernel_rfl
theorem sz_42 : szB Tryz.prog 42 1 = true := by kernel_rfl
theorem jp : mh Tryz.prog 71 3 = true := by kernel_rfl
theorem go_99 : bD Tryz.prog 99 = true := by kernel_rfl
theorem l4 : bD Tryz.prog 109 = true := by kernel_rfl
theorem go_77 : bD Tryz.prog 77 = true := by kernel_rfl
theorem go_98 : bD Tryz.prog 98 = true := by kernel_rfl
theorem sf : bD Tryz.prog 104 = true := by kernel_rfl
theorem go_46 : bD Tryz.prog 46 = true := by kernel_rfl
theorem go_105 : bD Tryz.prog 105 = true := by kernel_rfl
theorem go_106 : bD Tryz.prog 106 = true := by kernel_rfl
theorem ust_87 : pY Tryz.prog 87 [(0, 1)] = true := by kernel_rfl
theorem ze_87 : bk Tryz.prog 87 = some (.agg #[.slice none 0 0]) := by kernel_rfl
theorem ag_87 : mh Tryz.prog 87 1 = true := by kernel_rfl
theorem sz_87 : szB Tryz.prog 87 1 = true := by kernel_rfl
theorem kG : aZ Tryz.prog 87 0 = some 0 := by kernel_rfl
theorem rO : scB Tryz.prog 85 = true := by kernel_rfl
theorem mc_42_1 : madeCells (.slice none 0 0 : Value).cells (1 * 1) = #[.slice none 0 0] := by kernel_rfl
theorem us_85 : Tryz.prog.underlying 85 = some (.slice 42) := by kernel_rfl
theorem ze_42 : bk Tryz.prog 42 = some (.slice none 0 0) := by kernel_rfl
theorem by_42 : eA Tryz.prog 42 (.slice none 0 0) 1 24 = true := by kernel_rfl
theorem sz_85 : szB Tryz.prog 85 1 = true := by kernel_rfl
theorem oK : pY Tryz.prog 120 [(0, 1), (1, 1), (2, 1), (3, 1), (4, 1), (5, 1)] = true := by kernel_rfl
theorem qO : pY Tryz.prog 63 [(0, 1), (1, 1)] = true := by kernel_rfl
theorem mc_120_4 : madeCells (.agg #[.int .i64 0, .int .i64 0, .int .i64 0, .int .i64 0, .int .i64 0, .slice none 0 0] : Value).cells (4 * 6) = #[.int .i64 0, .int .i64 0, .int .i64 0, .int .i64 0, .int .i64 0, .slice none 0 0, .int .i64 0, .int .i64 0, .int .i64 0, .int .i64 0, .int .i64 0, .slice none 0 0, .int .i64 0, .int .i64 0, .int .i64 0, .int .i64 0, .int .i64 0, .slice none 0 0, .int .i64 0, .int .i64 0, .int .i64 0, .int .i64 0, .int .i64 0, .slice none 0 0] := by kernel_rfl
theorem mc_63_1 : madeCells (.agg #[.int .i64 0, .int .i64 0] : Value).cells (1 * 2) = #[.int .i64 0, .int .i64 0] := by kernel_rfl
theorem by_63 : eA Tryz.prog 63 (.agg #[.int .i64 0, .int .i64 0]) 2 16 = true := by kernel_rfl
theorem ust_69 : pY Tryz.prog 69 [(0, 1), (1, 1), (2, 1)] = true := by kernel_rfl
theorem rY : pY Tryz.prog 65 [(0, 1), (1, 2), (3, 1), (4, 1)] = true := by kernel_rfl
theorem mc_65_3 : madeCells (.agg #[.int .i64 0, .int .i64 0, .int .i64 0, .int .i64 0, .int .i64 0] : Value).cells (3 * 5) = #[.int .i64 0, .int .i64 0, .int .i64 0, .int .i64 0, .int .i64 0, .int .i64 0, .int .i64 0, .int .i64 0, .int .i64 0, .int .i64 0, .int .i64 0, .int .i64 0, .int .i64 0, .int .i64 0, .int .i64 0] := by kernel_rfl
theorem mc_69_2 : madeCells (.agg #[.int .i64 0, .int .i64 0, .int .i64 0] : Value).cells (2 * 3) = #[.int .i64 0, .int .i64 0, .int .i64 0, .int .i64 0, .int .i64 0, .int .i64 0] := by kernel_rfl
theorem go_69 : bD Tryz.prog 69 = true := by kernel_rfl
theorem go_19 : bD Tryz.prog 19 = true := by kernel_rfl
theorem sl_85 : o7 Tryz.prog 85 = some (42, 1) := by kernel_rfl
theorem sK : bD Tryz.prog 25 = true := by kernel_rfl
theorem sX : madeCells (.int .i64 0 : Value).cells (2 * 1) = #[.int .i64 0, .int .i64 0] := by kernel_rfl
theorem go_33 : bD Tryz.prog 33 = true := by kernel_rfl
theorem go_44 : bD Tryz.prog 44 = true := by kernel_rfl
theorem go_31 : bD Tryz.prog 31 = true := by kernel_rfl
theorem mc_3_3 : madeCells (.int .i64 0 : Value).cells (3 * 1) = #[.int .i64 0, .int .i64 0, .int .i64 0] := by kernel_rfl
theorem go_29 : bD Tryz.prog 29 = true := by kernel_rfl
theorem go_27 : bD Tryz.prog 27 = true := by kernel_rfl
theorem go_37 : bD Tryz.prog 37 = true := by kernel_rfl
theorem go_23 : bD Tryz.prog 23 = true := by kernel_rfl
theorem go_61 : bD Tryz.prog 61 = true := by kernel_rfl
theorem go_49 : bD Tryz.prog 49 = true := by kernel_rfl
theorem go_68 : bD Tryz.prog 68 = true := by kernel_rfl
theorem go_67 : bD Tryz.prog 67 = true := by kernel_rfl
theorem go_17 : bD Tryz.prog 17 = true := by kernel_rfl
theorem go_26 : bD Tryz.prog 26 = true := by kernel_rfl
theorem mc_65_1 : madeCells (.agg #[.int .i64 0, .int .i64 0, .int .i64 0, .int .i64 0, .int .i64 0] : Value).cells (1 * 5) = #[.int .i64 0, .int .i64 0, .int .i64 0, .int .i64 0, .int .i64 0] := by kernel_rfl
theorem go_146 : bD Tryz.prog 146 = true := by kernel_rfl
theorem go_102 : bD Tryz.prog 102 = true := by kernel_rfl
theorem rU : bD Tryz.prog 116 = true := by kernel_rfl
theorem go_118 : bD Tryz.prog 118 = true := by kernel_rfl
theorem go_59 : bD Tryz.prog 59 = true := by kernel_rfl
theorem go_60 : bD Tryz.prog 60 = true := by kernel_rfl
theorem go_58 : bD Tryz.prog 58 = true := by kernel_rfl
theorem kf_191 : fldsB Tryz.prog 191 [(0, 1, 3), (1, 1, 3)] = true := by kernel_rfl
theorem kl_191 : laidOutB Tryz.prog = true := by kernel_rfl
theorem kw_191 : (match Tryz.prog.underlying 191 with | some (.array _ _) | some (.struct _) => true | _ => false) = true := by kernel_rfl
theorem l1 : KeyE Tryz.prog 191 cn bl where
  keyed := .of_law (deep_law_laid kl_191 (m := 6) (by omega) (of_decide_eq_true (by kernel_rfl)) (by kernel_rfl) kw_191)
  tot := fun x h => by
    unfold bl at h
    simp only [Bool.and_eq_true] at h
    obtain ⟨h0, h1⟩ := h
    exact keyS_2 (of_decide_eq_true (by kernel_rfl)) kf_191 ui_3 ui_3 (p9 h0) (p9 h1)
  inj := fun x y h => by
    cases x; cases y
    simp only [cn] at h
    simp_all
theorem rP : KeyE Tryz.prog 3 kI cO := keyE_int ui_3
end Go.Proofs.YthndghnkebboaaaGreat
