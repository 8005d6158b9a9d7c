import Derived.Test.YthndghnkebboaaaGreatGD
import Derived.Test.YthndghnkebboaaaGreatGz
import Derived.Test.YthndghnkebboaaaGreatP
import Derived.Test.YthndghnkebboaaaGreatProg
set_option maxRecDepth 20000
set_option linter.unusedVariables false
namespace Go.Proofs.YthndghnkebboaaaGreat
def TSpan_cells (x : TSpan) : List Value := [.int .i64 x.fLo, .int .i64 x.fHi]
theorem dJ (x : TSpan) : (TSpan_cells x).length = 2 := rfl
def ap (x : Twait) : List Value := [.int .i64 x.f_at, .int .i64 x.f_stop.f_place, .int .i64 x.f_stop.f_toll]
theorem aK (x : Twait) : (ap x).length = 3 := rfl
theorem lZ (x : Twait) : ((ap x).all (·.oneCell')) = true := rfl
def bi (x : TLeg) : List Value := [.int .i64 x.fTrack, .int .i64 x.fHour]
theorem bz (x : TLeg) : (bi x).length = 2 := rfl
theorem mS (x : TLeg) : ((bi x).all (·.oneCell')) = true := rfl
def au (x : TO) : List Value := [.int .i64 x.fID, .int .i64 x.fH.fLo, .int .i64 x.fH.fHi, .int .i64 x.fD, .int .i64 x.fW]
theorem aj (x : TO) : (au x).length = 5 := rfl
theorem lz (x : TO) : ((au x).all (·.oneCell')) = true := rfl
def ay (x : TBay) : List Value := [.int .i64 x.fID, .int .i64 x.fHour, .int .i64 x.fD]
theorem aE (x : TBay) : (ay x).length = 3 := rfl
theorem jI (x : TBay) : ((ay x).all (·.oneCell')) = true := rfl
def TTrack_cells2 (p : Hd × TT) : List Value := [.int .i64 p.2.fID, .int .i64 p.2.fFrom, .int .i64 p.2.fTo, .int .i64 p.2.fLong, .int .i64 p.2.fToll, .slice p.1.1 p.1.2.1 p.1.2.2]
theorem aG (p : Hd × TT) : (TTrack_cells2 p).length = 6 := rfl
theorem il (p : Hd × TT) : ((TTrack_cells2 p).all (·.oneCell')) = true := rfl
theorem ee {p : Hd × TT} {z : TT} {k : Nat} (hs : p.2 = z) (hl : p.1.2.1 = k) : TTrack_cells2 p = [.int .i64 z.fID, .int .i64 z.fFrom, .int .i64 z.fTo, .int .i64 z.fLong, .int .i64 z.fToll, .slice p.1.1 k p.1.2.2] := by subst hs hl; rfl
def bQ (p : Hd × TJ) : List Value := [.slice p.1.1 p.1.2.1 p.1.2.2, .int .i64 p.2.fA, .int .i64 p.2.fToll]
theorem aY (p : Hd × TJ) : (bQ p).length = 3 := rfl
theorem jQ (p : Hd × TJ) : ((bQ p).all (·.oneCell')) = true := rfl
theorem jX {p : Hd × TJ} {z : TJ} {k : Nat} (hs : p.2 = z) (hl : p.1.2.1 = k) : bQ p = [.slice p.1.1 k p.1.2.2, .int .i64 z.fA, .int .i64 z.fToll] := by subst hs hl; rfl
def dg (p : Hd × (List Int)) : List Value := [.slice p.1.1 p.1.2.1 p.1.2.2]
theorem bk (p : Hd × (List Int)) : (dg p).length = 1 := rfl
theorem lA (p : Hd × (List Int)) : ((dg p).all (·.oneCell')) = true := rfl
def bR (x : Ts) : Value := .agg #[.int .i64 x.f_place, .int .i64 x.f_toll]
def bI (x : Tl) : Value := .agg #[.int .i64 x.f_at, .int .i64 x.f_from.f_place, .int .i64 x.f_from.f_toll, .int .i64 x.f_leg.fTrack, .int .i64 x.f_leg.fHour, .bool x.f_begin]
theorem f4 : aS Tryz.prog 24 1 = some 1 := by kernel_rfl
theorem lr : scB Tryz.prog 22 = true := by kernel_rfl
theorem iT : Tryz.prog.underlying 22 = some (.slice 120) := by kernel_rfl
theorem mT : nH Tryz.prog 22 = some (120, 6) := by kernel_rfl
theorem lI : aS Tryz.prog 120 5 = some 5 := by kernel_rfl
theorem pL : scB Tryz.prog 118 = true := by kernel_rfl
theorem oo : Tryz.prog.underlying 118 = some (.slice 63) := by kernel_rfl
theorem jh : aS Tryz.prog 24 0 = some 0 := by kernel_rfl
theorem bd : scB Tryz.prog 3 = true := by kernel_rfl
theorem f9 : bq Tryz.prog 107 = true := by kernel_rfl
theorem sl_118 : nH Tryz.prog 118 = some (63, 2) := by kernel_rfl
theorem ag_63 : lv Tryz.prog 63 2 = true := by kernel_rfl
theorem iy : aS Tryz.prog 63 0 = some 0 := by kernel_rfl
theorem gL : aS Tryz.prog 63 1 = some 1 := by kernel_rfl
theorem sz_63 : szB Tryz.prog 63 2 = true := by kernel_rfl
theorem o4 : be Tryz.prog 63 = some (.agg #[.int .i64 0, .int .i64 0]) := by kernel_rfl
theorem lh : lv Tryz.prog 120 6 = true := by kernel_rfl
theorem go_192 : bq Tryz.prog 192 = true := by kernel_rfl
theorem kf : aS Tryz.prog 120 0 = some 0 := by kernel_rfl
theorem go_182 : bq Tryz.prog 182 = true := by kernel_rfl
theorem go_181 : bq Tryz.prog 181 = true := by kernel_rfl
theorem nU : aS Tryz.prog 120 1 = some 1 := by kernel_rfl
theorem go_159 : bq Tryz.prog 159 = true := by kernel_rfl
theorem ny : aS Tryz.prog 120 2 = some 2 := by kernel_rfl
theorem j6 : aS Tryz.prog 120 3 = some 3 := by kernel_rfl
theorem qc : aS Tryz.prog 120 4 = some 4 := by kernel_rfl
theorem go_122 : bq Tryz.prog 122 = true := by kernel_rfl
theorem eK : lv Tryz.prog 24 2 = true := by kernel_rfl
theorem go_155 : bq Tryz.prog 155 = true := by kernel_rfl
theorem pU : szB Tryz.prog 120 6 = true := by kernel_rfl
theorem iq : be Tryz.prog 120 = some (.agg #[.int .i64 0, .int .i64 0, .int .i64 0, .int .i64 0, .int .i64 0, .slice none 0 0]) := by kernel_rfl
theorem go_124 : bq Tryz.prog 124 = true := by kernel_rfl
theorem mL : bq Tryz.prog 108 = true := by kernel_rfl
theorem m4 : Tryz.prog.underlying 198 = some (.slice 196) := by kernel_rfl
theorem le : nH Tryz.prog 198 = some (196, 3) := by kernel_rfl
theorem lF : aS Tryz.prog 196 0 = some 0 := by kernel_rfl
theorem dH : Tryz.prog.follows .mixedOrders = true := by kernel_rfl
theorem pM : lv Tryz.prog 196 3 = true := by kernel_rfl
theorem pV : szB Tryz.prog 196 3 = true := by kernel_rfl
theorem iF : j8 Tryz.prog 194 "Less" = some (212, false) := by kernel_rfl
theorem iO : Tryz.prog.underlying 194 = some (.pointer 198) := by kernel_rfl
theorem ia : scB Tryz.prog 198 = true := by kernel_rfl
theorem pz : bq Tryz.prog 212 = true := by kernel_rfl
theorem iz : j8 Tryz.prog 194 "Swap" = some (215, false) := by kernel_rfl
theorem kY : bq Tryz.prog 215 = true := by kernel_rfl
theorem nA : qg Tryz.prog 196 = true := by kernel_rfl
theorem sz_198 : szB Tryz.prog 198 1 = true := by kernel_rfl
theorem l8 : be Tryz.prog 196 = some (.agg #[.int .i64 0, .int .i64 0, .int .i64 0]) := by kernel_rfl
theorem mZ : j8 Tryz.prog 194 "Len" = some (147, false) := by kernel_rfl
theorem qH : bq Tryz.prog 147 = true := by kernel_rfl
theorem qu : j8 Tryz.prog 194 "Pop" = some (213, true) := by kernel_rfl
theorem go_213 : bq Tryz.prog 213 = true := by kernel_rfl
theorem go_177 : bq Tryz.prog 177 = true := by kernel_rfl
theorem pt : madeCells (.agg #[.int .i64 0, .int .i64 0, .int .i64 0] : Value).cells (1 * 3) = #[.int .i64 0, .int .i64 0, .int .i64 0] := by kernel_rfl
theorem rl : d7 Tryz.prog 196 (.agg #[.int .i64 0, .int .i64 0, .int .i64 0]) 3 24 = true := by kernel_rfl
theorem o1 : j8 Tryz.prog 194 "Push" = some (214, true) := by kernel_rfl
theorem go_214 : bq Tryz.prog 214 = true := by kernel_rfl
theorem go_179 : bq Tryz.prog 179 = true := by kernel_rfl
theorem mA : pd Tryz.prog 191 [(0, 1), (1, 1)] = true := by kernel_rfl
theorem nb : be Tryz.prog 191 = some (.agg #[.int .i64 0, .int .i64 0]) := by kernel_rfl
theorem rI : pd Tryz.prog 193 [(0, 1), (1, 2), (3, 2), (5, 1)] = true := by kernel_rfl
theorem iR : be Tryz.prog 193 = some (.agg #[.int .i64 0, .int .i64 0, .int .i64 0, .int .i64 0, .int .i64 0, .bool false]) := by kernel_rfl
theorem rz : pd Tryz.prog 196 [(0, 1), (1, 2)] = true := by kernel_rfl
theorem qT : scB Tryz.prog 194 = true := by kernel_rfl
theorem sq : qg Tryz.prog 194 = true := by kernel_rfl
theorem pG : scB Tryz.prog 157 = true := by kernel_rfl
theorem lM : aS Tryz.prog 196 1 = some 1 := by kernel_rfl
theorem k8 : lv Tryz.prog 191 2 = true := by kernel_rfl
theorem kZ : Tryz.prog.underlying 157 = some (.map 191 193) := by kernel_rfl
theorem pr : fldT Tryz.prog 193 0 = some (3, 0) := by kernel_rfl
theorem fo_191_0 : aS Tryz.prog 191 0 = some 0 := by kernel_rfl
theorem go_123 : bq Tryz.prog 123 = true := by kernel_rfl
theorem n3 : aS Tryz.prog 191 1 = some 1 := by kernel_rfl
theorem nG : aS Tryz.prog 193 0 = some 0 := by kernel_rfl
theorem ust_132 : pd Tryz.prog 132 [(0, 1), (1, 1)] = true := by kernel_rfl
theorem sn : be Tryz.prog 132 = some (.agg #[.int .i64 0, .int .i64 0]) := by kernel_rfl
theorem go_150 : bq Tryz.prog 150 = true := by kernel_rfl
theorem oA : szB Tryz.prog 193 6 = true := by kernel_rfl
theorem sz_191 : szB Tryz.prog 191 2 = true := by kernel_rfl
theorem go_178 : bq Tryz.prog 178 = true := by kernel_rfl
theorem go_149 : bq Tryz.prog 149 = true := by kernel_rfl
theorem go_148 : bq Tryz.prog 148 = true := by kernel_rfl
theorem sz_194 : szB Tryz.prog 194 1 = true := by kernel_rfl
theorem ze_194 : be Tryz.prog 194 = some (.pointer none) := by kernel_rfl
theorem sz_157 : szB Tryz.prog 157 1 = true := by kernel_rfl
theorem ze_157 : be Tryz.prog 157 = some (.map none) := by kernel_rfl
theorem ar_160 : arrOf Tryz.prog 160 = some (61, 1) := by kernel_rfl
theorem o7 : szB Tryz.prog 3 1 = true := by kernel_rfl
theorem pa : lv Tryz.prog 160 61 = true := by kernel_rfl
theorem ph : szB Tryz.prog 160 61 = true := by kernel_rfl
theorem p8 : be Tryz.prog 160 = some (.agg (encL cI (List.replicate 61 0)).toArray) := by kernel_rfl
theorem us_27 : Tryz.prog.underlying 27 = some (.slice 132) := by kernel_rfl
theorem sl_27 : nH Tryz.prog 27 = some (132, 2) := by kernel_rfl
theorem rf : lv Tryz.prog 132 2 = true := by kernel_rfl
theorem sz_132 : szB Tryz.prog 132 2 = true := by kernel_rfl
theorem q7 : pd Tryz.prog 29 [(0, 1), (1, 1), (2, 1)] = true := by kernel_rfl
theorem gO : be Tryz.prog 29 = some (.agg #[.slice none 0 0, .int .i64 0, .int .i64 0]) := by kernel_rfl
theorem fo_193_3 : aS Tryz.prog 193 3 = some 5 := by kernel_rfl
theorem sc_4 : scB Tryz.prog 4 = true := by kernel_rfl
theorem pb : aS Tryz.prog 29 0 = some 0 := by kernel_rfl
theorem sc_27 : scB Tryz.prog 27 = true := by kernel_rfl
theorem fo_193_2 : aS Tryz.prog 193 2 = some 3 := by kernel_rfl
theorem ag_193 : lv Tryz.prog 193 6 = true := by kernel_rfl
theorem fo_193_1 : aS Tryz.prog 193 1 = some 1 := by kernel_rfl
theorem sz_27 : szB Tryz.prog 27 1 = true := by kernel_rfl
theorem by_132 : d7 Tryz.prog 132 (.agg #[.int .i64 0, .int .i64 0]) 2 16 = true := by kernel_rfl
theorem mc_132_1 : madeCells (.agg #[.int .i64 0, .int .i64 0] : Value).cells (1 * 2) = #[.int .i64 0, .int .i64 0] := by kernel_rfl
theorem mR : lv Tryz.prog 29 3 = true := by kernel_rfl
theorem iD : szB Tryz.prog 29 3 = true := by kernel_rfl
theorem go_183 : bq Tryz.prog 183 = true := by kernel_rfl
theorem ua_160 : Tryz.prog.underlying 160 = some (.array 61 3) := by kernel_rfl
theorem qb : Tryz.prog.underlying 106 = some (.slice 29) := by kernel_rfl
theorem by_29 : d7 Tryz.prog 29 (.agg #[.slice none 0 0, .int .i64 0, .int .i64 0]) 3 40 = true := by kernel_rfl
theorem mc_29_1 : madeCells (.agg #[.slice none 0 0, .int .i64 0, .int .i64 0] : Value).cells (1 * 3) = #[.slice none 0 0, .int .i64 0, .int .i64 0] := by kernel_rfl
theorem go_157 : bq Tryz.prog 157 = true := by kernel_rfl
theorem go_111 : bq Tryz.prog 111 = true := by kernel_rfl
theorem go_110 : bq Tryz.prog 110 = true := by kernel_rfl
theorem pX : nH Tryz.prog 106 = some (29, 3) := by kernel_rfl
theorem oX : aS Tryz.prog 29 2 = some 2 := by kernel_rfl
theorem go_119 : bq Tryz.prog 119 = true := by kernel_rfl
theorem go_70 : bq Tryz.prog 70 = true := by kernel_rfl
theorem go_71 : bq Tryz.prog 71 = true := by kernel_rfl
theorem ei : aS Tryz.prog 29 1 = some 1 := by kernel_rfl
theorem go_72 : bq Tryz.prog 72 = true := by kernel_rfl
theorem pu : d7 Tryz.prog 120 (.agg #[.int .i64 0, .int .i64 0, .int .i64 0, .int .i64 0, .int .i64 0, .slice none 0 0]) 6 64 = true := by kernel_rfl
theorem pW : bq Tryz.prog 176 = true := by kernel_rfl
theorem dI : nH Tryz.prog 42 = some (3, 1) := by kernel_rfl
theorem go_168 : bq Tryz.prog 168 = true := by kernel_rfl
theorem us_s9 : Tryz.prog.underlying 9 = some .string := by kernel_rfl
theorem ui_220 : Tryz.prog.underlying 220 = some (.int .u64) := by kernel_rfl
theorem ui_5 : Tryz.prog.underlying 5 = some (.int .u8) := by kernel_rfl
theorem ui_3 : Tryz.prog.underlying 3 = some (.int .i64) := by kernel_rfl
theorem go_172 : bq Tryz.prog 172 = true := by kernel_rfl
theorem ui_176 : Tryz.prog.underlying 176 = some (.int .u64) := by kernel_rfl
theorem go_129 : bq Tryz.prog 129 = true := by kernel_rfl
theorem go_162 : bq Tryz.prog 162 = true := by kernel_rfl
theorem dp : Tryz.prog.underlying 42 = some (.slice 3) := by kernel_rfl
theorem go_128 : bq Tryz.prog 128 = true := by kernel_rfl
theorem go_80 : bq Tryz.prog 80 = true := by kernel_rfl
theorem go_79 : bq Tryz.prog 79 = true := by kernel_rfl
theorem ust_24 : pd Tryz.prog 24 [(0, 1), (1, 1)] = true := by kernel_rfl
theorem rA : be Tryz.prog 24 = some (.agg #[.int .i64 0, .slice none 0 0]) := by kernel_rfl
theorem sz_24 : szB Tryz.prog 24 2 = true := by kernel_rfl
theorem li : be Tryz.prog 3 = some (.int .i64 0) := by kernel_rfl
theorem np : d7 Tryz.prog 3 (.int .i64 0) 1 8 = true := by kernel_rfl
theorem mp : madeCells (.int .i64 0 : Value).cells (1 * 1) = #[.int .i64 0] := by kernel_rfl
theorem go_81 : bq Tryz.prog 81 = true := by kernel_rfl
theorem oM : bq Tryz.prog 18 = true := by kernel_rfl
theorem jO : Tryz.prog.underlying 51 = some (.slice 65) := by kernel_rfl
theorem iZ : nH Tryz.prog 51 = some (65, 5) := by kernel_rfl
theorem od : lv Tryz.prog 65 5 = true := by kernel_rfl
theorem go_173 : bq Tryz.prog 173 = true := by kernel_rfl
theorem jd : aS Tryz.prog 65 0 = some 0 := by kernel_rfl
theorem bP : aS Tryz.prog 53 1 = some 1 := by kernel_rfl
theorem fJ : scB Tryz.prog 51 = true := by kernel_rfl
theorem go_135 : bq Tryz.prog 135 = true := by kernel_rfl
theorem go_134 : bq Tryz.prog 134 = true := by kernel_rfl
theorem iU : Tryz.prog.underlying 50 = some (.slice 69) := by kernel_rfl
theorem kM : nH Tryz.prog 50 = some (69, 3) := by kernel_rfl
theorem qU : lv Tryz.prog 69 3 = true := by kernel_rfl
theorem go_174 : bq Tryz.prog 174 = true := by kernel_rfl
theorem jr : aS Tryz.prog 69 0 = some 0 := by kernel_rfl
theorem dG : aS Tryz.prog 53 0 = some 0 := by kernel_rfl
theorem je : scB Tryz.prog 50 = true := by kernel_rfl
theorem go_140 : bq Tryz.prog 140 = true := by kernel_rfl
theorem go_139 : bq Tryz.prog 139 = true := by kernel_rfl
theorem nK : aS Tryz.prog 69 1 = some 1 := by kernel_rfl
theorem nW : aS Tryz.prog 69 2 = some 2 := by kernel_rfl
theorem cQ : lv Tryz.prog 53 2 = true := by kernel_rfl
theorem go_96 : bq Tryz.prog 96 = true := by kernel_rfl
theorem sz_69 : szB Tryz.prog 69 3 = true := by kernel_rfl
theorem mN : be Tryz.prog 69 = some (.agg #[.int .i64 0, .int .i64 0, .int .i64 0]) := by kernel_rfl
theorem f5 : aS Tryz.prog 65 1 = some 1 := by kernel_rfl
theorem nx : aS Tryz.prog 65 2 = some 3 := by kernel_rfl
theorem g7 : aS Tryz.prog 65 3 = some 4 := by kernel_rfl
theorem go_90 : bq Tryz.prog 90 = true := by kernel_rfl
theorem sz_65 : szB Tryz.prog 65 5 = true := by kernel_rfl
theorem mM : be Tryz.prog 65 = some (.agg #[.int .i64 0, .int .i64 0, .int .i64 0, .int .i64 0, .int .i64 0]) := by kernel_rfl
theorem sc_189 : scB Tryz.prog 189 = true := by kernel_rfl
theorem um_189 : Tryz.prog.underlying 189 = some (.map 3 4) := by kernel_rfl
theorem ze_4 : be Tryz.prog 4 = some (.bool false) := by kernel_rfl
theorem go_101 : bq Tryz.prog 101 = true := by kernel_rfl
theorem pJ : scB Tryz.prog 152 = true := by kernel_rfl
theorem oE : Tryz.prog.underlying 152 = some (.map 3 3) := by kernel_rfl
theorem sc_127 : scB Tryz.prog 127 = true := by kernel_rfl
theorem go_156 : bq Tryz.prog 156 = true := by kernel_rfl
theorem sz_127 : szB Tryz.prog 127 1 = true := by kernel_rfl
theorem ze_127 : be Tryz.prog 127 = some (.nilFunc) := by kernel_rfl
theorem sz_189 : szB Tryz.prog 189 1 = true := by kernel_rfl
theorem ze_189 : be Tryz.prog 189 = some (.map none) := by kernel_rfl
theorem go_190 : bq Tryz.prog 190 = true := by kernel_rfl
theorem go_175 : bq Tryz.prog 175 = true := by kernel_rfl
theorem go_145 : bq Tryz.prog 145 = true := by kernel_rfl
theorem go_144 : bq Tryz.prog 144 = true := by kernel_rfl
theorem go_117 : bq Tryz.prog 117 = true := by kernel_rfl
theorem go_143 : bq Tryz.prog 143 = true := by kernel_rfl
theorem go_130 : bq Tryz.prog 130 = true := by kernel_rfl
theorem go_100 : bq Tryz.prog 100 = true := by kernel_rfl
theorem by_65 : d7 Tryz.prog 65 (.agg #[.int .i64 0, .int .i64 0, .int .i64 0, .int .i64 0, .int .i64 0]) 5 40 = true := by kernel_rfl
theorem go_115 : bq Tryz.prog 115 = true := by kernel_rfl
theorem rn : pd Tryz.prog 53 [(0, 1), (1, 1)] = true := by kernel_rfl
theorem oT : be Tryz.prog 53 = some (.agg #[.slice none 0 0, .slice none 0 0]) := by kernel_rfl
theorem sz_53 : szB Tryz.prog 53 2 = true := by kernel_rfl
theorem qk : bq Tryz.prog 83 = true := by kernel_rfl
theorem go_131 : bq Tryz.prog 131 = true := by kernel_rfl
theorem go_85 : bq Tryz.prog 85 = true := by kernel_rfl
theorem go_88 : bq Tryz.prog 88 = true := by kernel_rfl
theorem rB : bq Tryz.prog 45 = true := by kernel_rfl
theorem go_84 : bq Tryz.prog 84 = true := by kernel_rfl
theorem go_137 : bq Tryz.prog 137 = true := by kernel_rfl
theorem go_138 : bq Tryz.prog 138 = true := by kernel_rfl
theorem go_136 : bq Tryz.prog 136 = true := by kernel_rfl
theorem sz_152 : szB Tryz.prog 152 1 = true := by kernel_rfl
theorem ze_152 : be Tryz.prog 152 = some (.map none) := by kernel_rfl
theorem go_91 : bq Tryz.prog 91 = true := by kernel_rfl
theorem go_94 : bq Tryz.prog 94 = true := by kernel_rfl
theorem go_93 : bq Tryz.prog 93 = true := by kernel_rfl
theorem go_92 : bq Tryz.prog 92 = true := by kernel_rfl
theorem by_69 : d7 Tryz.prog 69 (.agg #[.int .i64 0, .int .i64 0, .int .i64 0]) 3 24 = true := by kernel_rfl
theorem go_142 : bq Tryz.prog 142 = true := by kernel_rfl
theorem go_141 : bq Tryz.prog 141 = true := by kernel_rfl
theorem go_97 : bq Tryz.prog 97 = true := by kernel_rfl
theorem ust_71 : pd Tryz.prog 71 [(0, 1), (1, 1), (2, 1)] = true := by kernel_rfl
theorem qd : be Tryz.prog 71 = some (.agg #[.slice none 0 0, .int .i64 0, .slice none 0 0]) := by kernel_rfl
theorem si : szB Tryz.prog 71 3 = true := by kernel_rfl
theorem so : aS Tryz.prog 71 0 = some 0 := by kernel_rfl
theorem oI : scB Tryz.prog 42 = true := by kernel_rfl
theorem o8 : aS Tryz.prog 71 2 = some 2 := by kernel_rfl
theorem nC : aS Tryz.prog 71 1 = some 1 := by kernel_rfl
theorem sz_42 : szB Tryz.prog 42 1 = true := by kernel_rfl
theorem rc : lv Tryz.prog 71 3 = true := by kernel_rfl
theorem go_99 : bq Tryz.prog 99 = true := by kernel_rfl
theorem lc : bq Tryz.prog 109 = true := by kernel_rfl
theorem go_77 : bq Tryz.prog 77 = true := by kernel_rfl
theorem go_98 : bq Tryz.prog 98 = true := by kernel_rfl
theorem rb : bq Tryz.prog 104 = true := by kernel_rfl
theorem go_46 : bq Tryz.prog 46 = true := by kernel_rfl
theorem go_105 : bq Tryz.prog 105 = true := by kernel_rfl
theorem go_106 : bq Tryz.prog 106 = true := by kernel_rfl
theorem ust_87 : pd Tryz.prog 87 [(0, 1)] = true := by kernel_rfl
theorem ze_87 : be Tryz.prog 87 = some (.agg #[.slice none 0 0]) := by kernel_rfl
theorem ag_87 : lv Tryz.prog 87 1 = true := by kernel_rfl
theorem sz_87 : szB Tryz.prog 87 1 = true := by kernel_rfl
theorem jS : aS Tryz.prog 87 0 = some 0 := by kernel_rfl
theorem qD : scB Tryz.prog 85 = true := by kernel_rfl
theorem mc_42_1 : madeCells (.slice none 0 0 : Value).cells (1 * 1) = #[.slice none 0 0] := by kernel_rfl
theorem us_85 : Tryz.prog.underlying 85 = some (.slice 42) := by kernel_rfl
theorem ze_42 : be Tryz.prog 42 = some (.slice none 0 0) := by kernel_rfl
theorem by_42 : d7 Tryz.prog 42 (.slice none 0 0) 1 24 = true := by kernel_rfl
theorem sz_85 : szB Tryz.prog 85 1 = true := by kernel_rfl
theorem nM : pd Tryz.prog 120 [(0, 1), (1, 1), (2, 1), (3, 1), (4, 1), (5, 1)] = true := by kernel_rfl
theorem qa : pd Tryz.prog 63 [(0, 1), (1, 1)] = true := by kernel_rfl
theorem mc_120_4 : madeCells (.agg #[.int .i64 0, .int .i64 0, .int .i64 0, .int .i64 0, .int .i64 0, .slice none 0 0] : Value).cells (4 * 6) = #[.int .i64 0, .int .i64 0, .int .i64 0, .int .i64 0, .int .i64 0, .slice none 0 0, .int .i64 0, .int .i64 0, .int .i64 0, .int .i64 0, .int .i64 0, .slice none 0 0, .int .i64 0, .int .i64 0, .int .i64 0, .int .i64 0, .int .i64 0, .slice none 0 0, .int .i64 0, .int .i64 0, .int .i64 0, .int .i64 0, .int .i64 0, .slice none 0 0] := by kernel_rfl
theorem mc_63_1 : madeCells (.agg #[.int .i64 0, .int .i64 0] : Value).cells (1 * 2) = #[.int .i64 0, .int .i64 0] := by kernel_rfl
theorem by_63 : d7 Tryz.prog 63 (.agg #[.int .i64 0, .int .i64 0]) 2 16 = true := by kernel_rfl
theorem ust_69 : pd Tryz.prog 69 [(0, 1), (1, 1), (2, 1)] = true := by kernel_rfl
theorem rG : pd Tryz.prog 65 [(0, 1), (1, 2), (3, 1), (4, 1)] = true := by kernel_rfl
theorem mc_65_3 : madeCells (.agg #[.int .i64 0, .int .i64 0, .int .i64 0, .int .i64 0, .int .i64 0] : Value).cells (3 * 5) = #[.int .i64 0, .int .i64 0, .int .i64 0, .int .i64 0, .int .i64 0, .int .i64 0, .int .i64 0, .int .i64 0, .int .i64 0, .int .i64 0, .int .i64 0, .int .i64 0, .int .i64 0, .int .i64 0, .int .i64 0] := by kernel_rfl
theorem mc_69_2 : madeCells (.agg #[.int .i64 0, .int .i64 0, .int .i64 0] : Value).cells (2 * 3) = #[.int .i64 0, .int .i64 0, .int .i64 0, .int .i64 0, .int .i64 0, .int .i64 0] := by kernel_rfl
theorem go_69 : bq Tryz.prog 69 = true := by kernel_rfl
theorem go_19 : bq Tryz.prog 19 = true := by kernel_rfl
theorem sl_85 : nH Tryz.prog 85 = some (42, 1) := by kernel_rfl
theorem se : bq Tryz.prog 25 = true := by kernel_rfl
theorem rT : madeCells (.int .i64 0 : Value).cells (2 * 1) = #[.int .i64 0, .int .i64 0] := by kernel_rfl
theorem go_33 : bq Tryz.prog 33 = true := by kernel_rfl
theorem go_44 : bq Tryz.prog 44 = true := by kernel_rfl
theorem go_31 : bq Tryz.prog 31 = true := by kernel_rfl
theorem mc_3_3 : madeCells (.int .i64 0 : Value).cells (3 * 1) = #[.int .i64 0, .int .i64 0, .int .i64 0] := by kernel_rfl
theorem go_29 : bq Tryz.prog 29 = true := by kernel_rfl
theorem go_27 : bq Tryz.prog 27 = true := by kernel_rfl
theorem go_37 : bq Tryz.prog 37 = true := by kernel_rfl
theorem go_23 : bq Tryz.prog 23 = true := by kernel_rfl
theorem go_61 : bq Tryz.prog 61 = true := by kernel_rfl
theorem go_49 : bq Tryz.prog 49 = true := by kernel_rfl
theorem go_68 : bq Tryz.prog 68 = true := by kernel_rfl
theorem go_67 : bq Tryz.prog 67 = true := by kernel_rfl
theorem go_16 : bq Tryz.prog 16 = true := by kernel_rfl
theorem go_17 : bq Tryz.prog 17 = true := by kernel_rfl
theorem kf_191 : fldsB Tryz.prog 191 [(0, 1, 3), (1, 1, 3)] = true := by kernel_rfl
theorem kl_191 : laidOutB Tryz.prog = true := by kernel_rfl
theorem kw_191 : (match Tryz.prog.underlying 191 with | some (.array _ _) | some (.struct _) => true | _ => false) = true := by kernel_rfl
theorem k7 : KeyE Tryz.prog 191 bR aJ where
  keyed := .of_law (deep_law_laid kl_191 (m := 6) (by omega) (of_decide_eq_true (by kernel_rfl)) (by kernel_rfl) kw_191)
  tot := fun x h => by
    unfold aJ at h
    simp only [Bool.and_eq_true] at h
    obtain ⟨h0, h1⟩ := h
    exact keyS_2 (of_decide_eq_true (by kernel_rfl)) kf_191 ui_3 ui_3 (o3 h0) (o3 h1)
  inj := fun x y h => by
    cases x; cases y
    simp only [bR] at h
    simp_all
theorem ke_3 : KeyE Tryz.prog 3 kI du := keyE_int ui_3
end Go.Proofs.YthndghnkebboaaaGreat
