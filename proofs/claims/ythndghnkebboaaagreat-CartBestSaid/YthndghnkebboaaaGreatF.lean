import Derived.Test.YthndghnkebboaaaGreatGy
import Derived.Test.YthndghnkebboaaaGreatGz
import Derived.Test.YthndghnkebboaaaGreatP
import Derived.Test.YthndghnkebboaaaGreatProg
set_option maxRecDepth 20000
set_option linter.unusedVariables false
namespace Go.Proofs.YthndghnkebboaaaGreat
def TSpan_cells (x : TSpan) : List Value := [.int .i64 x.fLo, .int .i64 x.fHi]
theorem aD (x : TSpan) : (TSpan_cells x).length = 2 := rfl
def ay (x : Twait) : List Value := [.int .i64 x.f_at, .int .i64 x.f_stop.f_place, .int .i64 x.f_stop.f_toll]
theorem aS (x : Twait) : (ay x).length = 3 := rfl
theorem nz (x : Twait) : ((ay x).all (·.oneCell')) = true := rfl
def bt (x : TLeg) : List Value := [.int .i64 x.fTrack, .int .i64 x.fHour]
theorem bo (x : TLeg) : (bt x).length = 2 := rfl
theorem oM (x : TLeg) : ((bt x).all (·.oneCell')) = true := rfl
def aB (x : TO) : List Value := [.int .i64 x.fID, .int .i64 x.fH.fLo, .int .i64 x.fH.fHi, .int .i64 x.fD, .int .i64 x.fW]
theorem ar (x : TO) : (aB x).length = 5 := rfl
theorem mY (x : TO) : ((aB x).all (·.oneCell')) = true := rfl
def aG (x : TBay) : List Value := [.int .i64 x.fID, .int .i64 x.fHour, .int .i64 x.fD]
theorem aK (x : TBay) : (aG x).length = 3 := rfl
theorem li (x : TBay) : ((aG x).all (·.oneCell')) = true := rfl
def gL (x : TPoint) : List Value := [.int .i64 x.fToll, .int .i64 x.fA]
theorem fw (x : TPoint) : (gL x).length = 2 := rfl
theorem mT (x : TPoint) : ((gL x).all (·.oneCell')) = true := rfl
def TTrack_cells2 (p : Hd × TT) : List Value := [.int .i64 p.2.fID, .int .i64 p.2.fFrom, .int .i64 p.2.fTo, .int .i64 p.2.fLong, .int .i64 p.2.fToll, .slice p.1.1 p.1.2.1 p.1.2.2]
theorem au (p : Hd × TT) : (TTrack_cells2 p).length = 6 := rfl
theorem eU (p : Hd × TT) : ((TTrack_cells2 p).all (·.oneCell')) = true := rfl
theorem cx {p : Hd × TT} {z : TT} {k : Nat} (hs : p.2 = z) (hl : p.1.2.1 = k) : TTrack_cells2 p = [.int .i64 z.fID, .int .i64 z.fFrom, .int .i64 z.fTo, .int .i64 z.fLong, .int .i64 z.fToll, .slice p.1.1 k p.1.2.2] := by subst hs hl; rfl
def cl (p : Hd × TJ) : List Value := [.slice p.1.1 p.1.2.1 p.1.2.2, .int .i64 p.2.fA, .int .i64 p.2.fToll]
theorem bg (p : Hd × TJ) : (cl p).length = 3 := rfl
theorem lv (p : Hd × TJ) : ((cl p).all (·.oneCell')) = true := rfl
theorem lH {p : Hd × TJ} {z : TJ} {k : Nat} (hs : p.2 = z) (hl : p.1.2.1 = k) : cl p = [.slice p.1.1 k p.1.2.2, .int .i64 z.fA, .int .i64 z.fToll] := by subst hs hl; rfl
def a7 (p : Hd × (List Int)) : List Value := [.slice p.1.1 p.1.2.1 p.1.2.2]
theorem aq (p : Hd × (List Int)) : (a7 p).length = 1 := rfl
theorem mW (p : Hd × (List Int)) : ((a7 p).all (·.oneCell')) = true := rfl
def co (x : Ts) : Value := .agg #[.int .i64 x.f_place, .int .i64 x.f_toll]
def bY (x : Tl) : Value := .agg #[.int .i64 x.f_at, .int .i64 x.f_from.f_place, .int .i64 x.f_from.f_toll, .int .i64 x.f_leg.fTrack, .int .i64 x.f_leg.fHour, .bool x.f_begin]
theorem cq : aP Tryz.prog 24 1 = some 1 := by kernel_rfl
theorem gG : scB Tryz.prog 22 = true := by kernel_rfl
theorem gF : Tryz.prog.underlying 22 = some (.slice 120) := by kernel_rfl
theorem jP : o4 Tryz.prog 22 = some (120, 6) := by kernel_rfl
theorem fq : aP Tryz.prog 120 5 = some 5 := by kernel_rfl
theorem j8 : scB Tryz.prog 118 = true := by kernel_rfl
theorem lO : Tryz.prog.underlying 118 = some (.slice 63) := by kernel_rfl
theorem d8 : aP Tryz.prog 24 0 = some 0 := by kernel_rfl
theorem aV : scB Tryz.prog 3 = true := by kernel_rfl
theorem g9 : bC Tryz.prog 107 = true := by kernel_rfl
theorem jn : o4 Tryz.prog 118 = some (63, 2) := by kernel_rfl
theorem ag_63 : mm Tryz.prog 63 2 = true := by kernel_rfl
theorem f0 : aP Tryz.prog 63 0 = some 0 := by kernel_rfl
theorem eC : aP Tryz.prog 63 1 = some 1 := by kernel_rfl
theorem sz_63 : szB Tryz.prog 63 2 = true := by kernel_rfl
theorem re : bn Tryz.prog 63 = some (.agg #[.int .i64 0, .int .i64 0]) := by kernel_rfl
theorem i8 : mm Tryz.prog 120 6 = true := by kernel_rfl
theorem go_192 : bC Tryz.prog 192 = true := by kernel_rfl
theorem gB : aP Tryz.prog 120 0 = some 0 := by kernel_rfl
theorem go_182 : bC Tryz.prog 182 = true := by kernel_rfl
theorem go_181 : bC Tryz.prog 181 = true := by kernel_rfl
theorem jN : aP Tryz.prog 120 1 = some 1 := by kernel_rfl
theorem go_159 : bC Tryz.prog 159 = true := by kernel_rfl
theorem iV : aP Tryz.prog 120 2 = some 2 := by kernel_rfl
theorem hQ : aP Tryz.prog 120 3 = some 3 := by kernel_rfl
theorem jK : aP Tryz.prog 120 4 = some 4 := by kernel_rfl
theorem go_122 : bC Tryz.prog 122 = true := by kernel_rfl
theorem dM : mm Tryz.prog 24 2 = true := by kernel_rfl
theorem go_155 : bC Tryz.prog 155 = true := by kernel_rfl
theorem pk : szB Tryz.prog 120 6 = true := by kernel_rfl
theorem gp : bn Tryz.prog 120 = some (.agg #[.int .i64 0, .int .i64 0, .int .i64 0, .int .i64 0, .int .i64 0, .slice none 0 0]) := by kernel_rfl
theorem go_124 : bC Tryz.prog 124 = true := by kernel_rfl
theorem nZ : bC Tryz.prog 108 = true := by kernel_rfl
theorem o5 : Tryz.prog.underlying 198 = some (.slice 196) := by kernel_rfl
theorem mS : o4 Tryz.prog 198 = some (196, 3) := by kernel_rfl
theorem ng : aP Tryz.prog 196 0 = some 0 := by kernel_rfl
theorem cD : Tryz.prog.follows .mixedOrders = true := by kernel_rfl
theorem rO : mm Tryz.prog 196 3 = true := by kernel_rfl
theorem r9 : szB Tryz.prog 196 3 = true := by kernel_rfl
theorem jZ : lM Tryz.prog 194 "Less" = some (212, false) := by kernel_rfl
theorem j9 : Tryz.prog.underlying 194 = some (.pointer 198) := by kernel_rfl
theorem jl : scB Tryz.prog 198 = true := by kernel_rfl
theorem sb : bC Tryz.prog 212 = true := by kernel_rfl
theorem jH : lM Tryz.prog 194 "Swap" = some (215, false) := by kernel_rfl
theorem mK : bC Tryz.prog 215 = true := by kernel_rfl
theorem pI : sW Tryz.prog 196 = true := by kernel_rfl
theorem sz_198 : szB Tryz.prog 198 1 = true := by kernel_rfl
theorem oo : bn Tryz.prog 196 = some (.agg #[.int .i64 0, .int .i64 0, .int .i64 0]) := by kernel_rfl
theorem pf : lM Tryz.prog 194 "Len" = some (147, false) := by kernel_rfl
theorem go_147 : bC Tryz.prog 147 = true := by kernel_rfl
theorem tg : lM Tryz.prog 194 "Pop" = some (213, true) := by kernel_rfl
theorem go_213 : bC Tryz.prog 213 = true := by kernel_rfl
theorem go_177 : bC Tryz.prog 177 = true := by kernel_rfl
theorem se : madeCells (.agg #[.int .i64 0, .int .i64 0, .int .i64 0] : Value).cells (1 * 3) = #[.int .i64 0, .int .i64 0, .int .i64 0] := by kernel_rfl
theorem by_196 : eY Tryz.prog 196 (.agg #[.int .i64 0, .int .i64 0, .int .i64 0]) 3 24 = true := by kernel_rfl
theorem rk : lM Tryz.prog 194 "Push" = some (214, true) := by kernel_rfl
theorem go_214 : bC Tryz.prog 214 = true := by kernel_rfl
theorem go_179 : bC Tryz.prog 179 = true := by kernel_rfl
theorem ow : qm Tryz.prog 191 [(0, 1), (1, 1)] = true := by kernel_rfl
theorem o3 : bn Tryz.prog 191 = some (.agg #[.int .i64 0, .int .i64 0]) := by kernel_rfl
theorem ust_193 : qm Tryz.prog 193 [(0, 1), (1, 2), (3, 2), (5, 1)] = true := by kernel_rfl
theorem kc : bn Tryz.prog 193 = some (.agg #[.int .i64 0, .int .i64 0, .int .i64 0, .int .i64 0, .int .i64 0, .bool false]) := by kernel_rfl
theorem ust_196 : qm Tryz.prog 196 [(0, 1), (1, 2)] = true := by kernel_rfl
theorem sc_194 : scB Tryz.prog 194 = true := by kernel_rfl
theorem nif_194 : sW Tryz.prog 194 = true := by kernel_rfl
theorem sk : scB Tryz.prog 157 = true := by kernel_rfl
theorem ni : aP Tryz.prog 196 1 = some 1 := by kernel_rfl
theorem mN : mm Tryz.prog 191 2 = true := by kernel_rfl
theorem mG : Tryz.prog.underlying 157 = some (.map 191 193) := by kernel_rfl
theorem rV : fldT Tryz.prog 193 0 = some (3, 0) := by kernel_rfl
theorem fo_191_0 : aP Tryz.prog 191 0 = some 0 := by kernel_rfl
theorem go_123 : bC Tryz.prog 123 = true := by kernel_rfl
theorem qg : aP Tryz.prog 191 1 = some 1 := by kernel_rfl
theorem pX : aP Tryz.prog 193 0 = some 0 := by kernel_rfl
theorem ust_132 : qm Tryz.prog 132 [(0, 1), (1, 1)] = true := by kernel_rfl
theorem tJ : bn Tryz.prog 132 = some (.agg #[.int .i64 0, .int .i64 0]) := by kernel_rfl
theorem go_150 : bC Tryz.prog 150 = true := by kernel_rfl
theorem qo : szB Tryz.prog 193 6 = true := by kernel_rfl
theorem sz_191 : szB Tryz.prog 191 2 = true := by kernel_rfl
theorem go_178 : bC Tryz.prog 178 = true := by kernel_rfl
theorem go_149 : bC Tryz.prog 149 = true := by kernel_rfl
theorem go_148 : bC Tryz.prog 148 = true := by kernel_rfl
theorem sz_194 : szB Tryz.prog 194 1 = true := by kernel_rfl
theorem ze_194 : bn Tryz.prog 194 = some (.pointer none) := by kernel_rfl
theorem sz_157 : szB Tryz.prog 157 1 = true := by kernel_rfl
theorem ze_157 : bn Tryz.prog 157 = some (.map none) := by kernel_rfl
theorem ar_160 : arrOf Tryz.prog 160 = some (61, 1) := by kernel_rfl
theorem qk : szB Tryz.prog 3 1 = true := by kernel_rfl
theorem rr : mm Tryz.prog 160 61 = true := by kernel_rfl
theorem rm : szB Tryz.prog 160 61 = true := by kernel_rfl
theorem rS : bn Tryz.prog 160 = some (.agg (encL cI (List.replicate 61 0)).toArray) := by kernel_rfl
theorem tP : Tryz.prog.underlying 27 = some (.slice 132) := by kernel_rfl
theorem tj : o4 Tryz.prog 27 = some (132, 2) := by kernel_rfl
theorem ag_132 : mm Tryz.prog 132 2 = true := by kernel_rfl
theorem sz_132 : szB Tryz.prog 132 2 = true := by kernel_rfl
theorem ust_29 : qm Tryz.prog 29 [(0, 1), (1, 1), (2, 1)] = true := by kernel_rfl
theorem ko : bn Tryz.prog 29 = some (.agg #[.slice none 0 0, .int .i64 0, .int .i64 0]) := by kernel_rfl
theorem fo_193_3 : aP Tryz.prog 193 3 = some 5 := by kernel_rfl
theorem sc_4 : scB Tryz.prog 4 = true := by kernel_rfl
theorem lz : aP Tryz.prog 29 0 = some 0 := by kernel_rfl
theorem ta : scB Tryz.prog 27 = true := by kernel_rfl
theorem fo_193_2 : aP Tryz.prog 193 2 = some 3 := by kernel_rfl
theorem ag_193 : mm Tryz.prog 193 6 = true := by kernel_rfl
theorem fo_193_1 : aP Tryz.prog 193 1 = some 1 := by kernel_rfl
theorem sz_27 : szB Tryz.prog 27 1 = true := by kernel_rfl
theorem by_132 : eY Tryz.prog 132 (.agg #[.int .i64 0, .int .i64 0]) 2 16 = true := by kernel_rfl
theorem mc_132_1 : madeCells (.agg #[.int .i64 0, .int .i64 0] : Value).cells (1 * 2) = #[.int .i64 0, .int .i64 0] := by kernel_rfl
theorem nY : mm Tryz.prog 29 3 = true := by kernel_rfl
theorem lD : szB Tryz.prog 29 3 = true := by kernel_rfl
theorem go_183 : bC Tryz.prog 183 = true := by kernel_rfl
theorem ua_160 : Tryz.prog.underlying 160 = some (.array 61 3) := by kernel_rfl
theorem rN : Tryz.prog.underlying 106 = some (.slice 29) := by kernel_rfl
theorem by_29 : eY Tryz.prog 29 (.agg #[.slice none 0 0, .int .i64 0, .int .i64 0]) 3 40 = true := by kernel_rfl
theorem mc_29_1 : madeCells (.agg #[.slice none 0 0, .int .i64 0, .int .i64 0] : Value).cells (1 * 3) = #[.slice none 0 0, .int .i64 0, .int .i64 0] := by kernel_rfl
theorem go_157 : bC Tryz.prog 157 = true := by kernel_rfl
theorem go_111 : bC Tryz.prog 111 = true := by kernel_rfl
theorem go_110 : bC Tryz.prog 110 = true := by kernel_rfl
theorem rL : o4 Tryz.prog 106 = some (29, 3) := by kernel_rfl
theorem nv : aP Tryz.prog 29 2 = some 2 := by kernel_rfl
theorem go_119 : bC Tryz.prog 119 = true := by kernel_rfl
theorem go_70 : bC Tryz.prog 70 = true := by kernel_rfl
theorem go_71 : bC Tryz.prog 71 = true := by kernel_rfl
theorem ly : aP Tryz.prog 29 1 = some 1 := by kernel_rfl
theorem go_72 : bC Tryz.prog 72 = true := by kernel_rfl
theorem og : eY Tryz.prog 120 (.agg #[.int .i64 0, .int .i64 0, .int .i64 0, .int .i64 0, .int .i64 0, .slice none 0 0]) 6 64 = true := by kernel_rfl
theorem sh : bC Tryz.prog 176 = true := by kernel_rfl
theorem bZ : o4 Tryz.prog 42 = some (3, 1) := by kernel_rfl
theorem go_168 : bC Tryz.prog 168 = true := by kernel_rfl
theorem us_s9 : Tryz.prog.underlying 9 = some .string := by kernel_rfl
theorem ui_5 : Tryz.prog.underlying 5 = some (.int .u8) := by kernel_rfl
theorem ui_220 : Tryz.prog.underlying 220 = some (.int .u64) := by kernel_rfl
theorem ui_3 : Tryz.prog.underlying 3 = some (.int .i64) := by kernel_rfl
theorem go_172 : bC Tryz.prog 172 = true := by kernel_rfl
theorem ui_176 : Tryz.prog.underlying 176 = some (.int .u64) := by kernel_rfl
theorem go_129 : bC Tryz.prog 129 = true := by kernel_rfl
theorem go_162 : bC Tryz.prog 162 = true := by kernel_rfl
theorem go_128 : bC Tryz.prog 128 = true := by kernel_rfl
theorem cV : Tryz.prog.underlying 42 = some (.slice 3) := by kernel_rfl
theorem go_80 : bC Tryz.prog 80 = true := by kernel_rfl
theorem go_79 : bC Tryz.prog 79 = true := by kernel_rfl
theorem ust_24 : qm Tryz.prog 24 [(0, 1), (1, 1)] = true := by kernel_rfl
theorem ry : bn Tryz.prog 24 = some (.agg #[.int .i64 0, .slice none 0 0]) := by kernel_rfl
theorem sz_24 : szB Tryz.prog 24 2 = true := by kernel_rfl
theorem lj : bn Tryz.prog 3 = some (.int .i64 0) := by kernel_rfl
theorem m4 : eY Tryz.prog 3 (.int .i64 0) 1 8 = true := by kernel_rfl
theorem mM : madeCells (.int .i64 0 : Value).cells (1 * 1) = #[.int .i64 0] := by kernel_rfl
theorem go_81 : bC Tryz.prog 81 = true := by kernel_rfl
theorem go_18 : bC Tryz.prog 18 = true := by kernel_rfl
theorem lC : Tryz.prog.underlying 51 = some (.slice 65) := by kernel_rfl
theorem kC : o4 Tryz.prog 51 = some (65, 5) := by kernel_rfl
theorem qV : mm Tryz.prog 65 5 = true := by kernel_rfl
theorem go_173 : bC Tryz.prog 173 = true := by kernel_rfl
theorem ku : aP Tryz.prog 65 0 = some 0 := by kernel_rfl
theorem cn : aP Tryz.prog 53 1 = some 1 := by kernel_rfl
theorem gP : scB Tryz.prog 51 = true := by kernel_rfl
theorem go_135 : bC Tryz.prog 135 = true := by kernel_rfl
theorem go_134 : bC Tryz.prog 134 = true := by kernel_rfl
theorem kg : Tryz.prog.underlying 50 = some (.slice 69) := by kernel_rfl
theorem mF : o4 Tryz.prog 50 = some (69, 3) := by kernel_rfl
theorem ag_69 : mm Tryz.prog 69 3 = true := by kernel_rfl
theorem go_174 : bC Tryz.prog 174 = true := by kernel_rfl
theorem kL : aP Tryz.prog 69 0 = some 0 := by kernel_rfl
theorem eM : aP Tryz.prog 53 0 = some 0 := by kernel_rfl
theorem ky : scB Tryz.prog 50 = true := by kernel_rfl
theorem go_140 : bC Tryz.prog 140 = true := by kernel_rfl
theorem go_139 : bC Tryz.prog 139 = true := by kernel_rfl
theorem qb : aP Tryz.prog 69 1 = some 1 := by kernel_rfl
theorem py : aP Tryz.prog 69 2 = some 2 := by kernel_rfl
theorem dp : mm Tryz.prog 53 2 = true := by kernel_rfl
theorem go_96 : bC Tryz.prog 96 = true := by kernel_rfl
theorem sz_69 : szB Tryz.prog 69 3 = true := by kernel_rfl
theorem oK : bn Tryz.prog 69 = some (.agg #[.int .i64 0, .int .i64 0, .int .i64 0]) := by kernel_rfl
theorem gX : aP Tryz.prog 65 1 = some 1 := by kernel_rfl
theorem p5 : aP Tryz.prog 65 2 = some 3 := by kernel_rfl
theorem jc : aP Tryz.prog 65 3 = some 4 := by kernel_rfl
theorem go_90 : bC Tryz.prog 90 = true := by kernel_rfl
theorem sz_65 : szB Tryz.prog 65 5 = true := by kernel_rfl
theorem oQ : bn Tryz.prog 65 = some (.agg #[.int .i64 0, .int .i64 0, .int .i64 0, .int .i64 0, .int .i64 0]) := by kernel_rfl
theorem sc_189 : scB Tryz.prog 189 = true := by kernel_rfl
theorem um_189 : Tryz.prog.underlying 189 = some (.map 3 4) := by kernel_rfl
theorem ze_4 : bn Tryz.prog 4 = some (.bool false) := by kernel_rfl
theorem go_101 : bC Tryz.prog 101 = true := by kernel_rfl
theorem sg : scB Tryz.prog 152 = true := by kernel_rfl
theorem qK : Tryz.prog.underlying 152 = some (.map 3 3) := by kernel_rfl
theorem sc_127 : scB Tryz.prog 127 = true := by kernel_rfl
theorem go_156 : bC Tryz.prog 156 = true := by kernel_rfl
theorem sz_127 : szB Tryz.prog 127 1 = true := by kernel_rfl
theorem ze_127 : bn Tryz.prog 127 = some (.nilFunc) := by kernel_rfl
theorem sz_189 : szB Tryz.prog 189 1 = true := by kernel_rfl
theorem ze_189 : bn Tryz.prog 189 = some (.map none) := by kernel_rfl
theorem go_190 : bC Tryz.prog 190 = true := by kernel_rfl
theorem go_175 : bC Tryz.prog 175 = true := by kernel_rfl
theorem go_145 : bC Tryz.prog 145 = true := by kernel_rfl
theorem go_144 : bC Tryz.prog 144 = true := by kernel_rfl
theorem go_117 : bC Tryz.prog 117 = true := by kernel_rfl
theorem go_143 : bC Tryz.prog 143 = true := by kernel_rfl
theorem go_130 : bC Tryz.prog 130 = true := by kernel_rfl
theorem go_100 : bC Tryz.prog 100 = true := by kernel_rfl
theorem by_65 : eY Tryz.prog 65 (.agg #[.int .i64 0, .int .i64 0, .int .i64 0, .int .i64 0, .int .i64 0]) 5 40 = true := by kernel_rfl
theorem go_115 : bC Tryz.prog 115 = true := by kernel_rfl
theorem ust_53 : qm Tryz.prog 53 [(0, 1), (1, 1)] = true := by kernel_rfl
theorem q9 : bn Tryz.prog 53 = some (.agg #[.slice none 0 0, .slice none 0 0]) := by kernel_rfl
theorem sz_53 : szB Tryz.prog 53 2 = true := by kernel_rfl
theorem sP : bC Tryz.prog 83 = true := by kernel_rfl
theorem go_131 : bC Tryz.prog 131 = true := by kernel_rfl
theorem go_85 : bC Tryz.prog 85 = true := by kernel_rfl
theorem go_88 : bC Tryz.prog 88 = true := by kernel_rfl
theorem go_45 : bC Tryz.prog 45 = true := by kernel_rfl
theorem go_84 : bC Tryz.prog 84 = true := by kernel_rfl
theorem go_137 : bC Tryz.prog 137 = true := by kernel_rfl
theorem go_138 : bC Tryz.prog 138 = true := by kernel_rfl
theorem go_136 : bC Tryz.prog 136 = true := by kernel_rfl
theorem sz_152 : szB Tryz.prog 152 1 = true := by kernel_rfl
theorem ze_152 : bn Tryz.prog 152 = some (.map none) := by kernel_rfl
theorem go_91 : bC Tryz.prog 91 = true := by kernel_rfl
theorem go_94 : bC Tryz.prog 94 = true := by kernel_rfl
theorem go_93 : bC Tryz.prog 93 = true := by kernel_rfl
theorem go_92 : bC Tryz.prog 92 = true := by kernel_rfl
theorem by_69 : eY Tryz.prog 69 (.agg #[.int .i64 0, .int .i64 0, .int .i64 0]) 3 24 = true := by kernel_rfl
theorem go_142 : bC Tryz.prog 142 = true := by kernel_rfl
theorem go_141 : bC Tryz.prog 141 = true := by kernel_rfl
theorem go_97 : bC Tryz.prog 97 = true := by kernel_rfl
theorem ust_71 : qm Tryz.prog 71 [(0, 1), (1, 1), (2, 1)] = true := by kernel_rfl
theorem sC : bn Tryz.prog 71 = some (.agg #[.slice none 0 0, .int .i64 0, .slice none 0 0]) := by kernel_rfl
theorem sz_71 : szB Tryz.prog 71 3 = true := by kernel_rfl
theorem fo_71_0 : aP Tryz.prog 71 0 = some 0 := by kernel_rfl
theorem iR : scB Tryz.prog 42 = true := by kernel_rfl
theorem rF : aP Tryz.prog 71 2 = some 2 := by kernel_rfl
theorem pp : aP Tryz.prog 71 1 = some 1 := by kernel_rfl
theorem sz_42 : szB Tryz.prog 42 1 = true := by kernel_rfl
theorem ag_71 : mm Tryz.prog 71 3 = true := by kernel_rfl
theorem go_99 : bC Tryz.prog 99 = true := by kernel_rfl
theorem go : bC Tryz.prog 109 = true := by kernel_rfl
theorem qN : bC Tryz.prog 77 = true := by kernel_rfl
theorem go_98 : bC Tryz.prog 98 = true := by kernel_rfl
theorem go_104 : bC Tryz.prog 104 = true := by kernel_rfl
theorem go_46 : bC Tryz.prog 46 = true := by kernel_rfl
theorem go_105 : bC Tryz.prog 105 = true := by kernel_rfl
theorem go_106 : bC Tryz.prog 106 = true := by kernel_rfl
theorem ust_87 : qm Tryz.prog 87 [(0, 1)] = true := by kernel_rfl
theorem ze_87 : bn Tryz.prog 87 = some (.agg #[.slice none 0 0]) := by kernel_rfl
theorem ag_87 : mm Tryz.prog 87 1 = true := by kernel_rfl
theorem sz_87 : szB Tryz.prog 87 1 = true := by kernel_rfl
theorem lA : aP Tryz.prog 87 0 = some 0 := by kernel_rfl
theorem tq : scB Tryz.prog 85 = true := by kernel_rfl
theorem mc_42_1 : madeCells (.slice none 0 0 : Value).cells (1 * 1) = #[.slice none 0 0] := by kernel_rfl
theorem us_85 : Tryz.prog.underlying 85 = some (.slice 42) := by kernel_rfl
theorem ze_42 : bn Tryz.prog 42 = some (.slice none 0 0) := by kernel_rfl
theorem by_42 : eY Tryz.prog 42 (.slice none 0 0) 1 24 = true := by kernel_rfl
theorem sz_85 : szB Tryz.prog 85 1 = true := by kernel_rfl
theorem px : qm Tryz.prog 120 [(0, 1), (1, 1), (2, 1), (3, 1), (4, 1), (5, 1)] = true := by kernel_rfl
theorem rR : qm Tryz.prog 63 [(0, 1), (1, 1)] = true := by kernel_rfl
theorem mc_120_4 : madeCells (.agg #[.int .i64 0, .int .i64 0, .int .i64 0, .int .i64 0, .int .i64 0, .slice none 0 0] : Value).cells (4 * 6) = #[.int .i64 0, .int .i64 0, .int .i64 0, .int .i64 0, .int .i64 0, .slice none 0 0, .int .i64 0, .int .i64 0, .int .i64 0, .int .i64 0, .int .i64 0, .slice none 0 0, .int .i64 0, .int .i64 0, .int .i64 0, .int .i64 0, .int .i64 0, .slice none 0 0, .int .i64 0, .int .i64 0, .int .i64 0, .int .i64 0, .int .i64 0, .slice none 0 0] := by kernel_rfl
theorem mc_63_1 : madeCells (.agg #[.int .i64 0, .int .i64 0] : Value).cells (1 * 2) = #[.int .i64 0, .int .i64 0] := by kernel_rfl
theorem by_63 : eY Tryz.prog 63 (.agg #[.int .i64 0, .int .i64 0]) 2 16 = true := by kernel_rfl
theorem ust_69 : qm Tryz.prog 69 [(0, 1), (1, 1), (2, 1)] = true := by kernel_rfl
theorem ust_65 : qm Tryz.prog 65 [(0, 1), (1, 2), (3, 1), (4, 1)] = true := by kernel_rfl
theorem mc_65_3 : madeCells (.agg #[.int .i64 0, .int .i64 0, .int .i64 0, .int .i64 0, .int .i64 0] : Value).cells (3 * 5) = #[.int .i64 0, .int .i64 0, .int .i64 0, .int .i64 0, .int .i64 0, .int .i64 0, .int .i64 0, .int .i64 0, .int .i64 0, .int .i64 0, .int .i64 0, .int .i64 0, .int .i64 0, .int .i64 0, .int .i64 0] := by kernel_rfl
theorem mc_69_2 : madeCells (.agg #[.int .i64 0, .int .i64 0, .int .i64 0] : Value).cells (2 * 3) = #[.int .i64 0, .int .i64 0, .int .i64 0, .int .i64 0, .int .i64 0, .int .i64 0] := by kernel_rfl
theorem go_69 : bC Tryz.prog 69 = true := by kernel_rfl
theorem go_19 : bC Tryz.prog 19 = true := by kernel_rfl
theorem ki : o4 Tryz.prog 85 = some (42, 1) := by kernel_rfl
theorem sG : bC Tryz.prog 25 = true := by kernel_rfl
theorem mc_3_2 : madeCells (.int .i64 0 : Value).cells (2 * 1) = #[.int .i64 0, .int .i64 0] := by kernel_rfl
theorem go_33 : bC Tryz.prog 33 = true := by kernel_rfl
theorem go_44 : bC Tryz.prog 44 = true := by kernel_rfl
theorem go_31 : bC Tryz.prog 31 = true := by kernel_rfl
theorem mc_3_3 : madeCells (.int .i64 0 : Value).cells (3 * 1) = #[.int .i64 0, .int .i64 0, .int .i64 0] := by kernel_rfl
theorem go_29 : bC Tryz.prog 29 = true := by kernel_rfl
theorem go_27 : bC Tryz.prog 27 = true := by kernel_rfl
theorem go_37 : bC Tryz.prog 37 = true := by kernel_rfl
theorem go_23 : bC Tryz.prog 23 = true := by kernel_rfl
theorem go_61 : bC Tryz.prog 61 = true := by kernel_rfl
theorem go_49 : bC Tryz.prog 49 = true := by kernel_rfl
theorem go_68 : bC Tryz.prog 68 = true := by kernel_rfl
theorem go_67 : bC Tryz.prog 67 = true := by kernel_rfl
theorem go_16 : bC Tryz.prog 16 = true := by kernel_rfl
theorem go_17 : bC Tryz.prog 17 = true := by kernel_rfl
theorem go_184 : bC Tryz.prog 184 = true := by kernel_rfl
theorem go_160 : bC Tryz.prog 160 = true := by kernel_rfl
theorem go_125 : bC Tryz.prog 125 = true := by kernel_rfl
theorem ust_37 : qm Tryz.prog 37 [(0, 1), (1, 1)] = true := by kernel_rfl
theorem ze_37 : bn Tryz.prog 37 = some (.agg #[.int .i64 0, .int .i64 0]) := by kernel_rfl
theorem rI : Tryz.prog.underlying 109 = some (.slice 37) := by kernel_rfl
theorem by_37 : eY Tryz.prog 37 (.agg #[.int .i64 0, .int .i64 0]) 2 16 = true := by kernel_rfl
theorem mc_37_1 : madeCells (.agg #[.int .i64 0, .int .i64 0] : Value).cells (1 * 2) = #[.int .i64 0, .int .i64 0] := by kernel_rfl
theorem go_161 : bC Tryz.prog 161 = true := by kernel_rfl
theorem go_126 : bC Tryz.prog 126 = true := by kernel_rfl
theorem go_127 : bC Tryz.prog 127 = true := by kernel_rfl
theorem go_73 : bC Tryz.prog 73 = true := by kernel_rfl
theorem ust_39 : qm Tryz.prog 39 [(0, 2), (2, 1)] = true := by kernel_rfl
theorem tM : bn Tryz.prog 39 = some (.agg #[.int .i64 0, .int .i64 0, .int .i64 0]) := by kernel_rfl
theorem ag_39 : mm Tryz.prog 39 3 = true := by kernel_rfl
theorem sz_39 : szB Tryz.prog 39 3 = true := by kernel_rfl
theorem sl_109 : o4 Tryz.prog 109 = some (37, 2) := by kernel_rfl
theorem ag_37 : mm Tryz.prog 37 2 = true := by kernel_rfl
theorem go_74 : bC Tryz.prog 74 = true := by kernel_rfl
theorem go_75 : bC Tryz.prog 75 = true := by kernel_rfl
theorem fo_132_0 : aP Tryz.prog 132 0 = some 0 := by kernel_rfl
theorem go_76 : bC Tryz.prog 76 = true := by kernel_rfl
theorem fo_132_1 : aP Tryz.prog 132 1 = some 1 := by kernel_rfl
theorem go_78 : bC Tryz.prog 78 = true := by kernel_rfl
theorem ust_46 : qm Tryz.prog 46 [(0, 1), (1, 1)] = true := by kernel_rfl
theorem ze_46 : bn Tryz.prog 46 = some (.agg #[.slice none 0 0, .int .i64 0]) := by kernel_rfl
theorem ag_46 : mm Tryz.prog 46 2 = true := by kernel_rfl
theorem sz_46 : szB Tryz.prog 46 2 = true := by kernel_rfl
theorem go_82 : bC Tryz.prog 82 = true := by kernel_rfl
theorem go_20 : bC Tryz.prog 20 = true := by kernel_rfl
theorem fo_39_1 : aP Tryz.prog 39 1 = some 2 := by kernel_rfl
theorem sc_30 : scB Tryz.prog 30 = true := by kernel_rfl
theorem fo_39_0 : aP Tryz.prog 39 0 = some 0 := by kernel_rfl
theorem fo_37_0 : aP Tryz.prog 37 0 = some 0 := by kernel_rfl
theorem fo_37_1 : aP Tryz.prog 37 1 = some 1 := by kernel_rfl
theorem go_21 : bC Tryz.prog 21 = true := by kernel_rfl
theorem go_22 : bC Tryz.prog 22 = true := by kernel_rfl
theorem fo_46_0 : aP Tryz.prog 46 0 = some 0 := by kernel_rfl
theorem fo_46_1 : aP Tryz.prog 46 1 = some 1 := by kernel_rfl
theorem go_24 : bC Tryz.prog 24 = true := by kernel_rfl
theorem kf_191 : fldsB Tryz.prog 191 [(0, 1, 3), (1, 1, 3)] = true := by kernel_rfl
theorem kl_191 : laidOutB Tryz.prog = true := by kernel_rfl
theorem kw_191 : (match Tryz.prog.underlying 191 with | some (.array _ _) | some (.struct _) => true | _ => false) = true := by kernel_rfl
theorem mQ : KeyE Tryz.prog 191 co aQ where
  keyed := .of_law (deep_law_laid kl_191 (m := 6) (by omega) (of_decide_eq_true (by kernel_rfl)) (by kernel_rfl) kw_191)
  tot := fun x h => by
    unfold aQ at h
    simp only [Bool.and_eq_true] at h
    obtain ⟨h0, h1⟩ := h
    exact keyS_2 (of_decide_eq_true (by kernel_rfl)) kf_191 ui_3 ui_3 (rz h0) (rz h1)
  inj := fun x y h => by
    cases x; cases y
    simp only [co] at h
    simp_all
theorem ke_3 : KeyE Tryz.prog 3 kI dW := keyE_int ui_3
end Go.Proofs.YthndghnkebboaaaGreat
