import Derived.Test.YthndghnkebboaaaGreatGy
import Derived.Test.YthndghnkebboaaaGreatGz
import Derived.Test.YthndghnkebboaaaGreatP
import Derived.Test.YthndghnkebboaaaGreatProg
set_option maxRecDepth 20000
set_option linter.unusedVariables false
namespace Go.Proofs.YthndghnkebboaaaGreat
def aP (x : TSpan) : List Value := [.int .i64 x.fLo, .int .i64 x.fHi]
theorem eI (x : TSpan) : (aP x).length = 2 := rfl
def av (x : Twait) : List Value := [.int .i64 x.f_at, .int .i64 x.f_stop.f_place, .int .i64 x.f_stop.f_toll]
theorem aQ (x : Twait) : (av x).length = 3 := rfl
theorem nF (x : Twait) : ((av x).all (·.oneCell')) = true := rfl
def bC (x : TLeg) : List Value := [.int .i64 x.fTrack, .int .i64 x.fHour]
theorem bZ (x : TLeg) : (bC x).length = 2 := rfl
theorem nI (x : TLeg) : ((bC x).all (·.oneCell')) = true := rfl
def TOrder_cells (x : TO) : List Value := [.int .i64 x.fID, .int .i64 x.fH.fLo, .int .i64 x.fH.fHi, .int .i64 x.fD, .int .i64 x.fW]
theorem ad (x : TO) : (TOrder_cells x).length = 5 := rfl
theorem mE (x : TO) : ((TOrder_cells x).all (·.oneCell')) = true := rfl
def TBay_cells (x : TBay) : List Value := [.int .i64 x.fID, .int .i64 x.fHour, .int .i64 x.fD]
theorem aI (x : TBay) : (TBay_cells x).length = 3 := rfl
theorem gt (x : TBay) : ((TBay_cells x).all (·.oneCell')) = true := rfl
def aC (p : Hd × TT) : List Value := [.int .i64 p.2.fID, .int .i64 p.2.fFrom, .int .i64 p.2.fTo, .int .i64 p.2.fLong, .int .i64 p.2.fToll, .slice p.1.1 p.1.2.1 p.1.2.2]
theorem aV (p : Hd × TT) : (aC p).length = 6 := rfl
theorem iR (p : Hd × TT) : ((aC p).all (·.oneCell')) = true := rfl
theorem fi {p : Hd × TT} {z : TT} {k : Nat} (hs : p.2 = z) (hl : p.1.2.1 = k) : aC p = [.int .i64 z.fID, .int .i64 z.fFrom, .int .i64 z.fTo, .int .i64 z.fLong, .int .i64 z.fToll, .slice p.1.1 k p.1.2.2] := by subst hs hl; rfl
def cD (p : Hd × TJ) : List Value := [.slice p.1.1 p.1.2.1 p.1.2.2, .int .i64 p.2.fA, .int .i64 p.2.fToll]
theorem be (p : Hd × TJ) : (cD p).length = 3 := rfl
theorem kG (p : Hd × TJ) : ((cD p).all (·.oneCell')) = true := rfl
theorem le {p : Hd × TJ} {z : TJ} {k : Nat} (hs : p.2 = z) (hl : p.1.2.1 = k) : cD p = [.slice p.1.1 k p.1.2.2, .int .i64 z.fA, .int .i64 z.fToll] := by subst hs hl; rfl
def dU (p : Hd × (List Int)) : List Value := [.slice p.1.1 p.1.2.1 p.1.2.2]
theorem bG (p : Hd × (List Int)) : (dU p).length = 1 := rfl
theorem mF (p : Hd × (List Int)) : ((dU p).all (·.oneCell')) = true := rfl
def cE (x : Ts) : Value := .agg #[.int .i64 x.f_place, .int .i64 x.f_toll]
def cr (x : Tl) : Value := .agg #[.int .i64 x.f_at, .int .i64 x.f_from.f_place, .int .i64 x.f_from.f_toll, .int .i64 x.f_leg.fTrack, .int .i64 x.f_leg.fHour, .bool x.f_begin]
theorem kK : a4 Tryz.prog 24 1 = some 1 := by kernel_rfl
theorem qv : scB Tryz.prog 22 = true := by kernel_rfl
theorem lF : Tryz.prog.underlying 22 = some (.slice 120) := by kernel_rfl
theorem oy : nY Tryz.prog 22 = some (120, 6) := by kernel_rfl
theorem o9 : a4 Tryz.prog 120 5 = some 5 := by kernel_rfl
theorem sL : scB Tryz.prog 118 = true := by kernel_rfl
theorem qR : Tryz.prog.underlying 118 = some (.slice 63) := by kernel_rfl
theorem lS : a4 Tryz.prog 24 0 = some 0 := by kernel_rfl
theorem bg : scB Tryz.prog 3 = true := by kernel_rfl
theorem gI : bI Tryz.prog 107 = true := by kernel_rfl
theorem sl_118 : nY Tryz.prog 118 = some (63, 2) := by kernel_rfl
theorem ag_63 : mf Tryz.prog 63 2 = true := by kernel_rfl
theorem jo : a4 Tryz.prog 63 0 = some 0 := by kernel_rfl
theorem g8 : a4 Tryz.prog 63 1 = some 1 := by kernel_rfl
theorem sz_63 : szB Tryz.prog 63 2 = true := by kernel_rfl
theorem qC : bu Tryz.prog 63 = some (.agg #[.int .i64 0, .int .i64 0]) := by kernel_rfl
theorem my : mf Tryz.prog 120 6 = true := by kernel_rfl
theorem go_192 : bI Tryz.prog 192 = true := by kernel_rfl
theorem k9 : a4 Tryz.prog 120 0 = some 0 := by kernel_rfl
theorem go_182 : bI Tryz.prog 182 = true := by kernel_rfl
theorem go_181 : bI Tryz.prog 181 = true := by kernel_rfl
theorem pj : a4 Tryz.prog 120 1 = some 1 := by kernel_rfl
theorem go_159 : bI Tryz.prog 159 = true := by kernel_rfl
theorem oK : a4 Tryz.prog 120 2 = some 2 := by kernel_rfl
theorem kX : a4 Tryz.prog 120 3 = some 3 := by kernel_rfl
theorem q9 : a4 Tryz.prog 120 4 = some 4 := by kernel_rfl
theorem go_122 : bI Tryz.prog 122 = true := by kernel_rfl
theorem iu : mf Tryz.prog 24 2 = true := by kernel_rfl
theorem go_155 : bI Tryz.prog 155 = true := by kernel_rfl
theorem qQ : szB Tryz.prog 120 6 = true := by kernel_rfl
theorem iO : bu Tryz.prog 120 = some (.agg #[.int .i64 0, .int .i64 0, .int .i64 0, .int .i64 0, .int .i64 0, .slice none 0 0]) := by kernel_rfl
theorem go_124 : bI Tryz.prog 124 = true := by kernel_rfl
theorem mY : bI Tryz.prog 108 = true := by kernel_rfl
theorem n3 : Tryz.prog.underlying 198 = some (.slice 196) := by kernel_rfl
theorem mj : nY Tryz.prog 198 = some (196, 3) := by kernel_rfl
theorem mV : a4 Tryz.prog 196 0 = some 0 := by kernel_rfl
theorem cQ : Tryz.prog.follows .mixedOrders = true := by kernel_rfl
theorem ru : mf Tryz.prog 196 3 = true := by kernel_rfl
theorem re : szB Tryz.prog 196 3 = true := by kernel_rfl
theorem ji : lh Tryz.prog 194 "Less" = some (212, false) := by kernel_rfl
theorem js : Tryz.prog.underlying 194 = some (.pointer 198) := by kernel_rfl
theorem iS : scB Tryz.prog 198 = true := by kernel_rfl
theorem qS : bI Tryz.prog 212 = true := by kernel_rfl
theorem jg : lh Tryz.prog 194 "Swap" = some (215, false) := by kernel_rfl
theorem mp : bI Tryz.prog 215 = true := by kernel_rfl
theorem o5 : rP Tryz.prog 196 = true := by kernel_rfl
theorem sz_198 : szB Tryz.prog 198 1 = true := by kernel_rfl
theorem nf : bu Tryz.prog 196 = some (.agg #[.int .i64 0, .int .i64 0, .int .i64 0]) := by kernel_rfl
theorem nU : lh Tryz.prog 194 "Len" = some (147, false) := by kernel_rfl
theorem go_147 : bI Tryz.prog 147 = true := by kernel_rfl
theorem rW : lh Tryz.prog 194 "Pop" = some (213, true) := by kernel_rfl
theorem go_213 : bI Tryz.prog 213 = true := by kernel_rfl
theorem go_177 : bI Tryz.prog 177 = true := by kernel_rfl
theorem qU : madeCells (.agg #[.int .i64 0, .int .i64 0, .int .i64 0] : Value).cells (1 * 3) = #[.int .i64 0, .int .i64 0, .int .i64 0] := by kernel_rfl
theorem by_196 : eX Tryz.prog 196 (.agg #[.int .i64 0, .int .i64 0, .int .i64 0]) 3 24 = true := by kernel_rfl
theorem qf : lh Tryz.prog 194 "Push" = some (214, true) := by kernel_rfl
theorem go_214 : bI Tryz.prog 214 = true := by kernel_rfl
theorem go_179 : bI Tryz.prog 179 = true := by kernel_rfl
theorem m5 : p8 Tryz.prog 191 [(0, 1), (1, 1)] = true := by kernel_rfl
theorem od : bu Tryz.prog 191 = some (.agg #[.int .i64 0, .int .i64 0]) := by kernel_rfl
theorem ust_193 : p8 Tryz.prog 193 [(0, 1), (1, 2), (3, 2), (5, 1)] = true := by kernel_rfl
theorem jq : bu Tryz.prog 193 = some (.agg #[.int .i64 0, .int .i64 0, .int .i64 0, .int .i64 0, .int .i64 0, .bool false]) := by kernel_rfl
theorem ust_196 : p8 Tryz.prog 196 [(0, 1), (1, 2)] = true := by kernel_rfl
theorem ti : scB Tryz.prog 194 = true := by kernel_rfl
theorem nif_194 : rP Tryz.prog 194 = true := by kernel_rfl
theorem q6 : scB Tryz.prog 157 = true := by kernel_rfl
theorem mP : a4 Tryz.prog 196 1 = some 1 := by kernel_rfl
theorem mg : mf Tryz.prog 191 2 = true := by kernel_rfl
theorem mh : Tryz.prog.underlying 157 = some (.map 191 193) := by kernel_rfl
theorem rD : fldT Tryz.prog 193 0 = some (3, 0) := by kernel_rfl
theorem fo_191_0 : a4 Tryz.prog 191 0 = some 0 := by kernel_rfl
theorem go_123 : bI Tryz.prog 123 = true := by kernel_rfl
theorem o0 : a4 Tryz.prog 191 1 = some 1 := by kernel_rfl
theorem pg : a4 Tryz.prog 193 0 = some 0 := by kernel_rfl
theorem ust_132 : p8 Tryz.prog 132 [(0, 1), (1, 1)] = true := by kernel_rfl
theorem ze_132 : bu Tryz.prog 132 = some (.agg #[.int .i64 0, .int .i64 0]) := by kernel_rfl
theorem go_150 : bI Tryz.prog 150 = true := by kernel_rfl
theorem pG : szB Tryz.prog 193 6 = true := by kernel_rfl
theorem sz_191 : szB Tryz.prog 191 2 = true := by kernel_rfl
theorem go_178 : bI Tryz.prog 178 = true := by kernel_rfl
theorem go_149 : bI Tryz.prog 149 = true := by kernel_rfl
theorem go_148 : bI Tryz.prog 148 = true := by kernel_rfl
theorem sz_194 : szB Tryz.prog 194 1 = true := by kernel_rfl
theorem ze_194 : bu Tryz.prog 194 = some (.pointer none) := by kernel_rfl
theorem sz_157 : szB Tryz.prog 157 1 = true := by kernel_rfl
theorem ze_157 : bu Tryz.prog 157 = some (.map none) := by kernel_rfl
theorem ar_160 : arrOf Tryz.prog 160 = some (61, 1) := by kernel_rfl
theorem py : szB Tryz.prog 3 1 = true := by kernel_rfl
theorem ql : mf Tryz.prog 160 61 = true := by kernel_rfl
theorem qk : szB Tryz.prog 160 61 = true := by kernel_rfl
theorem rL : bu Tryz.prog 160 = some (.agg (aq cI (List.replicate 61 0)).toArray) := by kernel_rfl
theorem us_27 : Tryz.prog.underlying 27 = some (.slice 132) := by kernel_rfl
theorem sl_27 : nY Tryz.prog 27 = some (132, 2) := by kernel_rfl
theorem ag_132 : mf Tryz.prog 132 2 = true := by kernel_rfl
theorem sz_132 : szB Tryz.prog 132 2 = true := by kernel_rfl
theorem sY : p8 Tryz.prog 29 [(0, 1), (1, 1), (2, 1)] = true := by kernel_rfl
theorem kr : bu Tryz.prog 29 = some (.agg #[.slice none 0 0, .int .i64 0, .int .i64 0]) := by kernel_rfl
theorem fo_193_3 : a4 Tryz.prog 193 3 = some 5 := by kernel_rfl
theorem sc_4 : scB Tryz.prog 4 = true := by kernel_rfl
theorem qE : a4 Tryz.prog 29 0 = some 0 := by kernel_rfl
theorem sc_27 : scB Tryz.prog 27 = true := by kernel_rfl
theorem fo_193_2 : a4 Tryz.prog 193 2 = some 3 := by kernel_rfl
theorem ag_193 : mf Tryz.prog 193 6 = true := by kernel_rfl
theorem fo_193_1 : a4 Tryz.prog 193 1 = some 1 := by kernel_rfl
theorem sz_27 : szB Tryz.prog 27 1 = true := by kernel_rfl
theorem by_132 : eX Tryz.prog 132 (.agg #[.int .i64 0, .int .i64 0]) 2 16 = true := by kernel_rfl
theorem mc_132_1 : madeCells (.agg #[.int .i64 0, .int .i64 0] : Value).cells (1 * 2) = #[.int .i64 0, .int .i64 0] := by kernel_rfl
theorem nJ : mf Tryz.prog 29 3 = true := by kernel_rfl
theorem lU : szB Tryz.prog 29 3 = true := by kernel_rfl
theorem go_183 : bI Tryz.prog 183 = true := by kernel_rfl
theorem ua_160 : Tryz.prog.underlying 160 = some (.array 61 3) := by kernel_rfl
theorem qT : Tryz.prog.underlying 106 = some (.slice 29) := by kernel_rfl
theorem by_29 : eX Tryz.prog 29 (.agg #[.slice none 0 0, .int .i64 0, .int .i64 0]) 3 40 = true := by kernel_rfl
theorem mc_29_1 : madeCells (.agg #[.slice none 0 0, .int .i64 0, .int .i64 0] : Value).cells (1 * 3) = #[.slice none 0 0, .int .i64 0, .int .i64 0] := by kernel_rfl
theorem go_157 : bI Tryz.prog 157 = true := by kernel_rfl
theorem go_111 : bI Tryz.prog 111 = true := by kernel_rfl
theorem go_110 : bI Tryz.prog 110 = true := by kernel_rfl
theorem rj : nY Tryz.prog 106 = some (29, 3) := by kernel_rfl
theorem qK : a4 Tryz.prog 29 2 = some 2 := by kernel_rfl
theorem go_119 : bI Tryz.prog 119 = true := by kernel_rfl
theorem go_70 : bI Tryz.prog 70 = true := by kernel_rfl
theorem go_71 : bI Tryz.prog 71 = true := by kernel_rfl
theorem m7 : a4 Tryz.prog 29 1 = some 1 := by kernel_rfl
theorem go_72 : bI Tryz.prog 72 = true := by kernel_rfl
theorem qP : eX Tryz.prog 120 (.agg #[.int .i64 0, .int .i64 0, .int .i64 0, .int .i64 0, .int .i64 0, .slice none 0 0]) 6 64 = true := by kernel_rfl
theorem qV : bI Tryz.prog 176 = true := by kernel_rfl
theorem cO : nY Tryz.prog 42 = some (3, 1) := by kernel_rfl
theorem go_168 : bI Tryz.prog 168 = true := by kernel_rfl
theorem us_s9 : Tryz.prog.underlying 9 = some .string := by kernel_rfl
theorem ui_220 : Tryz.prog.underlying 220 = some (.int .u64) := by kernel_rfl
theorem ui_5 : Tryz.prog.underlying 5 = some (.int .u8) := by kernel_rfl
theorem ui_3 : Tryz.prog.underlying 3 = some (.int .i64) := by kernel_rfl
theorem go_172 : bI Tryz.prog 172 = true := by kernel_rfl
theorem ui_176 : Tryz.prog.underlying 176 = some (.int .u64) := by kernel_rfl
theorem go_129 : bI Tryz.prog 129 = true := by kernel_rfl
theorem go_162 : bI Tryz.prog 162 = true := by kernel_rfl
theorem bJ : Tryz.prog.underlying 42 = some (.slice 3) := by kernel_rfl
theorem go_128 : bI Tryz.prog 128 = true := by kernel_rfl
theorem go_80 : bI Tryz.prog 80 = true := by kernel_rfl
theorem go_79 : bI Tryz.prog 79 = true := by kernel_rfl
theorem ust_24 : p8 Tryz.prog 24 [(0, 1), (1, 1)] = true := by kernel_rfl
theorem ze_24 : bu Tryz.prog 24 = some (.agg #[.int .i64 0, .slice none 0 0]) := by kernel_rfl
theorem sz_24 : szB Tryz.prog 24 2 = true := by kernel_rfl
theorem gO : bu Tryz.prog 3 = some (.int .i64 0) := by kernel_rfl
theorem iJ : eX Tryz.prog 3 (.int .i64 0) 1 8 = true := by kernel_rfl
theorem iz : madeCells (.int .i64 0 : Value).cells (1 * 1) = #[.int .i64 0] := by kernel_rfl
theorem go_81 : bI Tryz.prog 81 = true := by kernel_rfl
theorem go_18 : bI Tryz.prog 18 = true := by kernel_rfl
theorem g6 : Tryz.prog.underlying 51 = some (.slice 65) := by kernel_rfl
theorem gE : nY Tryz.prog 51 = some (65, 5) := by kernel_rfl
theorem pD : mf Tryz.prog 65 5 = true := by kernel_rfl
theorem go_173 : bI Tryz.prog 173 = true := by kernel_rfl
theorem gm : a4 Tryz.prog 65 0 = some 0 := by kernel_rfl
theorem bf : a4 Tryz.prog 53 1 = some 1 := by kernel_rfl
theorem dE : scB Tryz.prog 51 = true := by kernel_rfl
theorem go_135 : bI Tryz.prog 135 = true := by kernel_rfl
theorem go_134 : bI Tryz.prog 134 = true := by kernel_rfl
theorem gh : Tryz.prog.underlying 50 = some (.slice 69) := by kernel_rfl
theorem kL : nY Tryz.prog 50 = some (69, 3) := by kernel_rfl
theorem sH : mf Tryz.prog 69 3 = true := by kernel_rfl
theorem go_174 : bI Tryz.prog 174 = true := by kernel_rfl
theorem jF : a4 Tryz.prog 69 0 = some 0 := by kernel_rfl
theorem cP : a4 Tryz.prog 53 0 = some 0 := by kernel_rfl
theorem gH : scB Tryz.prog 50 = true := by kernel_rfl
theorem go_140 : bI Tryz.prog 140 = true := by kernel_rfl
theorem go_139 : bI Tryz.prog 139 = true := by kernel_rfl
theorem pv : a4 Tryz.prog 69 1 = some 1 := by kernel_rfl
theorem pk : a4 Tryz.prog 69 2 = some 2 := by kernel_rfl
theorem bt : mf Tryz.prog 53 2 = true := by kernel_rfl
theorem go_96 : bI Tryz.prog 96 = true := by kernel_rfl
theorem sz_69 : szB Tryz.prog 69 3 = true := by kernel_rfl
theorem lO : bu Tryz.prog 69 = some (.agg #[.int .i64 0, .int .i64 0, .int .i64 0]) := by kernel_rfl
theorem gG : a4 Tryz.prog 65 1 = some 1 := by kernel_rfl
theorem oR : a4 Tryz.prog 65 2 = some 3 := by kernel_rfl
theorem f7 : a4 Tryz.prog 65 3 = some 4 := by kernel_rfl
theorem go_90 : bI Tryz.prog 90 = true := by kernel_rfl
theorem sz_65 : szB Tryz.prog 65 5 = true := by kernel_rfl
theorem nM : bu Tryz.prog 65 = some (.agg #[.int .i64 0, .int .i64 0, .int .i64 0, .int .i64 0, .int .i64 0]) := by kernel_rfl
theorem sc_189 : scB Tryz.prog 189 = true := by kernel_rfl
theorem um_189 : Tryz.prog.underlying 189 = some (.map 3 4) := by kernel_rfl
theorem ze_4 : bu Tryz.prog 4 = some (.bool false) := by kernel_rfl
theorem go_101 : bI Tryz.prog 101 = true := by kernel_rfl
theorem rb : scB Tryz.prog 152 = true := by kernel_rfl
theorem pM : Tryz.prog.underlying 152 = some (.map 3 3) := by kernel_rfl
theorem sc_127 : scB Tryz.prog 127 = true := by kernel_rfl
theorem go_156 : bI Tryz.prog 156 = true := by kernel_rfl
theorem sz_127 : szB Tryz.prog 127 1 = true := by kernel_rfl
theorem ze_127 : bu Tryz.prog 127 = some (.nilFunc) := by kernel_rfl
theorem sz_189 : szB Tryz.prog 189 1 = true := by kernel_rfl
theorem ze_189 : bu Tryz.prog 189 = some (.map none) := by kernel_rfl
theorem go_190 : bI Tryz.prog 190 = true := by kernel_rfl
theorem go_175 : bI Tryz.prog 175 = true := by kernel_rfl
theorem go_145 : bI Tryz.prog 145 = true := by kernel_rfl
theorem go_144 : bI Tryz.prog 144 = true := by kernel_rfl
theorem go_117 : bI Tryz.prog 117 = true := by kernel_rfl
theorem go_143 : bI Tryz.prog 143 = true := by kernel_rfl
theorem go_130 : bI Tryz.prog 130 = true := by kernel_rfl
theorem go_100 : bI Tryz.prog 100 = true := by kernel_rfl
theorem by_65 : eX Tryz.prog 65 (.agg #[.int .i64 0, .int .i64 0, .int .i64 0, .int .i64 0, .int .i64 0]) 5 40 = true := by kernel_rfl
theorem go_115 : bI Tryz.prog 115 = true := by kernel_rfl
theorem qX : p8 Tryz.prog 53 [(0, 1), (1, 1)] = true := by kernel_rfl
theorem o8 : bu Tryz.prog 53 = some (.agg #[.slice none 0 0, .slice none 0 0]) := by kernel_rfl
theorem sz_53 : szB Tryz.prog 53 2 = true := by kernel_rfl
theorem sa : bI Tryz.prog 83 = true := by kernel_rfl
theorem go_131 : bI Tryz.prog 131 = true := by kernel_rfl
theorem go_85 : bI Tryz.prog 85 = true := by kernel_rfl
theorem go_88 : bI Tryz.prog 88 = true := by kernel_rfl
theorem sB : bI Tryz.prog 45 = true := by kernel_rfl
theorem go_84 : bI Tryz.prog 84 = true := by kernel_rfl
theorem go_137 : bI Tryz.prog 137 = true := by kernel_rfl
theorem go_138 : bI Tryz.prog 138 = true := by kernel_rfl
theorem go_136 : bI Tryz.prog 136 = true := by kernel_rfl
theorem sz_152 : szB Tryz.prog 152 1 = true := by kernel_rfl
theorem ze_152 : bu Tryz.prog 152 = some (.map none) := by kernel_rfl
theorem go_91 : bI Tryz.prog 91 = true := by kernel_rfl
theorem go_94 : bI Tryz.prog 94 = true := by kernel_rfl
theorem go_93 : bI Tryz.prog 93 = true := by kernel_rfl
theorem go_92 : bI Tryz.prog 92 = true := by kernel_rfl
theorem qg : eX Tryz.prog 69 (.agg #[.int .i64 0, .int .i64 0, .int .i64 0]) 3 24 = true := by kernel_rfl
theorem go_142 : bI Tryz.prog 142 = true := by kernel_rfl
theorem go_141 : bI Tryz.prog 141 = true := by kernel_rfl
theorem go_97 : bI Tryz.prog 97 = true := by kernel_rfl
theorem ust_71 : p8 Tryz.prog 71 [(0, 1), (1, 1), (2, 1)] = true := by kernel_rfl
theorem se : bu Tryz.prog 71 = some (.agg #[.slice none 0 0, .int .i64 0, .slice none 0 0]) := by kernel_rfl
theorem sz_71 : szB Tryz.prog 71 3 = true := by kernel_rfl
theorem sD : a4 Tryz.prog 71 0 = some 0 := by kernel_rfl
theorem nA : scB Tryz.prog 42 = true := by kernel_rfl
theorem qm : a4 Tryz.prog 71 2 = some 2 := by kernel_rfl
theorem pr : a4 Tryz.prog 71 1 = some 1 := by kernel_rfl
theorem sz_42 : szB Tryz.prog 42 1 = true := by kernel_rfl
theorem sR : mf Tryz.prog 71 3 = true := by kernel_rfl
theorem go_99 : bI Tryz.prog 99 = true := by kernel_rfl
theorem me : bI Tryz.prog 109 = true := by kernel_rfl
theorem go_77 : bI Tryz.prog 77 = true := by kernel_rfl
theorem go_98 : bI Tryz.prog 98 = true := by kernel_rfl
theorem rM : bI Tryz.prog 104 = true := by kernel_rfl
theorem th : bI Tryz.prog 46 = true := by kernel_rfl
theorem go_105 : bI Tryz.prog 105 = true := by kernel_rfl
theorem go_106 : bI Tryz.prog 106 = true := by kernel_rfl
theorem ust_87 : p8 Tryz.prog 87 [(0, 1)] = true := by kernel_rfl
theorem ze_87 : bu Tryz.prog 87 = some (.agg #[.slice none 0 0]) := by kernel_rfl
theorem ag_87 : mf Tryz.prog 87 1 = true := by kernel_rfl
theorem sz_87 : szB Tryz.prog 87 1 = true := by kernel_rfl
theorem kQ : a4 Tryz.prog 87 0 = some 0 := by kernel_rfl
theorem rR : scB Tryz.prog 85 = true := by kernel_rfl
theorem mc_42_1 : madeCells (.slice none 0 0 : Value).cells (1 * 1) = #[.slice none 0 0] := by kernel_rfl
theorem us_85 : Tryz.prog.underlying 85 = some (.slice 42) := by kernel_rfl
theorem ze_42 : bu Tryz.prog 42 = some (.slice none 0 0) := by kernel_rfl
theorem by_42 : eX Tryz.prog 42 (.slice none 0 0) 1 24 = true := by kernel_rfl
theorem sz_85 : szB Tryz.prog 85 1 = true := by kernel_rfl
theorem pu : p8 Tryz.prog 120 [(0, 1), (1, 1), (2, 1), (3, 1), (4, 1), (5, 1)] = true := by kernel_rfl
theorem rq : p8 Tryz.prog 63 [(0, 1), (1, 1)] = true := by kernel_rfl
theorem mc_120_4 : madeCells (.agg #[.int .i64 0, .int .i64 0, .int .i64 0, .int .i64 0, .int .i64 0, .slice none 0 0] : Value).cells (4 * 6) = #[.int .i64 0, .int .i64 0, .int .i64 0, .int .i64 0, .int .i64 0, .slice none 0 0, .int .i64 0, .int .i64 0, .int .i64 0, .int .i64 0, .int .i64 0, .slice none 0 0, .int .i64 0, .int .i64 0, .int .i64 0, .int .i64 0, .int .i64 0, .slice none 0 0, .int .i64 0, .int .i64 0, .int .i64 0, .int .i64 0, .int .i64 0, .slice none 0 0] := by kernel_rfl
theorem mc_63_1 : madeCells (.agg #[.int .i64 0, .int .i64 0] : Value).cells (1 * 2) = #[.int .i64 0, .int .i64 0] := by kernel_rfl
theorem by_63 : eX Tryz.prog 63 (.agg #[.int .i64 0, .int .i64 0]) 2 16 = true := by kernel_rfl
theorem ust_69 : p8 Tryz.prog 69 [(0, 1), (1, 1), (2, 1)] = true := by kernel_rfl
theorem ust_65 : p8 Tryz.prog 65 [(0, 1), (1, 2), (3, 1), (4, 1)] = true := by kernel_rfl
theorem mc_65_3 : madeCells (.agg #[.int .i64 0, .int .i64 0, .int .i64 0, .int .i64 0, .int .i64 0] : Value).cells (3 * 5) = #[.int .i64 0, .int .i64 0, .int .i64 0, .int .i64 0, .int .i64 0, .int .i64 0, .int .i64 0, .int .i64 0, .int .i64 0, .int .i64 0, .int .i64 0, .int .i64 0, .int .i64 0, .int .i64 0, .int .i64 0] := by kernel_rfl
theorem mc_69_2 : madeCells (.agg #[.int .i64 0, .int .i64 0, .int .i64 0] : Value).cells (2 * 3) = #[.int .i64 0, .int .i64 0, .int .i64 0, .int .i64 0, .int .i64 0, .int .i64 0] := by kernel_rfl
theorem go_69 : bI Tryz.prog 69 = true := by kernel_rfl
theorem go_19 : bI Tryz.prog 19 = true := by kernel_rfl
theorem sl_85 : nY Tryz.prog 85 = some (42, 1) := by kernel_rfl
theorem pF : bI Tryz.prog 25 = true := by kernel_rfl
theorem sK : madeCells (.int .i64 0 : Value).cells (2 * 1) = #[.int .i64 0, .int .i64 0] := by kernel_rfl
theorem go_33 : bI Tryz.prog 33 = true := by kernel_rfl
theorem go_44 : bI Tryz.prog 44 = true := by kernel_rfl
theorem go_31 : bI Tryz.prog 31 = true := by kernel_rfl
theorem mc_3_3 : madeCells (.int .i64 0 : Value).cells (3 * 1) = #[.int .i64 0, .int .i64 0, .int .i64 0] := by kernel_rfl
theorem go_29 : bI Tryz.prog 29 = true := by kernel_rfl
theorem go_27 : bI Tryz.prog 27 = true := by kernel_rfl
theorem go_37 : bI Tryz.prog 37 = true := by kernel_rfl
theorem go_23 : bI Tryz.prog 23 = true := by kernel_rfl
theorem go_61 : bI Tryz.prog 61 = true := by kernel_rfl
theorem go_49 : bI Tryz.prog 49 = true := by kernel_rfl
theorem go_68 : bI Tryz.prog 68 = true := by kernel_rfl
theorem go_67 : bI Tryz.prog 67 = true := by kernel_rfl
theorem go_17 : bI Tryz.prog 17 = true := by kernel_rfl
theorem mq : p8 Tryz.prog 46 [(0, 1), (1, 1)] = true := by kernel_rfl
theorem kV : bu Tryz.prog 46 = some (.agg #[.slice none 0 0, .int .i64 0]) := by kernel_rfl
theorem pR : mf Tryz.prog 46 2 = true := by kernel_rfl
theorem m3 : szB Tryz.prog 46 2 = true := by kernel_rfl
theorem sl_179 : nY Tryz.prog 179 = some (4, 1) := by kernel_rfl
theorem go_133 : bI Tryz.prog 133 = true := by kernel_rfl
theorem sz_4 : szB Tryz.prog 4 1 = true := by kernel_rfl
theorem us_179 : Tryz.prog.underlying 179 = some (.slice 4) := by kernel_rfl
theorem by_4 : eX Tryz.prog 4 (.bool false) 1 1 = true := by kernel_rfl
theorem go_132 : bI Tryz.prog 132 = true := by kernel_rfl
theorem r9 : bI Tryz.prog 89 = true := by kernel_rfl
theorem r3 : bI Tryz.prog 86 = true := by kernel_rfl
theorem go_82 : bI Tryz.prog 82 = true := by kernel_rfl
theorem rY : bI Tryz.prog 87 = true := by kernel_rfl
theorem go_103 : bI Tryz.prog 103 = true := by kernel_rfl
theorem go_95 : bI Tryz.prog 95 = true := by kernel_rfl
theorem go_26 : bI Tryz.prog 26 = true := by kernel_rfl
theorem go_34 : bI Tryz.prog 34 = true := by kernel_rfl
theorem qG : a4 Tryz.prog 46 0 = some 0 := by kernel_rfl
theorem qo : a4 Tryz.prog 46 1 = some 1 := by kernel_rfl
theorem sc_30 : scB Tryz.prog 30 = true := by kernel_rfl
theorem go_32 : bI Tryz.prog 32 = true := by kernel_rfl
theorem go_30 : bI Tryz.prog 30 = true := by kernel_rfl
theorem go_28 : bI Tryz.prog 28 = true := by kernel_rfl
theorem kf_191 : fldsB Tryz.prog 191 [(0, 1, 3), (1, 1, 3)] = true := by kernel_rfl
theorem kl_191 : laidOutB Tryz.prog = true := by kernel_rfl
theorem kw_191 : (match Tryz.prog.underlying 191 with | some (.array _ _) | some (.struct _) => true | _ => false) = true := by kernel_rfl
theorem mw : KeyE Tryz.prog 191 cE bw where
  keyed := .of_law (deep_law_laid kl_191 (m := 6) (by omega) (of_decide_eq_true (by kernel_rfl)) (by kernel_rfl) kw_191)
  tot := fun x h => by
    unfold bw at h
    simp only [Bool.and_eq_true] at h
    obtain ⟨h0, h1⟩ := h
    exact keyS_2 (of_decide_eq_true (by kernel_rfl)) kf_191 ui_3 ui_3 (qH h0) (qH h1)
  inj := fun x y h => by
    cases x; cases y
    simp only [cE] at h
    simp_all
theorem ke_3 : KeyE Tryz.prog 3 kI eK := keyE_int ui_3
end Go.Proofs.YthndghnkebboaaaGreat
