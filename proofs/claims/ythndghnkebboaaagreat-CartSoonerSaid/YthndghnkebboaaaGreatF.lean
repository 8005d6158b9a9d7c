import Derived.Test.YthndghnkebboaaaGreatGD
import Derived.Test.YthndghnkebboaaaGreatGz
import Derived.Test.YthndghnkebboaaaGreatP
import Derived.Test.YthndghnkebboaaaGreatProg
set_option maxRecDepth 20000
set_option linter.unusedVariables false
namespace Go.Proofs.YthndghnkebboaaaGreat
def TSpan_cells (x : TSpan) : List Value := [.int .i64 x.fLo, .int .i64 x.fHi]
theorem dT (x : TSpan) : (TSpan_cells x).length = 2 := rfl
def aq (x : Twait) : List Value := [.int .i64 x.f_at, .int .i64 x.f_stop.f_place, .int .i64 x.f_stop.f_toll]
theorem aL (x : Twait) : (aq x).length = 3 := rfl
theorem mS (x : Twait) : ((aq x).all (·.oneCell')) = true := rfl
def TLeg_cells (x : TLeg) : List Value := [.int .i64 x.fTrack, .int .i64 x.fHour]
theorem bq (x : TLeg) : (TLeg_cells x).length = 2 := rfl
theorem nE (x : TLeg) : ((TLeg_cells x).all (·.oneCell')) = true := rfl
def ay (x : TO) : List Value := [.int .i64 x.fID, .int .i64 x.fH.fLo, .int .i64 x.fH.fHi, .int .i64 x.fD, .int .i64 x.fW]
theorem am (x : TO) : (ay x).length = 5 := rfl
theorem mw (x : TO) : ((ay x).all (·.oneCell')) = true := rfl
def aA (x : TBay) : List Value := [.int .i64 x.fID, .int .i64 x.fHour, .int .i64 x.fD]
theorem aH (x : TBay) : (aA x).length = 3 := rfl
theorem kq (x : TBay) : ((aA x).all (·.oneCell')) = true := rfl
def TTrack_cells2 (p : Hd × TT) : List Value := [.int .i64 p.2.fID, .int .i64 p.2.fFrom, .int .i64 p.2.fTo, .int .i64 p.2.fLong, .int .i64 p.2.fToll, .slice p.1.1 p.1.2.1 p.1.2.2]
theorem au (p : Hd × TT) : (TTrack_cells2 p).length = 6 := rfl
theorem iD (p : Hd × TT) : ((TTrack_cells2 p).all (·.oneCell')) = true := rfl
theorem cN {p : Hd × TT} {z : TT} {k : Nat} (hs : p.2 = z) (hl : p.1.2.1 = k) : TTrack_cells2 p = [.int .i64 z.fID, .int .i64 z.fFrom, .int .i64 z.fTo, .int .i64 z.fLong, .int .i64 z.fToll, .slice p.1.1 k p.1.2.2] := by subst hs hl; rfl
def bT (p : Hd × TJ) : List Value := [.slice p.1.1 p.1.2.1 p.1.2.2, .int .i64 p.2.fA, .int .i64 p.2.fToll]
theorem ba (p : Hd × TJ) : (bT p).length = 3 := rfl
theorem kL (p : Hd × TJ) : ((bT p).all (·.oneCell')) = true := rfl
theorem ld {p : Hd × TJ} {z : TJ} {k : Nat} (hs : p.2 = z) (hl : p.1.2.1 = k) : bT p = [.slice p.1.1 k p.1.2.2, .int .i64 z.fA, .int .i64 z.fToll] := by subst hs hl; rfl
def SlInt_cells2 (p : Hd × (List Int)) : List Value := [.slice p.1.1 p.1.2.1 p.1.2.2]
theorem az (p : Hd × (List Int)) : (SlInt_cells2 p).length = 1 := rfl
theorem mq (p : Hd × (List Int)) : ((SlInt_cells2 p).all (·.oneCell')) = true := rfl
def bX (x : Ts) : Value := .agg #[.int .i64 x.f_place, .int .i64 x.f_toll]
def bN (x : Tl) : Value := .agg #[.int .i64 x.f_at, .int .i64 x.f_from.f_place, .int .i64 x.f_from.f_toll, .int .i64 x.f_leg.fTrack, .int .i64 x.f_leg.fHour, .bool x.f_begin]
theorem dL : aV Tryz.prog 24 1 = some 1 := by kernel_rfl
theorem jx : scB Tryz.prog 22 = true := by kernel_rfl
theorem iW : Tryz.prog.underlying 22 = some (.slice 120) := by kernel_rfl
theorem kn : ou Tryz.prog 22 = some (120, 6) := by kernel_rfl
theorem mF : aV Tryz.prog 120 5 = some 5 := by kernel_rfl
theorem qU : scB Tryz.prog 118 = true := by kernel_rfl
theorem pz : Tryz.prog.underlying 118 = some (.slice 63) := by kernel_rfl
theorem iY : aV Tryz.prog 24 0 = some 0 := by kernel_rfl
theorem a8 : scB Tryz.prog 3 = true := by kernel_rfl
theorem gj : bp Tryz.prog 107 = true := by kernel_rfl
theorem sl_118 : ou Tryz.prog 118 = some (63, 2) := by kernel_rfl
theorem ag_63 : mn Tryz.prog 63 2 = true := by kernel_rfl
theorem jh : aV Tryz.prog 63 0 = some 0 := by kernel_rfl
theorem gM : aV Tryz.prog 63 1 = some 1 := by kernel_rfl
theorem sz_63 : szB Tryz.prog 63 2 = true := by kernel_rfl
theorem pY : bi Tryz.prog 63 = some (.agg #[.int .i64 0, .int .i64 0]) := by kernel_rfl
theorem jI : mn Tryz.prog 120 6 = true := by kernel_rfl
theorem go_192 : bp Tryz.prog 192 = true := by kernel_rfl
theorem kZ : aV Tryz.prog 120 0 = some 0 := by kernel_rfl
theorem go_182 : bp Tryz.prog 182 = true := by kernel_rfl
theorem go_181 : bp Tryz.prog 181 = true := by kernel_rfl
theorem kR : aV Tryz.prog 120 1 = some 1 := by kernel_rfl
theorem go_159 : bp Tryz.prog 159 = true := by kernel_rfl
theorem lq : aV Tryz.prog 120 2 = some 2 := by kernel_rfl
theorem ik : aV Tryz.prog 120 3 = some 3 := by kernel_rfl
theorem lE : aV Tryz.prog 120 4 = some 4 := by kernel_rfl
theorem go_122 : bp Tryz.prog 122 = true := by kernel_rfl
theorem ei : mn Tryz.prog 24 2 = true := by kernel_rfl
theorem go_155 : bp Tryz.prog 155 = true := by kernel_rfl
theorem pm : szB Tryz.prog 120 6 = true := by kernel_rfl
theorem ia : bi Tryz.prog 120 = some (.agg #[.int .i64 0, .int .i64 0, .int .i64 0, .int .i64 0, .int .i64 0, .slice none 0 0]) := by kernel_rfl
theorem go_124 : bp Tryz.prog 124 = true := by kernel_rfl
theorem kw : bp Tryz.prog 108 = true := by kernel_rfl
theorem n3 : Tryz.prog.underlying 198 = some (.slice 196) := by kernel_rfl
theorem mj : ou Tryz.prog 198 = some (196, 3) := by kernel_rfl
theorem mL : aV Tryz.prog 196 0 = some 0 := by kernel_rfl
theorem dE : Tryz.prog.follows .mixedOrders = true := by kernel_rfl
theorem qn : mn Tryz.prog 196 3 = true := by kernel_rfl
theorem qQ : szB Tryz.prog 196 3 = true := by kernel_rfl
theorem iU : kM Tryz.prog 194 "Less" = some (212, false) := by kernel_rfl
theorem jo : Tryz.prog.underlying 194 = some (.pointer 198) := by kernel_rfl
theorem iH : scB Tryz.prog 198 = true := by kernel_rfl
theorem rc : bp Tryz.prog 212 = true := by kernel_rfl
theorem jb : kM Tryz.prog 194 "Swap" = some (215, false) := by kernel_rfl
theorem mg : bp Tryz.prog 215 = true := by kernel_rfl
theorem pa : rh Tryz.prog 196 = true := by kernel_rfl
theorem sz_198 : szB Tryz.prog 198 1 = true := by kernel_rfl
theorem nA : bi Tryz.prog 196 = some (.agg #[.int .i64 0, .int .i64 0, .int .i64 0]) := by kernel_rfl
theorem nP : kM Tryz.prog 194 "Len" = some (147, false) := by kernel_rfl
theorem rZ : bp Tryz.prog 147 = true := by kernel_rfl
theorem ru : kM Tryz.prog 194 "Pop" = some (213, true) := by kernel_rfl
theorem go_213 : bp Tryz.prog 213 = true := by kernel_rfl
theorem go_177 : bp Tryz.prog 177 = true := by kernel_rfl
theorem qr : madeCells (.agg #[.int .i64 0, .int .i64 0, .int .i64 0] : Value).cells (1 * 3) = #[.int .i64 0, .int .i64 0, .int .i64 0] := by kernel_rfl
theorem th : eF Tryz.prog 196 (.agg #[.int .i64 0, .int .i64 0, .int .i64 0]) 3 24 = true := by kernel_rfl
theorem pQ : kM Tryz.prog 194 "Push" = some (214, true) := by kernel_rfl
theorem go_214 : bp Tryz.prog 214 = true := by kernel_rfl
theorem go_179 : bp Tryz.prog 179 = true := by kernel_rfl
theorem mY : pL Tryz.prog 191 [(0, 1), (1, 1)] = true := by kernel_rfl
theorem nQ : bi Tryz.prog 191 = some (.agg #[.int .i64 0, .int .i64 0]) := by kernel_rfl
theorem rS : pL Tryz.prog 193 [(0, 1), (1, 2), (3, 2), (5, 1)] = true := by kernel_rfl
theorem jq : bi Tryz.prog 193 = some (.agg #[.int .i64 0, .int .i64 0, .int .i64 0, .int .i64 0, .int .i64 0, .bool false]) := by kernel_rfl
theorem rT : pL Tryz.prog 196 [(0, 1), (1, 2)] = true := by kernel_rfl
theorem sW : scB Tryz.prog 194 = true := by kernel_rfl
theorem sg : rh Tryz.prog 194 = true := by kernel_rfl
theorem qX : scB Tryz.prog 157 = true := by kernel_rfl
theorem mH : aV Tryz.prog 196 1 = some 1 := by kernel_rfl
theorem l9 : mn Tryz.prog 191 2 = true := by kernel_rfl
theorem ml : Tryz.prog.underlying 157 = some (.map 191 193) := by kernel_rfl
theorem qL : fldT Tryz.prog 193 0 = some (3, 0) := by kernel_rfl
theorem fo_191_0 : aV Tryz.prog 191 0 = some 0 := by kernel_rfl
theorem qN : bp Tryz.prog 123 = true := by kernel_rfl
theorem ow : aV Tryz.prog 191 1 = some 1 := by kernel_rfl
theorem oI : aV Tryz.prog 193 0 = some 0 := by kernel_rfl
theorem ust_132 : pL Tryz.prog 132 [(0, 1), (1, 1)] = true := by kernel_rfl
theorem qO : bi Tryz.prog 132 = some (.agg #[.int .i64 0, .int .i64 0]) := by kernel_rfl
theorem go_150 : bp Tryz.prog 150 = true := by kernel_rfl
theorem pg : szB Tryz.prog 193 6 = true := by kernel_rfl
theorem sz_191 : szB Tryz.prog 191 2 = true := by kernel_rfl
theorem go_178 : bp Tryz.prog 178 = true := by kernel_rfl
theorem go_149 : bp Tryz.prog 149 = true := by kernel_rfl
theorem go_148 : bp Tryz.prog 148 = true := by kernel_rfl
theorem sz_194 : szB Tryz.prog 194 1 = true := by kernel_rfl
theorem ze_194 : bi Tryz.prog 194 = some (.pointer none) := by kernel_rfl
theorem sz_157 : szB Tryz.prog 157 1 = true := by kernel_rfl
theorem ze_157 : bi Tryz.prog 157 = some (.map none) := by kernel_rfl
theorem ar_160 : arrOf Tryz.prog 160 = some (61, 1) := by kernel_rfl
theorem p7 : szB Tryz.prog 3 1 = true := by kernel_rfl
theorem pJ : mn Tryz.prog 160 61 = true := by kernel_rfl
theorem pN : szB Tryz.prog 160 61 = true := by kernel_rfl
theorem qz : bi Tryz.prog 160 = some (.agg (encL cI (List.replicate 61 0)).toArray) := by kernel_rfl
theorem sO : Tryz.prog.underlying 27 = some (.slice 132) := by kernel_rfl
theorem tf : ou Tryz.prog 27 = some (132, 2) := by kernel_rfl
theorem qv : mn Tryz.prog 132 2 = true := by kernel_rfl
theorem sw : szB Tryz.prog 132 2 = true := by kernel_rfl
theorem tw : pL Tryz.prog 29 [(0, 1), (1, 1), (2, 1)] = true := by kernel_rfl
theorem jT : bi Tryz.prog 29 = some (.agg #[.slice none 0 0, .int .i64 0, .int .i64 0]) := by kernel_rfl
theorem fo_193_3 : aV Tryz.prog 193 3 = some 5 := by kernel_rfl
theorem sc_4 : scB Tryz.prog 4 = true := by kernel_rfl
theorem ng : aV Tryz.prog 29 0 = some 0 := by kernel_rfl
theorem sc_27 : scB Tryz.prog 27 = true := by kernel_rfl
theorem fo_193_2 : aV Tryz.prog 193 2 = some 3 := by kernel_rfl
theorem ag_193 : mn Tryz.prog 193 6 = true := by kernel_rfl
theorem fo_193_1 : aV Tryz.prog 193 1 = some 1 := by kernel_rfl
theorem sz_27 : szB Tryz.prog 27 1 = true := by kernel_rfl
theorem by_132 : eF Tryz.prog 132 (.agg #[.int .i64 0, .int .i64 0]) 2 16 = true := by kernel_rfl
theorem mc_132_1 : madeCells (.agg #[.int .i64 0, .int .i64 0] : Value).cells (1 * 2) = #[.int .i64 0, .int .i64 0] := by kernel_rfl
theorem kk : mn Tryz.prog 29 3 = true := by kernel_rfl
theorem lw : szB Tryz.prog 29 3 = true := by kernel_rfl
theorem go_183 : bp Tryz.prog 183 = true := by kernel_rfl
theorem ua_160 : Tryz.prog.underlying 160 = some (.array 61 3) := by kernel_rfl
theorem qC : Tryz.prog.underlying 106 = some (.slice 29) := by kernel_rfl
theorem by_29 : eF Tryz.prog 29 (.agg #[.slice none 0 0, .int .i64 0, .int .i64 0]) 3 40 = true := by kernel_rfl
theorem mc_29_1 : madeCells (.agg #[.slice none 0 0, .int .i64 0, .int .i64 0] : Value).cells (1 * 3) = #[.slice none 0 0, .int .i64 0, .int .i64 0] := by kernel_rfl
theorem go_157 : bp Tryz.prog 157 = true := by kernel_rfl
theorem go_111 : bp Tryz.prog 111 = true := by kernel_rfl
theorem go_110 : bp Tryz.prog 110 = true := by kernel_rfl
theorem qp : ou Tryz.prog 106 = some (29, 3) := by kernel_rfl
theorem lO : aV Tryz.prog 29 2 = some 2 := by kernel_rfl
theorem go_119 : bp Tryz.prog 119 = true := by kernel_rfl
theorem rE : bp Tryz.prog 70 = true := by kernel_rfl
theorem go_71 : bp Tryz.prog 71 = true := by kernel_rfl
theorem j6 : aV Tryz.prog 29 1 = some 1 := by kernel_rfl
theorem go_72 : bp Tryz.prog 72 = true := by kernel_rfl
theorem qs : eF Tryz.prog 120 (.agg #[.int .i64 0, .int .i64 0, .int .i64 0, .int .i64 0, .int .i64 0, .slice none 0 0]) 6 64 = true := by kernel_rfl
theorem qM : bp Tryz.prog 176 = true := by kernel_rfl
theorem dz : ou Tryz.prog 42 = some (3, 1) := by kernel_rfl
theorem go_168 : bp Tryz.prog 168 = true := by kernel_rfl
theorem us_s9 : Tryz.prog.underlying 9 = some .string := by kernel_rfl
theorem ui_220 : Tryz.prog.underlying 220 = some (.int .u64) := by kernel_rfl
theorem ui_5 : Tryz.prog.underlying 5 = some (.int .u8) := by kernel_rfl
theorem ui_3 : Tryz.prog.underlying 3 = some (.int .i64) := by kernel_rfl
theorem go_172 : bp Tryz.prog 172 = true := by kernel_rfl
theorem ui_176 : Tryz.prog.underlying 176 = some (.int .u64) := by kernel_rfl
theorem go_129 : bp Tryz.prog 129 = true := by kernel_rfl
theorem go_162 : bp Tryz.prog 162 = true := by kernel_rfl
theorem cU : Tryz.prog.underlying 42 = some (.slice 3) := by kernel_rfl
theorem go_128 : bp Tryz.prog 128 = true := by kernel_rfl
theorem go_80 : bp Tryz.prog 80 = true := by kernel_rfl
theorem go_79 : bp Tryz.prog 79 = true := by kernel_rfl
theorem ust_24 : pL Tryz.prog 24 [(0, 1), (1, 1)] = true := by kernel_rfl
theorem sa : bi Tryz.prog 24 = some (.agg #[.int .i64 0, .slice none 0 0]) := by kernel_rfl
theorem sz_24 : szB Tryz.prog 24 2 = true := by kernel_rfl
theorem mh : bi Tryz.prog 3 = some (.int .i64 0) := by kernel_rfl
theorem oW : eF Tryz.prog 3 (.int .i64 0) 1 8 = true := by kernel_rfl
theorem na : madeCells (.int .i64 0 : Value).cells (1 * 1) = #[.int .i64 0] := by kernel_rfl
theorem go_81 : bp Tryz.prog 81 = true := by kernel_rfl
theorem go_18 : bp Tryz.prog 18 = true := by kernel_rfl
theorem kG : Tryz.prog.underlying 51 = some (.slice 65) := by kernel_rfl
theorem jE : ou Tryz.prog 51 = some (65, 5) := by kernel_rfl
theorem pr : mn Tryz.prog 65 5 = true := by kernel_rfl
theorem go_173 : bp Tryz.prog 173 = true := by kernel_rfl
theorem jF : aV Tryz.prog 65 0 = some 0 := by kernel_rfl
theorem bV : aV Tryz.prog 53 1 = some 1 := by kernel_rfl
theorem f9 : scB Tryz.prog 51 = true := by kernel_rfl
theorem go_135 : bp Tryz.prog 135 = true := by kernel_rfl
theorem go_134 : bp Tryz.prog 134 = true := by kernel_rfl
theorem jv : Tryz.prog.underlying 50 = some (.slice 69) := by kernel_rfl
theorem lJ : ou Tryz.prog 50 = some (69, 3) := by kernel_rfl
theorem tv : mn Tryz.prog 69 3 = true := by kernel_rfl
theorem go_174 : bp Tryz.prog 174 = true := by kernel_rfl
theorem jR : aV Tryz.prog 69 0 = some 0 := by kernel_rfl
theorem dU : aV Tryz.prog 53 0 = some 0 := by kernel_rfl
theorem jD : scB Tryz.prog 50 = true := by kernel_rfl
theorem go_140 : bp Tryz.prog 140 = true := by kernel_rfl
theorem go_139 : bp Tryz.prog 139 = true := by kernel_rfl
theorem o4 : aV Tryz.prog 69 1 = some 1 := by kernel_rfl
theorem oZ : aV Tryz.prog 69 2 = some 2 := by kernel_rfl
theorem dc : mn Tryz.prog 53 2 = true := by kernel_rfl
theorem go_96 : bp Tryz.prog 96 = true := by kernel_rfl
theorem sz_69 : szB Tryz.prog 69 3 = true := by kernel_rfl
theorem nH : bi Tryz.prog 69 = some (.agg #[.int .i64 0, .int .i64 0, .int .i64 0]) := by kernel_rfl
theorem gp : aV Tryz.prog 65 1 = some 1 := by kernel_rfl
theorem oL : aV Tryz.prog 65 2 = some 3 := by kernel_rfl
theorem iv : aV Tryz.prog 65 3 = some 4 := by kernel_rfl
theorem go_90 : bp Tryz.prog 90 = true := by kernel_rfl
theorem sz_65 : szB Tryz.prog 65 5 = true := by kernel_rfl
theorem nK : bi Tryz.prog 65 = some (.agg #[.int .i64 0, .int .i64 0, .int .i64 0, .int .i64 0, .int .i64 0]) := by kernel_rfl
theorem sc_189 : scB Tryz.prog 189 = true := by kernel_rfl
theorem um_189 : Tryz.prog.underlying 189 = some (.map 3 4) := by kernel_rfl
theorem ze_4 : bi Tryz.prog 4 = some (.bool false) := by kernel_rfl
theorem go_101 : bp Tryz.prog 101 = true := by kernel_rfl
theorem qF : scB Tryz.prog 152 = true := by kernel_rfl
theorem pk : Tryz.prog.underlying 152 = some (.map 3 3) := by kernel_rfl
theorem sc_127 : scB Tryz.prog 127 = true := by kernel_rfl
theorem go_156 : bp Tryz.prog 156 = true := by kernel_rfl
theorem sz_127 : szB Tryz.prog 127 1 = true := by kernel_rfl
theorem ze_127 : bi Tryz.prog 127 = some (.nilFunc) := by kernel_rfl
theorem sz_189 : szB Tryz.prog 189 1 = true := by kernel_rfl
theorem ze_189 : bi Tryz.prog 189 = some (.map none) := by kernel_rfl
theorem go_190 : bp Tryz.prog 190 = true := by kernel_rfl
theorem go_175 : bp Tryz.prog 175 = true := by kernel_rfl
theorem go_145 : bp Tryz.prog 145 = true := by kernel_rfl
theorem go_144 : bp Tryz.prog 144 = true := by kernel_rfl
theorem go_117 : bp Tryz.prog 117 = true := by kernel_rfl
theorem go_143 : bp Tryz.prog 143 = true := by kernel_rfl
theorem go_130 : bp Tryz.prog 130 = true := by kernel_rfl
theorem go_100 : bp Tryz.prog 100 = true := by kernel_rfl
theorem by_65 : eF Tryz.prog 65 (.agg #[.int .i64 0, .int .i64 0, .int .i64 0, .int .i64 0, .int .i64 0]) 5 40 = true := by kernel_rfl
theorem go_115 : bp Tryz.prog 115 = true := by kernel_rfl
theorem tx : pL Tryz.prog 53 [(0, 1), (1, 1)] = true := by kernel_rfl
theorem pZ : bi Tryz.prog 53 = some (.agg #[.slice none 0 0, .slice none 0 0]) := by kernel_rfl
theorem sz_53 : szB Tryz.prog 53 2 = true := by kernel_rfl
theorem rz : bp Tryz.prog 83 = true := by kernel_rfl
theorem go_131 : bp Tryz.prog 131 = true := by kernel_rfl
theorem go_85 : bp Tryz.prog 85 = true := by kernel_rfl
theorem go_88 : bp Tryz.prog 88 = true := by kernel_rfl
theorem sV : bp Tryz.prog 45 = true := by kernel_rfl
theorem go_84 : bp Tryz.prog 84 = true := by kernel_rfl
theorem go_137 : bp Tryz.prog 137 = true := by kernel_rfl
theorem te : bp Tryz.prog 138 = true := by kernel_rfl
theorem go_136 : bp Tryz.prog 136 = true := by kernel_rfl
theorem sz_152 : szB Tryz.prog 152 1 = true := by kernel_rfl
theorem ze_152 : bi Tryz.prog 152 = some (.map none) := by kernel_rfl
theorem go_91 : bp Tryz.prog 91 = true := by kernel_rfl
theorem go_94 : bp Tryz.prog 94 = true := by kernel_rfl
theorem go_93 : bp Tryz.prog 93 = true := by kernel_rfl
theorem go_92 : bp Tryz.prog 92 = true := by kernel_rfl
theorem by_69 : eF Tryz.prog 69 (.agg #[.int .i64 0, .int .i64 0, .int .i64 0]) 3 24 = true := by kernel_rfl
theorem go_142 : bp Tryz.prog 142 = true := by kernel_rfl
theorem go_141 : bp Tryz.prog 141 = true := by kernel_rfl
theorem go_97 : bp Tryz.prog 97 = true := by kernel_rfl
theorem ust_71 : pL Tryz.prog 71 [(0, 1), (1, 1), (2, 1)] = true := by kernel_rfl
theorem rt : bi Tryz.prog 71 = some (.agg #[.slice none 0 0, .int .i64 0, .slice none 0 0]) := by kernel_rfl
theorem rU : szB Tryz.prog 71 3 = true := by kernel_rfl
theorem tt : aV Tryz.prog 71 0 = some 0 := by kernel_rfl
theorem kz : scB Tryz.prog 42 = true := by kernel_rfl
theorem p8 : aV Tryz.prog 71 2 = some 2 := by kernel_rfl
theorem oS : aV Tryz.prog 71 1 = some 1 := by kernel_rfl
theorem sz_42 : szB Tryz.prog 42 1 = true := by kernel_rfl
theorem tc : mn Tryz.prog 71 3 = true := by kernel_rfl
theorem go_99 : bp Tryz.prog 99 = true := by kernel_rfl
theorem mf : bp Tryz.prog 109 = true := by kernel_rfl
theorem go_77 : bp Tryz.prog 77 = true := by kernel_rfl
theorem go_98 : bp Tryz.prog 98 = true := by kernel_rfl
theorem sh : bp Tryz.prog 104 = true := by kernel_rfl
theorem go_46 : bp Tryz.prog 46 = true := by kernel_rfl
theorem go_105 : bp Tryz.prog 105 = true := by kernel_rfl
theorem go_106 : bp Tryz.prog 106 = true := by kernel_rfl
theorem ust_87 : pL Tryz.prog 87 [(0, 1)] = true := by kernel_rfl
theorem sH : bi Tryz.prog 87 = some (.agg #[.slice none 0 0]) := by kernel_rfl
theorem mV : mn Tryz.prog 87 1 = true := by kernel_rfl
theorem sz_87 : szB Tryz.prog 87 1 = true := by kernel_rfl
theorem dM : aV Tryz.prog 87 0 = some 0 := by kernel_rfl
theorem jC : scB Tryz.prog 85 = true := by kernel_rfl
theorem mc_42_1 : madeCells (.slice none 0 0 : Value).cells (1 * 1) = #[.slice none 0 0] := by kernel_rfl
theorem pC : Tryz.prog.underlying 85 = some (.slice 42) := by kernel_rfl
theorem ze_42 : bi Tryz.prog 42 = some (.slice none 0 0) := by kernel_rfl
theorem by_42 : eF Tryz.prog 42 (.slice none 0 0) 1 24 = true := by kernel_rfl
theorem sz_85 : szB Tryz.prog 85 1 = true := by kernel_rfl
theorem oM : pL Tryz.prog 120 [(0, 1), (1, 1), (2, 1), (3, 1), (4, 1), (5, 1)] = true := by kernel_rfl
theorem rb : pL Tryz.prog 63 [(0, 1), (1, 1)] = true := by kernel_rfl
theorem mc_120_4 : madeCells (.agg #[.int .i64 0, .int .i64 0, .int .i64 0, .int .i64 0, .int .i64 0, .slice none 0 0] : Value).cells (4 * 6) = #[.int .i64 0, .int .i64 0, .int .i64 0, .int .i64 0, .int .i64 0, .slice none 0 0, .int .i64 0, .int .i64 0, .int .i64 0, .int .i64 0, .int .i64 0, .slice none 0 0, .int .i64 0, .int .i64 0, .int .i64 0, .int .i64 0, .int .i64 0, .slice none 0 0, .int .i64 0, .int .i64 0, .int .i64 0, .int .i64 0, .int .i64 0, .slice none 0 0] := by kernel_rfl
theorem mc_63_1 : madeCells (.agg #[.int .i64 0, .int .i64 0] : Value).cells (1 * 2) = #[.int .i64 0, .int .i64 0] := by kernel_rfl
theorem by_63 : eF Tryz.prog 63 (.agg #[.int .i64 0, .int .i64 0]) 2 16 = true := by kernel_rfl
theorem ust_69 : pL Tryz.prog 69 [(0, 1), (1, 1), (2, 1)] = true := by kernel_rfl
theorem sJ : pL Tryz.prog 65 [(0, 1), (1, 2), (3, 1), (4, 1)] = true := by kernel_rfl
theorem mc_65_3 : madeCells (.agg #[.int .i64 0, .int .i64 0, .int .i64 0, .int .i64 0, .int .i64 0] : Value).cells (3 * 5) = #[.int .i64 0, .int .i64 0, .int .i64 0, .int .i64 0, .int .i64 0, .int .i64 0, .int .i64 0, .int .i64 0, .int .i64 0, .int .i64 0, .int .i64 0, .int .i64 0, .int .i64 0, .int .i64 0, .int .i64 0] := by kernel_rfl
theorem mc_69_2 : madeCells (.agg #[.int .i64 0, .int .i64 0, .int .i64 0] : Value).cells (2 * 3) = #[.int .i64 0, .int .i64 0, .int .i64 0, .int .i64 0, .int .i64 0, .int .i64 0] := by kernel_rfl
theorem go_69 : bp Tryz.prog 69 = true := by kernel_rfl
theorem go_19 : bp Tryz.prog 19 = true := by kernel_rfl
theorem m9 : ou Tryz.prog 85 = some (42, 1) := by kernel_rfl
theorem tA : bp Tryz.prog 25 = true := by kernel_rfl
theorem rQ : madeCells (.int .i64 0 : Value).cells (2 * 1) = #[.int .i64 0, .int .i64 0] := by kernel_rfl
theorem go_33 : bp Tryz.prog 33 = true := by kernel_rfl
theorem go_44 : bp Tryz.prog 44 = true := by kernel_rfl
theorem go_31 : bp Tryz.prog 31 = true := by kernel_rfl
theorem mc_3_3 : madeCells (.int .i64 0 : Value).cells (3 * 1) = #[.int .i64 0, .int .i64 0, .int .i64 0] := by kernel_rfl
theorem go_29 : bp Tryz.prog 29 = true := by kernel_rfl
theorem go_27 : bp Tryz.prog 27 = true := by kernel_rfl
theorem go_37 : bp Tryz.prog 37 = true := by kernel_rfl
theorem go_23 : bp Tryz.prog 23 = true := by kernel_rfl
theorem go_61 : bp Tryz.prog 61 = true := by kernel_rfl
theorem go_49 : bp Tryz.prog 49 = true := by kernel_rfl
theorem go_68 : bp Tryz.prog 68 = true := by kernel_rfl
theorem go_67 : bp Tryz.prog 67 = true := by kernel_rfl
theorem go_16 : bp Tryz.prog 16 = true := by kernel_rfl
theorem tl : bp Tryz.prog 17 = true := by kernel_rfl
theorem fo_132_0 : aV Tryz.prog 132 0 = some 0 := by kernel_rfl
theorem kV : aV Tryz.prog 132 1 = some 1 := by kernel_rfl
theorem go_180 : bp Tryz.prog 180 = true := by kernel_rfl
theorem go_153 : bp Tryz.prog 153 = true := by kernel_rfl
theorem go_152 : bp Tryz.prog 152 = true := by kernel_rfl
theorem go_151 : bp Tryz.prog 151 = true := by kernel_rfl
theorem go_154 : bp Tryz.prog 154 = true := by kernel_rfl
theorem go_112 : bp Tryz.prog 112 = true := by kernel_rfl
theorem go_113 : bp Tryz.prog 113 = true := by kernel_rfl
theorem go_53 : bp Tryz.prog 53 = true := by kernel_rfl
theorem go_47 : bp Tryz.prog 47 = true := by kernel_rfl
theorem go_48 : bp Tryz.prog 48 = true := by kernel_rfl
theorem go_50 : bp Tryz.prog 50 = true := by kernel_rfl
theorem go_51 : bp Tryz.prog 51 = true := by kernel_rfl
theorem go_52 : bp Tryz.prog 52 = true := by kernel_rfl
theorem kf_191 : fldsB Tryz.prog 191 [(0, 1, 3), (1, 1, 3)] = true := by kernel_rfl
theorem kl_191 : laidOutB Tryz.prog = true := by kernel_rfl
theorem kw_191 : (match Tryz.prog.underlying 191 with | some (.array _ _) | some (.struct _) => true | _ => false) = true := by kernel_rfl
theorem mb : KeyE Tryz.prog 191 bX aM where
  keyed := .of_law (deep_law_laid kl_191 (m := 6) (by omega) (of_decide_eq_true (by kernel_rfl)) (by kernel_rfl) kw_191)
  tot := fun x h => by
    unfold aM at h
    simp only [Bool.and_eq_true] at h
    obtain ⟨h0, h1⟩ := h
    exact keyS_2 (of_decide_eq_true (by kernel_rfl)) kf_191 ui_3 ui_3 (pK h0) (pK h1)
  inj := fun x y h => by
    cases x; cases y
    simp only [bX] at h
    simp_all
theorem ke_3 : KeyE Tryz.prog 3 kI dI := keyE_int ui_3
end Go.Proofs.YthndghnkebboaaaGreat
