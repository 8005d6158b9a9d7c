import Derived.Test.YthndghnkebboaaaGreatGy
import Derived.Test.YthndghnkebboaaaGreatGz
import Derived.Test.YthndghnkebboaaaGreatP
import Derived.Test.YthndghnkebboaaaGreatProg
set_option maxRecDepth 20000
set_option linter.unusedVariables false
namespace Go.Proofs.YthndghnkebboaaaGreat
def TSpan_cells (x : TSpan) : List Value := [.int .i64 x.fLo, .int .i64 x.fHi]
theorem TSpan_cells_len (x : TSpan) : (TSpan_cells x).length = 2 := rfl
def Twait_cells (x : Twait) : List Value := [.int .i64 x.f_at, .int .i64 x.f_stop.f_place, .int .i64 x.f_stop.f_toll]
theorem Twait_cells_len (x : Twait) : (Twait_cells x).length = 3 := rfl
theorem Twait_cells_one (x : Twait) : ((Twait_cells x).all (·.oneCell')) = true := rfl
def TLeg_cells (x : TLeg) : List Value := [.int .i64 x.fTrack, .int .i64 x.fHour]
theorem TLeg_cells_len (x : TLeg) : (TLeg_cells x).length = 2 := rfl
theorem TLeg_cells_one (x : TLeg) : ((TLeg_cells x).all (·.oneCell')) = true := rfl
def TOrder_cells (x : TO) : List Value := [.int .i64 x.fID, .int .i64 x.fH.fLo, .int .i64 x.fH.fHi, .int .i64 x.fD, .int .i64 x.fW]
theorem TOrder_cells_len (x : TO) : (TOrder_cells x).length = 5 := rfl
theorem TOrder_cells_one (x : TO) : ((TOrder_cells x).all (·.oneCell')) = true := rfl
def TBay_cells (x : TBay) : List Value := [.int .i64 x.fID, .int .i64 x.fHour, .int .i64 x.fD]
theorem TBay_cells_len (x : TBay) : (TBay_cells x).length = 3 := rfl
theorem TBay_cells_one (x : TBay) : ((TBay_cells x).all (·.oneCell')) = true := rfl
def TTrack_cells2 (p : Hd × TT) : List Value := [.int .i64 p.2.fID, .int .i64 p.2.fFrom, .int .i64 p.2.fTo, .int .i64 p.2.fLong, .int .i64 p.2.fToll, .slice p.1.1 p.1.2.1 p.1.2.2]
theorem TTrack_cells2_len (p : Hd × TT) : (TTrack_cells2 p).length = 6 := rfl
theorem TTrack_cells2_one (p : Hd × TT) : ((TTrack_cells2 p).all (·.oneCell')) = true := rfl
theorem TTrack_cells2_eq {p : Hd × TT} {z : TT} {k : Nat} (hs : p.2 = z) (hl : p.1.2.1 = k) : TTrack_cells2 p = [.int .i64 z.fID, .int .i64 z.fFrom, .int .i64 z.fTo, .int .i64 z.fLong, .int .i64 z.fToll, .slice p.1.1 k p.1.2.2] := by subst hs hl; rfl
def TJourney_cells2 (p : Hd × TJ) : List Value := [.slice p.1.1 p.1.2.1 p.1.2.2, .int .i64 p.2.fA, .int .i64 p.2.fToll]
theorem TJourney_cells2_len (p : Hd × TJ) : (TJourney_cells2 p).length = 3 := rfl
theorem TJourney_cells2_one (p : Hd × TJ) : ((TJourney_cells2 p).all (·.oneCell')) = true := rfl
theorem TJourney_cells2_eq {p : Hd × TJ} {z : TJ} {k : Nat} (hs : p.2 = z) (hl : p.1.2.1 = k) : TJourney_cells2 p = [.slice p.1.1 k p.1.2.2, .int .i64 z.fA, .int .i64 z.fToll] := by subst hs hl; rfl
def SlInt_cells2 (p : Hd × (List Int)) : List Value := [.slice p.1.1 p.1.2.1 p.1.2.2]
theorem SlInt_cells2_len (p : Hd × (List Int)) : (SlInt_cells2 p).length = 1 := rfl
theorem SlInt_cells2_one (p : Hd × (List Int)) : ((SlInt_cells2 p).all (·.oneCell')) = true := rfl
def Tstop_enc (x : Ts) : Value := .agg #[.int .i64 x.f_place, .int .i64 x.f_toll]
def Tlabel_enc (x : Tl) : Value := .agg #[.int .i64 x.f_at, .int .i64 x.f_from.f_place, .int .i64 x.f_from.f_toll, .int .i64 x.f_leg.fTrack, .int .i64 x.f_leg.fHour, .bool x.f_begin]
theorem fo_24_1 : fieldOff Tryz.prog 24 1 = some 1 := by kernel_rfl
theorem sc_22 : scB Tryz.prog 22 = true := by kernel_rfl
theorem us_22 : Tryz.prog.underlying 22 = some (.slice 120) := by kernel_rfl
theorem sl_22 : slOf Tryz.prog 22 = some (120, 6) := by kernel_rfl
theorem fo_120_5 : fieldOff Tryz.prog 120 5 = some 5 := by kernel_rfl
theorem sc_118 : scB Tryz.prog 118 = true := by kernel_rfl
theorem us_118 : Tryz.prog.underlying 118 = some (.slice 63) := by kernel_rfl
theorem fo_24_0 : fieldOff Tryz.prog 24 0 = some 0 := by kernel_rfl
theorem sc_3 : scB Tryz.prog 3 = true := by kernel_rfl
theorem go_107 : goes Tryz.prog 107 = true := by kernel_rfl
theorem sl_118 : slOf Tryz.prog 118 = some (63, 2) := by kernel_rfl
theorem ag_63 : aggB Tryz.prog 63 2 = true := by kernel_rfl
theorem fo_63_0 : fieldOff Tryz.prog 63 0 = some 0 := by kernel_rfl
theorem fo_63_1 : fieldOff Tryz.prog 63 1 = some 1 := by kernel_rfl
theorem sz_63 : szB Tryz.prog 63 2 = true := by kernel_rfl
theorem ze_63 : zeroOf Tryz.prog 63 = some (.agg #[.int .i64 0, .int .i64 0]) := by kernel_rfl
theorem ag_120 : aggB Tryz.prog 120 6 = true := by kernel_rfl
theorem go_192 : goes Tryz.prog 192 = true := by kernel_rfl
theorem fo_120_0 : fieldOff Tryz.prog 120 0 = some 0 := by kernel_rfl
theorem go_182 : goes Tryz.prog 182 = true := by kernel_rfl
theorem go_181 : goes Tryz.prog 181 = true := by kernel_rfl
theorem fo_120_1 : fieldOff Tryz.prog 120 1 = some 1 := by kernel_rfl
theorem go_159 : goes Tryz.prog 159 = true := by kernel_rfl
theorem fo_120_2 : fieldOff Tryz.prog 120 2 = some 2 := by kernel_rfl
theorem fo_120_3 : fieldOff Tryz.prog 120 3 = some 3 := by kernel_rfl
theorem fo_120_4 : fieldOff Tryz.prog 120 4 = some 4 := by kernel_rfl
theorem go_122 : goes Tryz.prog 122 = true := by kernel_rfl
theorem ag_24 : aggB Tryz.prog 24 2 = true := by kernel_rfl
theorem go_155 : goes Tryz.prog 155 = true := by kernel_rfl
theorem sz_120 : szB Tryz.prog 120 6 = true := by kernel_rfl
theorem ze_120 : zeroOf Tryz.prog 120 = some (.agg #[.int .i64 0, .int .i64 0, .int .i64 0, .int .i64 0, .int .i64 0, .slice none 0 0]) := by kernel_rfl
theorem go_124 : goes Tryz.prog 124 = true := by kernel_rfl
theorem go_108 : goes Tryz.prog 108 = true := by kernel_rfl
theorem us_198 : Tryz.prog.underlying 198 = some (.slice 196) := by kernel_rfl
theorem sl_198 : slOf Tryz.prog 198 = some (196, 3) := by kernel_rfl
theorem fo_196_0 : fieldOff Tryz.prog 196 0 = some 0 := by kernel_rfl
theorem mixed : Tryz.prog.follows .mixedOrders = true := by kernel_rfl
theorem ag_196 : aggB Tryz.prog 196 3 = true := by kernel_rfl
theorem sz_196 : szB Tryz.prog 196 3 = true := by kernel_rfl
theorem me_194_Less : methP Tryz.prog 194 "Less" = some (212, false) := by kernel_rfl
theorem up_194 : Tryz.prog.underlying 194 = some (.pointer 198) := by kernel_rfl
theorem sc_198 : scB Tryz.prog 198 = true := by kernel_rfl
theorem go_212 : goes Tryz.prog 212 = true := by kernel_rfl
theorem me_194_Swap : methP Tryz.prog 194 "Swap" = some (215, false) := by kernel_rfl
theorem go_215 : goes Tryz.prog 215 = true := by kernel_rfl
theorem nif_196 : notIf Tryz.prog 196 = true := by kernel_rfl
theorem sz_198 : szB Tryz.prog 198 1 = true := by kernel_rfl
theorem ze_196 : zeroOf Tryz.prog 196 = some (.agg #[.int .i64 0, .int .i64 0, .int .i64 0]) := by kernel_rfl
theorem me_194_Len : methP Tryz.prog 194 "Len" = some (147, false) := by kernel_rfl
theorem go_147 : goes Tryz.prog 147 = true := by kernel_rfl
theorem me_194_Pop : methP Tryz.prog 194 "Pop" = some (213, true) := by kernel_rfl
theorem go_213 : goes Tryz.prog 213 = true := by kernel_rfl
theorem go_177 : goes Tryz.prog 177 = true := by kernel_rfl
theorem mc_196_1 : madeCells (.agg #[.int .i64 0, .int .i64 0, .int .i64 0] : Value).cells (1 * 3) = #[.int .i64 0, .int .i64 0, .int .i64 0] := by kernel_rfl
theorem by_196 : bytesB Tryz.prog 196 (.agg #[.int .i64 0, .int .i64 0, .int .i64 0]) 3 24 = true := by kernel_rfl
theorem me_194_Push : methP Tryz.prog 194 "Push" = some (214, true) := by kernel_rfl
theorem go_214 : goes Tryz.prog 214 = true := by kernel_rfl
theorem go_179 : goes Tryz.prog 179 = true := by kernel_rfl
theorem ust_191 : strB Tryz.prog 191 [(0, 1), (1, 1)] = true := by kernel_rfl
theorem ze_191 : zeroOf Tryz.prog 191 = some (.agg #[.int .i64 0, .int .i64 0]) := by kernel_rfl
theorem ust_193 : strB Tryz.prog 193 [(0, 1), (1, 2), (3, 2), (5, 1)] = true := by kernel_rfl
theorem ze_193 : zeroOf Tryz.prog 193 = some (.agg #[.int .i64 0, .int .i64 0, .int .i64 0, .int .i64 0, .int .i64 0, .bool false]) := by kernel_rfl
theorem ust_196 : strB Tryz.prog 196 [(0, 1), (1, 2)] = true := by kernel_rfl
theorem sc_194 : scB Tryz.prog 194 = true := by kernel_rfl
theorem nif_194 : notIf Tryz.prog 194 = true := by kernel_rfl
theorem sc_157 : scB Tryz.prog 157 = true := by kernel_rfl
theorem fo_196_1 : fieldOff Tryz.prog 196 1 = some 1 := by kernel_rfl
theorem ag_191 : aggB Tryz.prog 191 2 = true := by kernel_rfl
theorem um_157 : Tryz.prog.underlying 157 = some (.map 191 193) := by kernel_rfl
theorem fd_193_0 : fldT Tryz.prog 193 0 = some (3, 0) := by kernel_rfl
theorem fo_191_0 : fieldOff Tryz.prog 191 0 = some 0 := by kernel_rfl
theorem go_123 : goes Tryz.prog 123 = true := by kernel_rfl
theorem fo_191_1 : fieldOff Tryz.prog 191 1 = some 1 := by kernel_rfl
theorem fo_193_0 : fieldOff Tryz.prog 193 0 = some 0 := by kernel_rfl
theorem ust_132 : strB Tryz.prog 132 [(0, 1), (1, 1)] = true := by kernel_rfl
theorem ze_132 : zeroOf Tryz.prog 132 = some (.agg #[.int .i64 0, .int .i64 0]) := by kernel_rfl
theorem go_150 : goes Tryz.prog 150 = true := by kernel_rfl
theorem sz_193 : szB Tryz.prog 193 6 = true := by kernel_rfl
theorem sz_191 : szB Tryz.prog 191 2 = true := by kernel_rfl
theorem go_178 : goes Tryz.prog 178 = true := by kernel_rfl
theorem go_149 : goes Tryz.prog 149 = true := by kernel_rfl
theorem go_148 : goes Tryz.prog 148 = true := by kernel_rfl
theorem sz_194 : szB Tryz.prog 194 1 = true := by kernel_rfl
theorem ze_194 : zeroOf Tryz.prog 194 = some (.pointer none) := by kernel_rfl
theorem sz_157 : szB Tryz.prog 157 1 = true := by kernel_rfl
theorem ze_157 : zeroOf Tryz.prog 157 = some (.map none) := by kernel_rfl
theorem ar_160 : arrOf Tryz.prog 160 = some (61, 1) := by kernel_rfl
theorem sz_3 : szB Tryz.prog 3 1 = true := by kernel_rfl
theorem agA_160 : aggB Tryz.prog 160 61 = true := by kernel_rfl
theorem szA_160 : szB Tryz.prog 160 61 = true := by kernel_rfl
theorem ze_160 : zeroOf Tryz.prog 160 = some (.agg (encL cI (List.replicate 61 0)).toArray) := by kernel_rfl
theorem us_27 : Tryz.prog.underlying 27 = some (.slice 132) := by kernel_rfl
theorem sl_27 : slOf Tryz.prog 27 = some (132, 2) := by kernel_rfl
theorem ag_132 : aggB Tryz.prog 132 2 = true := by kernel_rfl
theorem sz_132 : szB Tryz.prog 132 2 = true := by kernel_rfl
theorem ust_29 : strB Tryz.prog 29 [(0, 1), (1, 1), (2, 1)] = true := by kernel_rfl
theorem ze_29 : zeroOf Tryz.prog 29 = some (.agg #[.slice none 0 0, .int .i64 0, .int .i64 0]) := by kernel_rfl
theorem fo_193_3 : fieldOff Tryz.prog 193 3 = some 5 := by kernel_rfl
theorem sc_4 : scB Tryz.prog 4 = true := by kernel_rfl
theorem fo_29_0 : fieldOff Tryz.prog 29 0 = some 0 := by kernel_rfl
theorem sc_27 : scB Tryz.prog 27 = true := by kernel_rfl
theorem fo_193_2 : fieldOff Tryz.prog 193 2 = some 3 := by kernel_rfl
theorem ag_193 : aggB Tryz.prog 193 6 = true := by kernel_rfl
theorem fo_193_1 : fieldOff Tryz.prog 193 1 = some 1 := by kernel_rfl
theorem sz_27 : szB Tryz.prog 27 1 = true := by kernel_rfl
theorem by_132 : bytesB Tryz.prog 132 (.agg #[.int .i64 0, .int .i64 0]) 2 16 = true := by kernel_rfl
theorem mc_132_1 : madeCells (.agg #[.int .i64 0, .int .i64 0] : Value).cells (1 * 2) = #[.int .i64 0, .int .i64 0] := by kernel_rfl
theorem ag_29 : aggB Tryz.prog 29 3 = true := by kernel_rfl
theorem sz_29 : szB Tryz.prog 29 3 = true := by kernel_rfl
theorem go_183 : goes Tryz.prog 183 = true := by kernel_rfl
theorem ua_160 : Tryz.prog.underlying 160 = some (.array 61 3) := by kernel_rfl
theorem us_106 : Tryz.prog.underlying 106 = some (.slice 29) := by kernel_rfl
theorem by_29 : bytesB Tryz.prog 29 (.agg #[.slice none 0 0, .int .i64 0, .int .i64 0]) 3 40 = true := by kernel_rfl
theorem mc_29_1 : madeCells (.agg #[.slice none 0 0, .int .i64 0, .int .i64 0] : Value).cells (1 * 3) = #[.slice none 0 0, .int .i64 0, .int .i64 0] := by kernel_rfl
theorem go_157 : goes Tryz.prog 157 = true := by kernel_rfl
theorem go_111 : goes Tryz.prog 111 = true := by kernel_rfl
theorem go_110 : goes Tryz.prog 110 = true := by kernel_rfl
theorem sl_106 : slOf Tryz.prog 106 = some (29, 3) := by kernel_rfl
theorem fo_29_2 : fieldOff Tryz.prog 29 2 = some 2 := by kernel_rfl
theorem go_119 : goes Tryz.prog 119 = true := by kernel_rfl
theorem go_70 : goes Tryz.prog 70 = true := by kernel_rfl
theorem go_71 : goes Tryz.prog 71 = true := by kernel_rfl
theorem fo_29_1 : fieldOff Tryz.prog 29 1 = some 1 := by kernel_rfl
theorem go_72 : goes Tryz.prog 72 = true := by kernel_rfl
theorem by_120 : bytesB Tryz.prog 120 (.agg #[.int .i64 0, .int .i64 0, .int .i64 0, .int .i64 0, .int .i64 0, .slice none 0 0]) 6 64 = true := by kernel_rfl
theorem go_176 : goes Tryz.prog 176 = true := by kernel_rfl
theorem sl_42 : slOf Tryz.prog 42 = some (3, 1) := by kernel_rfl
theorem go_168 : goes Tryz.prog 168 = true := by kernel_rfl
theorem us_s9 : Tryz.prog.underlying 9 = some .string := by kernel_rfl
theorem ui_220 : Tryz.prog.underlying 220 = some (.int .u64) := by kernel_rfl
theorem ui_5 : Tryz.prog.underlying 5 = some (.int .u8) := by kernel_rfl
theorem ui_3 : Tryz.prog.underlying 3 = some (.int .i64) := by kernel_rfl
theorem go_172 : goes Tryz.prog 172 = true := by kernel_rfl
theorem ui_176 : Tryz.prog.underlying 176 = some (.int .u64) := by kernel_rfl
theorem go_129 : goes Tryz.prog 129 = true := by kernel_rfl
theorem go_162 : goes Tryz.prog 162 = true := by kernel_rfl
theorem go_128 : goes Tryz.prog 128 = true := by kernel_rfl
theorem us_42 : Tryz.prog.underlying 42 = some (.slice 3) := by kernel_rfl
theorem go_80 : goes Tryz.prog 80 = true := by kernel_rfl
theorem go_79 : goes Tryz.prog 79 = true := by kernel_rfl
theorem ust_24 : strB Tryz.prog 24 [(0, 1), (1, 1)] = true := by kernel_rfl
theorem ze_24 : zeroOf Tryz.prog 24 = some (.agg #[.int .i64 0, .slice none 0 0]) := by kernel_rfl
theorem sz_24 : szB Tryz.prog 24 2 = true := by kernel_rfl
theorem ze_3 : zeroOf Tryz.prog 3 = some (.int .i64 0) := by kernel_rfl
theorem by_3 : bytesB Tryz.prog 3 (.int .i64 0) 1 8 = true := by kernel_rfl
theorem mc_3_1 : madeCells (.int .i64 0 : Value).cells (1 * 1) = #[.int .i64 0] := by kernel_rfl
theorem go_81 : goes Tryz.prog 81 = true := by kernel_rfl
theorem go_18 : goes Tryz.prog 18 = true := by kernel_rfl
theorem us_51 : Tryz.prog.underlying 51 = some (.slice 65) := by kernel_rfl
theorem sl_51 : slOf Tryz.prog 51 = some (65, 5) := by kernel_rfl
theorem ag_65 : aggB Tryz.prog 65 5 = true := by kernel_rfl
theorem go_173 : goes Tryz.prog 173 = true := by kernel_rfl
theorem fo_65_0 : fieldOff Tryz.prog 65 0 = some 0 := by kernel_rfl
theorem fo_53_1 : fieldOff Tryz.prog 53 1 = some 1 := by kernel_rfl
theorem sc_51 : scB Tryz.prog 51 = true := by kernel_rfl
theorem go_135 : goes Tryz.prog 135 = true := by kernel_rfl
theorem go_134 : goes Tryz.prog 134 = true := by kernel_rfl
theorem us_50 : Tryz.prog.underlying 50 = some (.slice 69) := by kernel_rfl
theorem sl_50 : slOf Tryz.prog 50 = some (69, 3) := by kernel_rfl
theorem ag_69 : aggB Tryz.prog 69 3 = true := by kernel_rfl
theorem go_174 : goes Tryz.prog 174 = true := by kernel_rfl
theorem fo_69_0 : fieldOff Tryz.prog 69 0 = some 0 := by kernel_rfl
theorem fo_53_0 : fieldOff Tryz.prog 53 0 = some 0 := by kernel_rfl
theorem sc_50 : scB Tryz.prog 50 = true := by kernel_rfl
theorem go_140 : goes Tryz.prog 140 = true := by kernel_rfl
theorem go_139 : goes Tryz.prog 139 = true := by kernel_rfl
theorem fo_69_1 : fieldOff Tryz.prog 69 1 = some 1 := by kernel_rfl
theorem fo_69_2 : fieldOff Tryz.prog 69 2 = some 2 := by kernel_rfl
theorem ag_53 : aggB Tryz.prog 53 2 = true := by kernel_rfl
theorem go_96 : goes Tryz.prog 96 = true := by kernel_rfl
theorem sz_69 : szB Tryz.prog 69 3 = true := by kernel_rfl
theorem ze_69 : zeroOf Tryz.prog 69 = some (.agg #[.int .i64 0, .int .i64 0, .int .i64 0]) := by kernel_rfl
theorem fo_65_1 : fieldOff Tryz.prog 65 1 = some 1 := by kernel_rfl
theorem fo_65_2 : fieldOff Tryz.prog 65 2 = some 3 := by kernel_rfl
theorem fo_65_3 : fieldOff Tryz.prog 65 3 = some 4 := by kernel_rfl
theorem go_90 : goes Tryz.prog 90 = true := by kernel_rfl
theorem sz_65 : szB Tryz.prog 65 5 = true := by kernel_rfl
theorem ze_65 : zeroOf Tryz.prog 65 = some (.agg #[.int .i64 0, .int .i64 0, .int .i64 0, .int .i64 0, .int .i64 0]) := by kernel_rfl
theorem sc_189 : scB Tryz.prog 189 = true := by kernel_rfl
theorem um_189 : Tryz.prog.underlying 189 = some (.map 3 4) := by kernel_rfl
theorem ze_4 : zeroOf Tryz.prog 4 = some (.bool false) := by kernel_rfl
theorem go_101 : goes Tryz.prog 101 = true := by kernel_rfl
theorem sc_152 : scB Tryz.prog 152 = true := by kernel_rfl
theorem um_152 : Tryz.prog.underlying 152 = some (.map 3 3) := by kernel_rfl
theorem sc_127 : scB Tryz.prog 127 = true := by kernel_rfl
theorem go_156 : goes Tryz.prog 156 = true := by kernel_rfl
theorem sz_127 : szB Tryz.prog 127 1 = true := by kernel_rfl
theorem ze_127 : zeroOf Tryz.prog 127 = some (.nilFunc) := by kernel_rfl
theorem sz_189 : szB Tryz.prog 189 1 = true := by kernel_rfl
theorem ze_189 : zeroOf Tryz.prog 189 = some (.map none) := by kernel_rfl
theorem go_190 : goes Tryz.prog 190 = true := by kernel_rfl
theorem go_175 : goes Tryz.prog 175 = true := by kernel_rfl
theorem go_145 : goes Tryz.prog 145 = true := by kernel_rfl
theorem go_144 : goes Tryz.prog 144 = true := by kernel_rfl
theorem go_117 : goes Tryz.prog 117 = true := by kernel_rfl
theorem go_143 : goes Tryz.prog 143 = true := by kernel_rfl
theorem go_130 : goes Tryz.prog 130 = true := by kernel_rfl
theorem go_100 : goes Tryz.prog 100 = true := by kernel_rfl
theorem by_65 : bytesB Tryz.prog 65 (.agg #[.int .i64 0, .int .i64 0, .int .i64 0, .int .i64 0, .int .i64 0]) 5 40 = true := by kernel_rfl
theorem go_115 : goes Tryz.prog 115 = true := by kernel_rfl
theorem ust_53 : strB Tryz.prog 53 [(0, 1), (1, 1)] = true := by kernel_rfl
theorem ze_53 : zeroOf Tryz.prog 53 = some (.agg #[.slice none 0 0, .slice none 0 0]) := by kernel_rfl
theorem sz_53 : szB Tryz.prog 53 2 = true := by kernel_rfl
theorem go_83 : goes Tryz.prog 83 = true := by kernel_rfl
theorem go_131 : goes Tryz.prog 131 = true := by kernel_rfl
theorem go_85 : goes Tryz.prog 85 = true := by kernel_rfl
theorem go_88 : goes Tryz.prog 88 = true := by kernel_rfl
theorem go_45 : goes Tryz.prog 45 = true := by kernel_rfl
theorem go_84 : goes Tryz.prog 84 = true := by kernel_rfl
theorem go_137 : goes Tryz.prog 137 = true := by kernel_rfl
theorem go_138 : goes Tryz.prog 138 = true := by kernel_rfl
theorem go_136 : goes Tryz.prog 136 = true := by kernel_rfl
theorem sz_152 : szB Tryz.prog 152 1 = true := by kernel_rfl
theorem ze_152 : zeroOf Tryz.prog 152 = some (.map none) := by kernel_rfl
theorem go_91 : goes Tryz.prog 91 = true := by kernel_rfl
theorem go_94 : goes Tryz.prog 94 = true := by kernel_rfl
theorem go_93 : goes Tryz.prog 93 = true := by kernel_rfl
theorem go_92 : goes Tryz.prog 92 = true := by kernel_rfl
theorem by_69 : bytesB Tryz.prog 69 (.agg #[.int .i64 0, .int .i64 0, .int .i64 0]) 3 24 = true := by kernel_rfl
theorem go_142 : goes Tryz.prog 142 = true := by kernel_rfl
theorem go_141 : goes Tryz.prog 141 = true := by kernel_rfl
theorem go_97 : goes Tryz.prog 97 = true := by kernel_rfl
theorem ust_71 : strB Tryz.prog 71 [(0, 1), (1, 1), (2, 1)] = true := by kernel_rfl
theorem ze_71 : zeroOf Tryz.prog 71 = some (.agg #[.slice none 0 0, .int .i64 0, .slice none 0 0]) := by kernel_rfl
theorem sz_71 : szB Tryz.prog 71 3 = true := by kernel_rfl
theorem fo_71_0 : fieldOff Tryz.prog 71 0 = some 0 := by kernel_rfl
theorem sc_42 : scB Tryz.prog 42 = true := by kernel_rfl
theorem fo_71_2 : fieldOff Tryz.prog 71 2 = some 2 := by kernel_rfl
theorem fo_71_1 : fieldOff Tryz.prog 71 1 = some 1 := by kernel_rfl
theorem sz_42 : szB Tryz.prog 42 1 = true := by kernel_rfl
theorem ag_71 : aggB Tryz.prog 71 3 = true := by kernel_rfl
theorem go_99 : goes Tryz.prog 99 = true := by kernel_rfl
theorem go_109 : goes Tryz.prog 109 = true := by kernel_rfl
theorem go_77 : goes Tryz.prog 77 = true := by kernel_rfl
theorem go_98 : goes Tryz.prog 98 = true := by kernel_rfl
theorem go_104 : goes Tryz.prog 104 = true := by kernel_rfl
theorem go_46 : goes Tryz.prog 46 = true := by kernel_rfl
theorem go_105 : goes Tryz.prog 105 = true := by kernel_rfl
theorem go_106 : goes Tryz.prog 106 = true := by kernel_rfl
theorem ust_87 : strB Tryz.prog 87 [(0, 1)] = true := by kernel_rfl
theorem ze_87 : zeroOf Tryz.prog 87 = some (.agg #[.slice none 0 0]) := by kernel_rfl
theorem ag_87 : aggB Tryz.prog 87 1 = true := by kernel_rfl
theorem sz_87 : szB Tryz.prog 87 1 = true := by kernel_rfl
theorem fo_87_0 : fieldOff Tryz.prog 87 0 = some 0 := by kernel_rfl
theorem sc_85 : scB Tryz.prog 85 = true := by kernel_rfl
theorem mc_42_1 : madeCells (.slice none 0 0 : Value).cells (1 * 1) = #[.slice none 0 0] := by kernel_rfl
theorem us_85 : Tryz.prog.underlying 85 = some (.slice 42) := by kernel_rfl
theorem ze_42 : zeroOf Tryz.prog 42 = some (.slice none 0 0) := by kernel_rfl
theorem by_42 : bytesB Tryz.prog 42 (.slice none 0 0) 1 24 = true := by kernel_rfl
theorem sz_85 : szB Tryz.prog 85 1 = true := by kernel_rfl
theorem ust_120 : strB Tryz.prog 120 [(0, 1), (1, 1), (2, 1), (3, 1), (4, 1), (5, 1)] = true := by kernel_rfl
theorem ust_63 : strB Tryz.prog 63 [(0, 1), (1, 1)] = true := by kernel_rfl
theorem mc_120_4 : madeCells (.agg #[.int .i64 0, .int .i64 0, .int .i64 0, .int .i64 0, .int .i64 0, .slice none 0 0] : Value).cells (4 * 6) = #[.int .i64 0, .int .i64 0, .int .i64 0, .int .i64 0, .int .i64 0, .slice none 0 0, .int .i64 0, .int .i64 0, .int .i64 0, .int .i64 0, .int .i64 0, .slice none 0 0, .int .i64 0, .int .i64 0, .int .i64 0, .int .i64 0, .int .i64 0, .slice none 0 0, .int .i64 0, .int .i64 0, .int .i64 0, .int .i64 0, .int .i64 0, .slice none 0 0] := by kernel_rfl
theorem mc_63_1 : madeCells (.agg #[.int .i64 0, .int .i64 0] : Value).cells (1 * 2) = #[.int .i64 0, .int .i64 0] := by kernel_rfl
theorem by_63 : bytesB Tryz.prog 63 (.agg #[.int .i64 0, .int .i64 0]) 2 16 = true := by kernel_rfl
theorem ust_69 : strB Tryz.prog 69 [(0, 1), (1, 1), (2, 1)] = true := by kernel_rfl
theorem ust_65 : strB Tryz.prog 65 [(0, 1), (1, 2), (3, 1), (4, 1)] = true := by kernel_rfl
theorem mc_65_3 : madeCells (.agg #[.int .i64 0, .int .i64 0, .int .i64 0, .int .i64 0, .int .i64 0] : Value).cells (3 * 5) = #[.int .i64 0, .int .i64 0, .int .i64 0, .int .i64 0, .int .i64 0, .int .i64 0, .int .i64 0, .int .i64 0, .int .i64 0, .int .i64 0, .int .i64 0, .int .i64 0, .int .i64 0, .int .i64 0, .int .i64 0] := by kernel_rfl
theorem mc_69_2 : madeCells (.agg #[.int .i64 0, .int .i64 0, .int .i64 0] : Value).cells (2 * 3) = #[.int .i64 0, .int .i64 0, .int .i64 0, .int .i64 0, .int .i64 0, .int .i64 0] := by kernel_rfl
theorem go_69 : goes Tryz.prog 69 = true := by kernel_rfl
theorem go_19 : goes Tryz.prog 19 = true := by kernel_rfl
theorem sl_85 : slOf Tryz.prog 85 = some (42, 1) := by kernel_rfl
theorem go_25 : goes Tryz.prog 25 = true := by kernel_rfl
theorem mc_3_2 : madeCells (.int .i64 0 : Value).cells (2 * 1) = #[.int .i64 0, .int .i64 0] := by kernel_rfl
theorem go_33 : goes Tryz.prog 33 = true := by kernel_rfl
theorem go_44 : goes Tryz.prog 44 = true := by kernel_rfl
theorem go_31 : goes Tryz.prog 31 = true := by kernel_rfl
theorem mc_3_3 : madeCells (.int .i64 0 : Value).cells (3 * 1) = #[.int .i64 0, .int .i64 0, .int .i64 0] := by kernel_rfl
theorem go_29 : goes Tryz.prog 29 = true := by kernel_rfl
theorem go_27 : goes Tryz.prog 27 = true := by kernel_rfl
theorem go_37 : goes Tryz.prog 37 = true := by kernel_rfl
theorem go_23 : goes Tryz.prog 23 = true := by kernel_rfl
theorem go_61 : goes Tryz.prog 61 = true := by kernel_rfl
theorem go_49 : goes Tryz.prog 49 = true := by kernel_rfl
theorem go_68 : goes Tryz.prog 68 = true := by kernel_rfl
theorem go_67 : goes Tryz.prog 67 = true := by kernel_rfl
theorem go_17 : goes Tryz.prog 17 = true := by kernel_rfl
theorem go_26 : goes Tryz.prog 26 = true := by kernel_rfl
theorem go_36 : goes Tryz.prog 36 = true := by kernel_rfl
theorem go_38 : goes Tryz.prog 38 = true := by kernel_rfl
theorem kf_191 : fldsB Tryz.prog 191 [(0, 1, 3), (1, 1, 3)] = true := by kernel_rfl
theorem kl_191 : laidOutB Tryz.prog = true := by kernel_rfl
theorem kw_191 : (match Tryz.prog.underlying 191 with | some (.array _ _) | some (.struct _) => true | _ => false) = true := by kernel_rfl
theorem ke_191 : KeyE Tryz.prog 191 Tstop_enc Tstop_okk where
  keyed := .of_law (deep_law_laid kl_191 (m := 6) (by omega) (of_decide_eq_true (by kernel_rfl)) (by kernel_rfl) kw_191)
  tot := fun x h => by
    unfold Tstop_okk at h
    simp only [Bool.and_eq_true] at h
    obtain ⟨h0, h1⟩ := h
    exact keyS_2 (of_decide_eq_true (by kernel_rfl)) kf_191 ui_3 ui_3 (rngB_wf h0) (rngB_wf h1)
  inj := fun x y h => by
    cases x; cases y
    simp only [Tstop_enc] at h
    simp_all
theorem ke_3 : KeyE Tryz.prog 3 kI rngB := keyE_int ui_3
end Go.Proofs.YthndghnkebboaaaGreat
