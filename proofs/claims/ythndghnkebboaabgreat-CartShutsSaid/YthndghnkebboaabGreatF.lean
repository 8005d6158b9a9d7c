import Derived.Test.YthndghnkebboaabGreatGy
import Derived.Test.YthndghnkebboaabGreatGz
import Derived.Test.YthndghnkebboaabGreatP
import Derived.Test.YthndghnkebboaabGreatProg
set_option maxRecDepth 20000
set_option linter.unusedVariables false
namespace Go.Proofs.YthndghnkebboaabGreat
def TSpan_cells (x : TSpan) : List Value := [.int .i64 x.fLo, .int .i64 x.fHi]
theorem ax (x : TSpan) : (TSpan_cells x).length = 2 := rfl
theorem hY (x : TSpan) : ((TSpan_cells x).all (·.oneCell')) = true := rfl
def au (x : Twait) : List Value := [.int .i64 x.f_at, .int .i64 x.f_stop.f_place, .int .i64 x.f_stop.f_toll]
theorem aP (x : Twait) : (au x).length = 3 := rfl
theorem mK (x : Twait) : ((au x).all (·.oneCell')) = true := rfl
def bt (x : TLeg) : List Value := [.int .i64 x.fTrack, .int .i64 x.fHour]
theorem bM (x : TLeg) : (bt x).length = 2 := rfl
theorem nR (x : TLeg) : ((bt x).all (·.oneCell')) = true := rfl
def ay (x : TO) : List Value := [.int .i64 x.fID, .int .i64 x.fH.fLo, .int .i64 x.fH.fHi, .int .i64 x.fD, .int .i64 x.fW]
theorem ap (x : TO) : (ay x).length = 5 := rfl
theorem ma (x : TO) : ((ay x).all (·.oneCell')) = true := rfl
def aC (x : TBay) : List Value := [.int .i64 x.fID, .int .i64 x.fHour, .int .i64 x.fD]
theorem aL (x : TBay) : (aC x).length = 3 := rfl
theorem kr (x : TBay) : ((aC x).all (·.oneCell')) = true := rfl
def TTrack_cells2 (p : Hd × TT) : List Value := [.int .i64 p.2.fID, .int .i64 p.2.fFrom, .int .i64 p.2.fTo, .int .i64 p.2.fLong, .int .i64 p.2.fToll, .slice p.1.1 p.1.2.1 p.1.2.2]
theorem aj (p : Hd × TT) : (TTrack_cells2 p).length = 6 := rfl
theorem cG (p : Hd × TT) : ((TTrack_cells2 p).all (·.oneCell')) = true := rfl
theorem eV {p : Hd × TT} {z : TT} {k : Nat} (hs : p.2 = z) (hl : p.1.2.1 = k) : TTrack_cells2 p = [.int .i64 z.fID, .int .i64 z.fFrom, .int .i64 z.fTo, .int .i64 z.fLong, .int .i64 z.fToll, .slice p.1.1 k p.1.2.2] := by subst hs hl; rfl
def co (p : Hd × TJ) : List Value := [.slice p.1.1 p.1.2.1 p.1.2.2, .int .i64 p.2.fA, .int .i64 p.2.fToll]
theorem bd (p : Hd × TJ) : (co p).length = 3 := rfl
theorem kE (p : Hd × TJ) : ((co p).all (·.oneCell')) = true := rfl
theorem kW {p : Hd × TJ} {z : TJ} {k : Nat} (hs : p.2 = z) (hl : p.1.2.1 = k) : co p = [.slice p.1.1 k p.1.2.2, .int .i64 z.fA, .int .i64 z.fToll] := by subst hs hl; rfl
def dI (p : Hd × (List Int)) : List Value := [.slice p.1.1 p.1.2.1 p.1.2.2]
theorem bw (p : Hd × (List Int)) : (dI p).length = 1 := rfl
theorem mf (p : Hd × (List Int)) : ((dI p).all (·.oneCell')) = true := rfl
def cq (x : Ts) : Value := .agg #[.int .i64 x.f_place, .int .i64 x.f_toll]
def bY (x : Tl) : Value := .agg #[.int .i64 x.f_at, .int .i64 x.f_from.f_place, .int .i64 x.f_from.f_toll, .int .i64 x.f_leg.fTrack, .int .i64 x.f_leg.fHour, .bool x.f_begin]
theorem bS : a7 Tryz.prog 24 1 = some 1 := by kernel_rfl
theorem fX : scB Tryz.prog 22 = true := by kernel_rfl
theorem gg : Tryz.prog.underlying 22 = some (.slice 39) := by kernel_rfl
theorem io : oW Tryz.prog 22 = some (39, 6) := by kernel_rfl
theorem jh : a7 Tryz.prog 39 5 = some 5 := by kernel_rfl
theorem qx : scB Tryz.prog 37 = true := by kernel_rfl
theorem ko : Tryz.prog.underlying 37 = some (.slice 26) := by kernel_rfl
theorem gY : a7 Tryz.prog 24 0 = some 0 := by kernel_rfl
theorem bc : scB Tryz.prog 3 = true := by kernel_rfl
theorem pJ : md Tryz.prog 39 6 = true := by kernel_rfl
theorem go_99 : bA Tryz.prog 99 = true := by kernel_rfl
theorem jy : a7 Tryz.prog 39 0 = some 0 := by kernel_rfl
theorem go_70 : bA Tryz.prog 70 = true := by kernel_rfl
theorem go_69 : bA Tryz.prog 69 = true := by kernel_rfl
theorem me : oW Tryz.prog 37 = some (26, 2) := by kernel_rfl
theorem ns : md Tryz.prog 26 2 = true := by kernel_rfl
theorem fV : a7 Tryz.prog 26 0 = some 0 := by kernel_rfl
theorem eu : a7 Tryz.prog 26 1 = some 1 := by kernel_rfl
theorem tF : szB Tryz.prog 26 2 = true := by kernel_rfl
theorem lm : bn Tryz.prog 26 = some (.agg #[.int .i64 0, .int .i64 0]) := by kernel_rfl
theorem km : bA Tryz.prog 45 = true := by kernel_rfl
theorem p8 : a7 Tryz.prog 39 1 = some 1 := by kernel_rfl
theorem go_46 : bA Tryz.prog 46 = true := by kernel_rfl
theorem qu : a7 Tryz.prog 39 2 = some 2 := by kernel_rfl
theorem mZ : a7 Tryz.prog 39 3 = some 3 := by kernel_rfl
theorem tg : a7 Tryz.prog 39 4 = some 4 := by kernel_rfl
theorem go_38 : bA Tryz.prog 38 = true := by kernel_rfl
theorem dU : md Tryz.prog 24 2 = true := by kernel_rfl
theorem go_31 : bA Tryz.prog 31 = true := by kernel_rfl
theorem sz_39 : szB Tryz.prog 39 6 = true := by kernel_rfl
theorem je : bn Tryz.prog 39 = some (.agg #[.int .i64 0, .int .i64 0, .int .i64 0, .int .i64 0, .int .i64 0, .slice none 0 0]) := by kernel_rfl
theorem go_14 : bA Tryz.prog 14 = true := by kernel_rfl
theorem o0 : bA Tryz.prog 32 = true := by kernel_rfl
theorem ol : Tryz.prog.underlying 136 = some (.slice 134) := by kernel_rfl
theorem lY : oW Tryz.prog 136 = some (134, 3) := by kernel_rfl
theorem mz : a7 Tryz.prog 134 0 = some 0 := by kernel_rfl
theorem cQ : Tryz.prog.follows .mixedOrders = true := by kernel_rfl
theorem qV : md Tryz.prog 134 3 = true := by kernel_rfl
theorem rb : szB Tryz.prog 134 3 = true := by kernel_rfl
theorem jc : kU Tryz.prog 132 "Less" = some (160, false) := by kernel_rfl
theorem jm : Tryz.prog.underlying 132 = some (.pointer 136) := by kernel_rfl
theorem iR : scB Tryz.prog 136 = true := by kernel_rfl
theorem q7 : bA Tryz.prog 160 = true := by kernel_rfl
theorem i9 : kU Tryz.prog 132 "Swap" = some (163, false) := by kernel_rfl
theorem l3 : bA Tryz.prog 163 = true := by kernel_rfl
theorem oE : rr Tryz.prog 134 = true := by kernel_rfl
theorem sz_136 : szB Tryz.prog 136 1 = true := by kernel_rfl
theorem mX : bn Tryz.prog 134 = some (.agg #[.int .i64 0, .int .i64 0, .int .i64 0]) := by kernel_rfl
theorem ob : kU Tryz.prog 132 "Len" = some (76, false) := by kernel_rfl
theorem go_76 : bA Tryz.prog 76 = true := by kernel_rfl
theorem rM : kU Tryz.prog 132 "Pop" = some (161, true) := by kernel_rfl
theorem go_161 : bA Tryz.prog 161 = true := by kernel_rfl
theorem go_112 : bA Tryz.prog 112 = true := by kernel_rfl
theorem rl : madeCells (.agg #[.int .i64 0, .int .i64 0, .int .i64 0] : Value).cells (1 * 3) = #[.int .i64 0, .int .i64 0, .int .i64 0] := by kernel_rfl
theorem sL : eU Tryz.prog 134 (.agg #[.int .i64 0, .int .i64 0, .int .i64 0]) 3 24 = true := by kernel_rfl
theorem qz : kU Tryz.prog 132 "Push" = some (162, true) := by kernel_rfl
theorem go_162 : bA Tryz.prog 162 = true := by kernel_rfl
theorem go_114 : bA Tryz.prog 114 = true := by kernel_rfl
theorem m3 : qs Tryz.prog 127 [(0, 1), (1, 1)] = true := by kernel_rfl
theorem n5 : bn Tryz.prog 127 = some (.agg #[.int .i64 0, .int .i64 0]) := by kernel_rfl
theorem rT : qs Tryz.prog 131 [(0, 1), (1, 2), (3, 2), (5, 1)] = true := by kernel_rfl
theorem jp : bn Tryz.prog 131 = some (.agg #[.int .i64 0, .int .i64 0, .int .i64 0, .int .i64 0, .int .i64 0, .bool false]) := by kernel_rfl
theorem ust_134 : qs Tryz.prog 134 [(0, 1), (1, 2)] = true := by kernel_rfl
theorem sk : scB Tryz.prog 132 = true := by kernel_rfl
theorem tc : rr Tryz.prog 132 = true := by kernel_rfl
theorem sc_97 : scB Tryz.prog 97 = true := by kernel_rfl
theorem ms : a7 Tryz.prog 134 1 = some 1 := by kernel_rfl
theorem l9 : md Tryz.prog 127 2 = true := by kernel_rfl
theorem pq : Tryz.prog.underlying 97 = some (.map 127 131) := by kernel_rfl
theorem ro : fldT Tryz.prog 131 0 = some (3, 0) := by kernel_rfl
theorem fo_127_0 : a7 Tryz.prog 127 0 = some 0 := by kernel_rfl
theorem go_39 : bA Tryz.prog 39 = true := by kernel_rfl
theorem oP : a7 Tryz.prog 127 1 = some 1 := by kernel_rfl
theorem oG : a7 Tryz.prog 131 0 = some 0 := by kernel_rfl
theorem ust_129 : qs Tryz.prog 129 [(0, 1), (1, 1)] = true := by kernel_rfl
theorem tq : bn Tryz.prog 129 = some (.agg #[.int .i64 0, .int .i64 0]) := by kernel_rfl
theorem go_79 : bA Tryz.prog 79 = true := by kernel_rfl
theorem pB : szB Tryz.prog 131 6 = true := by kernel_rfl
theorem sz_127 : szB Tryz.prog 127 2 = true := by kernel_rfl
theorem go_113 : bA Tryz.prog 113 = true := by kernel_rfl
theorem go_78 : bA Tryz.prog 78 = true := by kernel_rfl
theorem go_77 : bA Tryz.prog 77 = true := by kernel_rfl
theorem sz_132 : szB Tryz.prog 132 1 = true := by kernel_rfl
theorem ze_132 : bn Tryz.prog 132 = some (.pointer none) := by kernel_rfl
theorem sz_97 : szB Tryz.prog 97 1 = true := by kernel_rfl
theorem ze_97 : bn Tryz.prog 97 = some (.map none) := by kernel_rfl
theorem ar_100 : arrOf Tryz.prog 100 = some (61, 1) := by kernel_rfl
theorem pZ : szB Tryz.prog 3 1 = true := by kernel_rfl
theorem qb : md Tryz.prog 100 61 = true := by kernel_rfl
theorem qm : szB Tryz.prog 100 61 = true := by kernel_rfl
theorem qT : bn Tryz.prog 100 = some (.agg (encL cI (List.replicate 61 0)).toArray) := by kernel_rfl
theorem us_29 : Tryz.prog.underlying 29 = some (.slice 129) := by kernel_rfl
theorem sl_29 : oW Tryz.prog 29 = some (129, 2) := by kernel_rfl
theorem sA : md Tryz.prog 129 2 = true := by kernel_rfl
theorem sz_129 : szB Tryz.prog 129 2 = true := by kernel_rfl
theorem tb : qs Tryz.prog 31 [(0, 1), (1, 1), (2, 1)] = true := by kernel_rfl
theorem iX : bn Tryz.prog 31 = some (.agg #[.slice none 0 0, .int .i64 0, .int .i64 0]) := by kernel_rfl
theorem fo_131_3 : a7 Tryz.prog 131 3 = some 5 := by kernel_rfl
theorem sc_4 : scB Tryz.prog 4 = true := by kernel_rfl
theorem qd : a7 Tryz.prog 31 0 = some 0 := by kernel_rfl
theorem sc_29 : scB Tryz.prog 29 = true := by kernel_rfl
theorem fo_131_2 : a7 Tryz.prog 131 2 = some 3 := by kernel_rfl
theorem ag_131 : md Tryz.prog 131 6 = true := by kernel_rfl
theorem fo_131_1 : a7 Tryz.prog 131 1 = some 1 := by kernel_rfl
theorem sz_29 : szB Tryz.prog 29 1 = true := by kernel_rfl
theorem by_129 : eU Tryz.prog 129 (.agg #[.int .i64 0, .int .i64 0]) 2 16 = true := by kernel_rfl
theorem mc_129_1 : madeCells (.agg #[.int .i64 0, .int .i64 0] : Value).cells (1 * 2) = #[.int .i64 0, .int .i64 0] := by kernel_rfl
theorem nQ : md Tryz.prog 31 3 = true := by kernel_rfl
theorem jB : szB Tryz.prog 31 3 = true := by kernel_rfl
theorem go_115 : bA Tryz.prog 115 = true := by kernel_rfl
theorem ua_100 : Tryz.prog.underlying 100 = some (.array 61 3) := by kernel_rfl
theorem us_64 : Tryz.prog.underlying 64 = some (.slice 31) := by kernel_rfl
theorem by_31 : eU Tryz.prog 31 (.agg #[.slice none 0 0, .int .i64 0, .int .i64 0]) 3 40 = true := by kernel_rfl
theorem mc_31_1 : madeCells (.agg #[.slice none 0 0, .int .i64 0, .int .i64 0] : Value).cells (1 * 3) = #[.slice none 0 0, .int .i64 0, .int .i64 0] := by kernel_rfl
theorem go_80 : bA Tryz.prog 80 = true := by kernel_rfl
theorem go_49 : bA Tryz.prog 49 = true := by kernel_rfl
theorem go_48 : bA Tryz.prog 48 = true := by kernel_rfl
theorem sl_64 : oW Tryz.prog 64 = some (31, 3) := by kernel_rfl
theorem qj : a7 Tryz.prog 31 2 = some 2 := by kernel_rfl
theorem go_51 : bA Tryz.prog 51 = true := by kernel_rfl
theorem go_29 : bA Tryz.prog 29 = true := by kernel_rfl
theorem go_30 : bA Tryz.prog 30 = true := by kernel_rfl
theorem nH : eU Tryz.prog 39 (.agg #[.int .i64 0, .int .i64 0, .int .i64 0, .int .i64 0, .int .i64 0, .slice none 0 0]) 6 64 = true := by kernel_rfl
theorem qG : bA Tryz.prog 117 = true := by kernel_rfl
theorem d9 : oW Tryz.prog 40 = some (3, 1) := by kernel_rfl
theorem go_107 : bA Tryz.prog 107 = true := by kernel_rfl
theorem us_s9 : Tryz.prog.underlying 9 = some .string := by kernel_rfl
theorem ui_3 : Tryz.prog.underlying 3 = some (.int .i64) := by kernel_rfl
theorem ui_5 : Tryz.prog.underlying 5 = some (.int .u8) := by kernel_rfl
theorem ui_169 : Tryz.prog.underlying 169 = some (.int .u64) := by kernel_rfl
theorem go_111 : bA Tryz.prog 111 = true := by kernel_rfl
theorem ui_125 : Tryz.prog.underlying 125 = some (.int .u64) := by kernel_rfl
theorem go_74 : bA Tryz.prog 74 = true := by kernel_rfl
theorem go_101 : bA Tryz.prog 101 = true := by kernel_rfl
theorem dH : Tryz.prog.underlying 40 = some (.slice 3) := by kernel_rfl
theorem go_73 : bA Tryz.prog 73 = true := by kernel_rfl
theorem go_33 : bA Tryz.prog 33 = true := by kernel_rfl
theorem go_36 : bA Tryz.prog 36 = true := by kernel_rfl
theorem lw : qs Tryz.prog 24 [(0, 1), (1, 1)] = true := by kernel_rfl
theorem jN : bn Tryz.prog 24 = some (.agg #[.int .i64 0, .slice none 0 0]) := by kernel_rfl
theorem mm : szB Tryz.prog 24 2 = true := by kernel_rfl
theorem fa : a7 Tryz.prog 31 1 = some 1 := by kernel_rfl
theorem lX : bn Tryz.prog 3 = some (.int .i64 0) := by kernel_rfl
theorem oK : eU Tryz.prog 3 (.int .i64 0) 1 8 = true := by kernel_rfl
theorem m7 : madeCells (.int .i64 0 : Value).cells (1 * 1) = #[.int .i64 0] := by kernel_rfl
theorem go_37 : bA Tryz.prog 37 = true := by kernel_rfl
theorem go_7 : bA Tryz.prog 7 = true := by kernel_rfl
theorem qO : qs Tryz.prog 39 [(0, 1), (1, 1), (2, 1), (3, 1), (4, 1), (5, 1)] = true := by kernel_rfl
theorem qW : qs Tryz.prog 26 [(0, 1), (1, 1)] = true := by kernel_rfl
theorem mc_39_4 : madeCells (.agg #[.int .i64 0, .int .i64 0, .int .i64 0, .int .i64 0, .int .i64 0, .slice none 0 0] : Value).cells (4 * 6) = #[.int .i64 0, .int .i64 0, .int .i64 0, .int .i64 0, .int .i64 0, .slice none 0 0, .int .i64 0, .int .i64 0, .int .i64 0, .int .i64 0, .int .i64 0, .slice none 0 0, .int .i64 0, .int .i64 0, .int .i64 0, .int .i64 0, .int .i64 0, .slice none 0 0, .int .i64 0, .int .i64 0, .int .i64 0, .int .i64 0, .int .i64 0, .slice none 0 0] := by kernel_rfl
theorem qv : madeCells (.agg #[.int .i64 0, .int .i64 0] : Value).cells (1 * 2) = #[.int .i64 0, .int .i64 0] := by kernel_rfl
theorem qg : eU Tryz.prog 26 (.agg #[.int .i64 0, .int .i64 0]) 2 16 = true := by kernel_rfl
theorem ust_94 : qs Tryz.prog 94 [(0, 1), (1, 1), (2, 1)] = true := by kernel_rfl
theorem nP : bn Tryz.prog 94 = some (.agg #[.int .i64 0, .int .i64 0, .int .i64 0]) := by kernel_rfl
theorem sh : qs Tryz.prog 96 [(0, 1), (1, 2), (3, 1), (4, 1)] = true := by kernel_rfl
theorem nF : bn Tryz.prog 96 = some (.agg #[.int .i64 0, .int .i64 0, .int .i64 0, .int .i64 0, .int .i64 0]) := by kernel_rfl
theorem tk : qs Tryz.prog 57 [(0, 1), (1, 1)] = true := by kernel_rfl
theorem qB : bn Tryz.prog 57 = some (.agg #[.slice none 0 0, .slice none 0 0]) := by kernel_rfl
theorem dp : md Tryz.prog 57 2 = true := by kernel_rfl
theorem sz_57 : szB Tryz.prog 57 2 = true := by kernel_rfl
theorem mc_96_3 : madeCells (.agg #[.int .i64 0, .int .i64 0, .int .i64 0, .int .i64 0, .int .i64 0] : Value).cells (3 * 5) = #[.int .i64 0, .int .i64 0, .int .i64 0, .int .i64 0, .int .i64 0, .int .i64 0, .int .i64 0, .int .i64 0, .int .i64 0, .int .i64 0, .int .i64 0, .int .i64 0, .int .i64 0, .int .i64 0, .int .i64 0] := by kernel_rfl
theorem kz : Tryz.prog.underlying 55 = some (.slice 96) := by kernel_rfl
theorem by_96 : eU Tryz.prog 96 (.agg #[.int .i64 0, .int .i64 0, .int .i64 0, .int .i64 0, .int .i64 0]) 5 40 = true := by kernel_rfl
theorem mc_94_2 : madeCells (.agg #[.int .i64 0, .int .i64 0, .int .i64 0] : Value).cells (2 * 3) = #[.int .i64 0, .int .i64 0, .int .i64 0, .int .i64 0, .int .i64 0, .int .i64 0] := by kernel_rfl
theorem jt : Tryz.prog.underlying 54 = some (.slice 94) := by kernel_rfl
theorem by_94 : eU Tryz.prog 94 (.agg #[.int .i64 0, .int .i64 0, .int .i64 0]) 3 24 = true := by kernel_rfl
theorem ust_61 : qs Tryz.prog 61 [(0, 1)] = true := by kernel_rfl
theorem ze_61 : bn Tryz.prog 61 = some (.agg #[.slice none 0 0]) := by kernel_rfl
theorem ag_61 : md Tryz.prog 61 1 = true := by kernel_rfl
theorem sz_61 : szB Tryz.prog 61 1 = true := by kernel_rfl
theorem kD : a7 Tryz.prog 61 0 = some 0 := by kernel_rfl
theorem rp : scB Tryz.prog 59 = true := by kernel_rfl
theorem go_50 : bA Tryz.prog 50 = true := by kernel_rfl
theorem mc_40_1 : madeCells (.slice none 0 0 : Value).cells (1 * 1) = #[.slice none 0 0] := by kernel_rfl
theorem us_59 : Tryz.prog.underlying 59 = some (.slice 40) := by kernel_rfl
theorem ze_40 : bn Tryz.prog 40 = some (.slice none 0 0) := by kernel_rfl
theorem by_40 : eU Tryz.prog 40 (.slice none 0 0) 1 24 = true := by kernel_rfl
theorem sz_59 : szB Tryz.prog 59 1 = true := by kernel_rfl
theorem go_52 : bA Tryz.prog 52 = true := by kernel_rfl
theorem jW : oW Tryz.prog 55 = some (96, 5) := by kernel_rfl
theorem pP : md Tryz.prog 96 5 = true := by kernel_rfl
theorem go_120 : bA Tryz.prog 120 = true := by kernel_rfl
theorem jw : a7 Tryz.prog 96 0 = some 0 := by kernel_rfl
theorem cm : a7 Tryz.prog 57 1 = some 1 := by kernel_rfl
theorem gq : scB Tryz.prog 55 = true := by kernel_rfl
theorem go_89 : bA Tryz.prog 89 = true := by kernel_rfl
theorem go_88 : bA Tryz.prog 88 = true := by kernel_rfl
theorem lL : oW Tryz.prog 54 = some (94, 3) := by kernel_rfl
theorem tI : md Tryz.prog 94 3 = true := by kernel_rfl
theorem go_121 : bA Tryz.prog 121 = true := by kernel_rfl
theorem jA : a7 Tryz.prog 94 0 = some 0 := by kernel_rfl
theorem ei : a7 Tryz.prog 57 0 = some 0 := by kernel_rfl
theorem jY : scB Tryz.prog 54 = true := by kernel_rfl
theorem go_94 : bA Tryz.prog 94 = true := by kernel_rfl
theorem go_93 : bA Tryz.prog 93 = true := by kernel_rfl
theorem oI : a7 Tryz.prog 94 1 = some 1 := by kernel_rfl
theorem oU : a7 Tryz.prog 94 2 = some 2 := by kernel_rfl
theorem go_64 : bA Tryz.prog 64 = true := by kernel_rfl
theorem sz_94 : szB Tryz.prog 94 3 = true := by kernel_rfl
theorem gB : a7 Tryz.prog 96 1 = some 1 := by kernel_rfl
theorem o8 : a7 Tryz.prog 96 2 = some 3 := by kernel_rfl
theorem iH : a7 Tryz.prog 96 3 = some 4 := by kernel_rfl
theorem go_60 : bA Tryz.prog 60 = true := by kernel_rfl
theorem sz_96 : szB Tryz.prog 96 5 = true := by kernel_rfl
theorem go_135 : bA Tryz.prog 135 = true := by kernel_rfl
theorem go_116 : bA Tryz.prog 116 = true := by kernel_rfl
theorem go_84 : bA Tryz.prog 84 = true := by kernel_rfl
theorem sc_179 : scB Tryz.prog 179 = true := by kernel_rfl
theorem um_179 : Tryz.prog.underlying 179 = some (.map 3 4) := by kernel_rfl
theorem ze_4 : bn Tryz.prog 4 = some (.bool false) := by kernel_rfl
theorem go_119 : bA Tryz.prog 119 = true := by kernel_rfl
theorem rn : scB Tryz.prog 107 = true := by kernel_rfl
theorem pm : Tryz.prog.underlying 107 = some (.map 3 3) := by kernel_rfl
theorem sc_81 : scB Tryz.prog 81 = true := by kernel_rfl
theorem go_118 : bA Tryz.prog 118 = true := by kernel_rfl
theorem sz_81 : szB Tryz.prog 81 1 = true := by kernel_rfl
theorem ze_81 : bn Tryz.prog 81 = some (.nilFunc) := by kernel_rfl
theorem sz_179 : szB Tryz.prog 179 1 = true := by kernel_rfl
theorem ze_179 : bn Tryz.prog 179 = some (.map none) := by kernel_rfl
theorem go_83 : bA Tryz.prog 83 = true := by kernel_rfl
theorem go_85 : bA Tryz.prog 85 = true := by kernel_rfl
theorem go_82 : bA Tryz.prog 82 = true := by kernel_rfl
theorem go_81 : bA Tryz.prog 81 = true := by kernel_rfl
theorem go_55 : bA Tryz.prog 55 = true := by kernel_rfl
theorem go_96 : bA Tryz.prog 96 = true := by kernel_rfl
theorem go_95 : bA Tryz.prog 95 = true := by kernel_rfl
theorem ust_70 : qs Tryz.prog 70 [(0, 1), (1, 1), (2, 1)] = true := by kernel_rfl
theorem rB : bn Tryz.prog 70 = some (.agg #[.slice none 0 0, .int .i64 0, .slice none 0 0]) := by kernel_rfl
theorem sC : szB Tryz.prog 70 3 = true := by kernel_rfl
theorem sN : a7 Tryz.prog 70 0 = some 0 := by kernel_rfl
theorem pk : scB Tryz.prog 40 = true := by kernel_rfl
theorem qq : a7 Tryz.prog 70 2 = some 2 := by kernel_rfl
theorem oT : a7 Tryz.prog 70 1 = some 1 := by kernel_rfl
theorem go_65 : bA Tryz.prog 65 = true := by kernel_rfl
theorem rO : bA Tryz.prog 56 = true := by kernel_rfl
theorem sz_40 : szB Tryz.prog 40 1 = true := by kernel_rfl
theorem su : md Tryz.prog 70 3 = true := by kernel_rfl
theorem sK : bA Tryz.prog 53 = true := by kernel_rfl
theorem go_54 : bA Tryz.prog 54 = true := by kernel_rfl
theorem go_87 : bA Tryz.prog 87 = true := by kernel_rfl
theorem go_86 : bA Tryz.prog 86 = true := by kernel_rfl
theorem go_58 : bA Tryz.prog 58 = true := by kernel_rfl
theorem go_59 : bA Tryz.prog 59 = true := by kernel_rfl
theorem go_57 : bA Tryz.prog 57 = true := by kernel_rfl
theorem go_91 : bA Tryz.prog 91 = true := by kernel_rfl
theorem go_92 : bA Tryz.prog 92 = true := by kernel_rfl
theorem go_90 : bA Tryz.prog 90 = true := by kernel_rfl
theorem sz_107 : szB Tryz.prog 107 1 = true := by kernel_rfl
theorem ze_107 : bn Tryz.prog 107 = some (.map none) := by kernel_rfl
theorem go_61 : bA Tryz.prog 61 = true := by kernel_rfl
theorem go_63 : bA Tryz.prog 63 = true := by kernel_rfl
theorem go_62 : bA Tryz.prog 62 = true := by kernel_rfl
theorem pK : bA Tryz.prog 75 = true := by kernel_rfl
theorem go_41 : bA Tryz.prog 41 = true := by kernel_rfl
theorem go_97 : bA Tryz.prog 97 = true := by kernel_rfl
theorem go_98 : bA Tryz.prog 98 = true := by kernel_rfl
theorem go_66 : bA Tryz.prog 66 = true := by kernel_rfl
theorem go_67 : bA Tryz.prog 67 = true := by kernel_rfl
theorem go_68 : bA Tryz.prog 68 = true := by kernel_rfl
theorem go_11 : bA Tryz.prog 11 = true := by kernel_rfl
theorem go_21 : bA Tryz.prog 21 = true := by kernel_rfl
theorem sl_59 : oW Tryz.prog 59 = some (40, 1) := by kernel_rfl
theorem go_22 : bA Tryz.prog 22 = true := by kernel_rfl
theorem sv : madeCells (.int .i64 0 : Value).cells (2 * 1) = #[.int .i64 0, .int .i64 0] := by kernel_rfl
theorem go_27 : bA Tryz.prog 27 = true := by kernel_rfl
theorem go_28 : bA Tryz.prog 28 = true := by kernel_rfl
theorem go_26 : bA Tryz.prog 26 = true := by kernel_rfl
theorem mc_3_3 : madeCells (.int .i64 0 : Value).cells (3 * 1) = #[.int .i64 0, .int .i64 0, .int .i64 0] := by kernel_rfl
theorem go_25 : bA Tryz.prog 25 = true := by kernel_rfl
theorem go_24 : bA Tryz.prog 24 = true := by kernel_rfl
theorem go_23 : bA Tryz.prog 23 = true := by kernel_rfl
theorem go_9 : bA Tryz.prog 9 = true := by kernel_rfl
theorem go_20 : bA Tryz.prog 20 = true := by kernel_rfl
theorem go_19 : bA Tryz.prog 19 = true := by kernel_rfl
theorem go_18 : bA Tryz.prog 18 = true := by kernel_rfl
theorem go_17 : bA Tryz.prog 17 = true := by kernel_rfl
theorem go_122 : bA Tryz.prog 122 = true := by kernel_rfl
theorem go_100 : bA Tryz.prog 100 = true := by kernel_rfl
theorem go_34 : bA Tryz.prog 34 = true := by kernel_rfl
theorem go_72 : bA Tryz.prog 72 = true := by kernel_rfl
theorem go_71 : bA Tryz.prog 71 = true := by kernel_rfl
theorem sz_37 : szB Tryz.prog 37 1 = true := by kernel_rfl
theorem go_35 : bA Tryz.prog 35 = true := by kernel_rfl
theorem go_5 : bA Tryz.prog 5 = true := by kernel_rfl
theorem go_6 : bA Tryz.prog 6 = true := by kernel_rfl
theorem go_8 : bA Tryz.prog 8 = true := by kernel_rfl
theorem go_10 : bA Tryz.prog 10 = true := by kernel_rfl
theorem ub_4 : Tryz.prog.underlying 4 = some .bool := by kernel_rfl
theorem kf_127 : fldsB Tryz.prog 127 [(0, 1, 3), (1, 1, 3)] = true := by kernel_rfl
theorem kl_127 : laidOutB Tryz.prog = true := by kernel_rfl
theorem kw_127 : (match Tryz.prog.underlying 127 with | some (.array _ _) | some (.struct _) => true | _ => false) = true := by kernel_rfl
theorem lZ : KeyE Tryz.prog 127 cq aO where
  keyed := .of_law (deep_law_laid kl_127 (m := 6) (by omega) (of_decide_eq_true (by kernel_rfl)) (by kernel_rfl) kw_127)
  tot := fun x h => by
    unfold aO at h
    simp only [Bool.and_eq_true] at h
    obtain ⟨h0, h1⟩ := h
    exact keyS_2 (of_decide_eq_true (by kernel_rfl)) kf_127 ui_3 ui_3 (qa h0) (qa h1)
  inj := fun x y h => by
    cases x; cases y
    simp only [cq] at h
    simp_all
theorem ke_3 : KeyE Tryz.prog 3 kI dW := keyE_int ui_3
end Go.Proofs.YthndghnkebboaabGreat
