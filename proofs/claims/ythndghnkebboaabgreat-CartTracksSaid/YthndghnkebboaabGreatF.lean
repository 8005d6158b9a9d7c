import Derived.Test.YthndghnkebboaabGreatGD
import Derived.Test.YthndghnkebboaabGreatGz
import Derived.Test.YthndghnkebboaabGreatP
import Derived.Test.YthndghnkebboaabGreatProg
set_option maxRecDepth 20000
set_option linter.unusedVariables false
namespace Go.Proofs.YthndghnkebboaabGreat
def TSpan_cells (x : TSpan) : List Value := [.int .i64 x.fLo, .int .i64 x.fHi]
theorem ab (x : TSpan) : (TSpan_cells x).length = 2 := rfl
theorem cN (x : TSpan) : ((TSpan_cells x).all (·.oneCell')) = true := rfl
def ay (x : Twait) : List Value := [.int .i64 x.f_at, .int .i64 x.f_stop.f_place, .int .i64 x.f_stop.f_toll]
theorem aP (x : Twait) : (ay x).length = 3 := rfl
theorem na (x : Twait) : ((ay x).all (·.oneCell')) = true := rfl
def bz (x : TLeg) : List Value := [.int .i64 x.fTrack, .int .i64 x.fHour]
theorem bN (x : TLeg) : (bz x).length = 2 := rfl
theorem nG (x : TLeg) : ((bz x).all (·.oneCell')) = true := rfl
def aA (x : TO) : List Value := [.int .i64 x.fID, .int .i64 x.fH.fLo, .int .i64 x.fH.fHi, .int .i64 x.fD, .int .i64 x.fW]
theorem au (x : TO) : (aA x).length = 5 := rfl
theorem mu (x : TO) : ((aA x).all (·.oneCell')) = true := rfl
def aD (x : TBay) : List Value := [.int .i64 x.fID, .int .i64 x.fHour, .int .i64 x.fD]
theorem aK (x : TBay) : (aD x).length = 3 := rfl
theorem ky (x : TBay) : ((aD x).all (·.oneCell')) = true := rfl
def TTrack_cells2 (p : Hd × TT) : List Value := [.int .i64 p.2.fID, .int .i64 p.2.fFrom, .int .i64 p.2.fTo, .int .i64 p.2.fLong, .int .i64 p.2.fToll, .slice p.1.1 p.1.2.1 p.1.2.2]
theorem ak (p : Hd × TT) : (TTrack_cells2 p).length = 6 := rfl
theorem en (p : Hd × TT) : ((TTrack_cells2 p).all (·.oneCell')) = true := rfl
theorem bU {p : Hd × TT} {z : TT} {k : Nat} (hs : p.2 = z) (hl : p.1.2.1 = k) : TTrack_cells2 p = [.int .i64 z.fID, .int .i64 z.fFrom, .int .i64 z.fTo, .int .i64 z.fLong, .int .i64 z.fToll, .slice p.1.1 k p.1.2.2] := by subst hs hl; rfl
def cj (p : Hd × TJ) : List Value := [.slice p.1.1 p.1.2.1 p.1.2.2, .int .i64 p.2.fA, .int .i64 p.2.fToll]
theorem be (p : Hd × TJ) : (cj p).length = 3 := rfl
theorem kH (p : Hd × TJ) : ((cj p).all (·.oneCell')) = true := rfl
theorem lA {p : Hd × TJ} {z : TJ} {k : Nat} (hs : p.2 = z) (hl : p.1.2.1 = k) : cj p = [.slice p.1.1 k p.1.2.2, .int .i64 z.fA, .int .i64 z.fToll] := by subst hs hl; rfl
def dB (p : Hd × (List Int)) : List Value := [.slice p.1.1 p.1.2.1 p.1.2.2]
theorem bC (p : Hd × (List Int)) : (dB p).length = 1 := rfl
theorem mo (p : Hd × (List Int)) : ((dB p).all (·.oneCell')) = true := rfl
def cl (x : Ts) : Value := .agg #[.int .i64 x.f_place, .int .i64 x.f_toll]
def bY (x : Tl) : Value := .agg #[.int .i64 x.f_at, .int .i64 x.f_from.f_place, .int .i64 x.f_from.f_toll, .int .i64 x.f_leg.fTrack, .int .i64 x.f_leg.fHour, .bool x.f_begin]
theorem bu : aY Tryz.prog 24 1 = some 1 := by kernel_rfl
theorem ee : scB Tryz.prog 22 = true := by kernel_rfl
theorem fq : Tryz.prog.underlying 22 = some (.slice 39) := by kernel_rfl
theorem im : oU Tryz.prog 22 = some (39, 6) := by kernel_rfl
theorem cg : aY Tryz.prog 39 5 = some 5 := by kernel_rfl
theorem io : scB Tryz.prog 37 = true := by kernel_rfl
theorem eg : Tryz.prog.underlying 37 = some (.slice 26) := by kernel_rfl
theorem eE : aY Tryz.prog 24 0 = some 0 := by kernel_rfl
theorem aV : scB Tryz.prog 3 = true := by kernel_rfl
theorem jJ : l4 Tryz.prog 39 6 = true := by kernel_rfl
theorem go_99 : bx Tryz.prog 99 = true := by kernel_rfl
theorem ii : aY Tryz.prog 39 0 = some 0 := by kernel_rfl
theorem go_70 : bx Tryz.prog 70 = true := by kernel_rfl
theorem go_69 : bx Tryz.prog 69 = true := by kernel_rfl
theorem fc : oU Tryz.prog 37 = some (26, 2) := by kernel_rfl
theorem jv : l4 Tryz.prog 26 2 = true := by kernel_rfl
theorem co : aY Tryz.prog 26 0 = some 0 := by kernel_rfl
theorem bL : aY Tryz.prog 26 1 = some 1 := by kernel_rfl
theorem ro : szB Tryz.prog 26 2 = true := by kernel_rfl
theorem ij : bo Tryz.prog 26 = some (.agg #[.int .i64 0, .int .i64 0]) := by kernel_rfl
theorem ko : bx Tryz.prog 45 = true := by kernel_rfl
theorem kR : aY Tryz.prog 39 1 = some 1 := by kernel_rfl
theorem go_46 : bx Tryz.prog 46 = true := by kernel_rfl
theorem kM : aY Tryz.prog 39 2 = some 2 := by kernel_rfl
theorem j5 : aY Tryz.prog 39 3 = some 3 := by kernel_rfl
theorem mP : aY Tryz.prog 39 4 = some 4 := by kernel_rfl
theorem go_38 : bx Tryz.prog 38 = true := by kernel_rfl
theorem dl : l4 Tryz.prog 24 2 = true := by kernel_rfl
theorem go_31 : bx Tryz.prog 31 = true := by kernel_rfl
theorem qh : szB Tryz.prog 39 6 = true := by kernel_rfl
theorem iK : bo Tryz.prog 39 = some (.agg #[.int .i64 0, .int .i64 0, .int .i64 0, .int .i64 0, .int .i64 0, .slice none 0 0]) := by kernel_rfl
theorem go_14 : bx Tryz.prog 14 = true := by kernel_rfl
theorem oM : bx Tryz.prog 32 = true := by kernel_rfl
theorem nZ : Tryz.prog.underlying 136 = some (.slice 134) := by kernel_rfl
theorem mf : oU Tryz.prog 136 = some (134, 3) := by kernel_rfl
theorem mI : aY Tryz.prog 134 0 = some 0 := by kernel_rfl
theorem cm : Tryz.prog.follows .mixedOrders = true := by kernel_rfl
theorem qG : l4 Tryz.prog 134 3 = true := by kernel_rfl
theorem q6 : szB Tryz.prog 134 3 = true := by kernel_rfl
theorem iZ : kX Tryz.prog 132 "Less" = some (160, false) := by kernel_rfl
theorem jn : Tryz.prog.underlying 132 = some (.pointer 136) := by kernel_rfl
theorem iT : scB Tryz.prog 136 = true := by kernel_rfl
theorem qX : bx Tryz.prog 160 = true := by kernel_rfl
theorem i6 : kX Tryz.prog 132 "Swap" = some (163, false) := by kernel_rfl
theorem l7 : bx Tryz.prog 163 = true := by kernel_rfl
theorem pq : rk Tryz.prog 134 = true := by kernel_rfl
theorem sz_136 : szB Tryz.prog 136 1 = true := by kernel_rfl
theorem nx : bo Tryz.prog 134 = some (.agg #[.int .i64 0, .int .i64 0, .int .i64 0]) := by kernel_rfl
theorem oy : kX Tryz.prog 132 "Len" = some (76, false) := by kernel_rfl
theorem go_76 : bx Tryz.prog 76 = true := by kernel_rfl
theorem rA : kX Tryz.prog 132 "Pop" = some (161, true) := by kernel_rfl
theorem go_161 : bx Tryz.prog 161 = true := by kernel_rfl
theorem go_112 : bx Tryz.prog 112 = true := by kernel_rfl
theorem qA : madeCells (.agg #[.int .i64 0, .int .i64 0, .int .i64 0] : Value).cells (1 * 3) = #[.int .i64 0, .int .i64 0, .int .i64 0] := by kernel_rfl
theorem tb : eJ Tryz.prog 134 (.agg #[.int .i64 0, .int .i64 0, .int .i64 0]) 3 24 = true := by kernel_rfl
theorem p9 : kX Tryz.prog 132 "Push" = some (162, true) := by kernel_rfl
theorem go_162 : bx Tryz.prog 162 = true := by kernel_rfl
theorem go_114 : bx Tryz.prog 114 = true := by kernel_rfl
theorem mN : p5 Tryz.prog 127 [(0, 1), (1, 1)] = true := by kernel_rfl
theorem od : bo Tryz.prog 127 = some (.agg #[.int .i64 0, .int .i64 0]) := by kernel_rfl
theorem rF : p5 Tryz.prog 131 [(0, 1), (1, 2), (3, 2), (5, 1)] = true := by kernel_rfl
theorem jk : bo Tryz.prog 131 = some (.agg #[.int .i64 0, .int .i64 0, .int .i64 0, .int .i64 0, .int .i64 0, .bool false]) := by kernel_rfl
theorem sH : p5 Tryz.prog 134 [(0, 1), (1, 2)] = true := by kernel_rfl
theorem rW : scB Tryz.prog 132 = true := by kernel_rfl
theorem sV : rk Tryz.prog 132 = true := by kernel_rfl
theorem sc_97 : scB Tryz.prog 97 = true := by kernel_rfl
theorem mA : aY Tryz.prog 134 1 = some 1 := by kernel_rfl
theorem ma : l4 Tryz.prog 127 2 = true := by kernel_rfl
theorem py : Tryz.prog.underlying 97 = some (.map 127 131) := by kernel_rfl
theorem qN : fldT Tryz.prog 131 0 = some (3, 0) := by kernel_rfl
theorem fo_127_0 : aY Tryz.prog 127 0 = some 0 := by kernel_rfl
theorem go_39 : bx Tryz.prog 39 = true := by kernel_rfl
theorem oz : aY Tryz.prog 127 1 = some 1 := by kernel_rfl
theorem oR : aY Tryz.prog 131 0 = some 0 := by kernel_rfl
theorem ust_129 : p5 Tryz.prog 129 [(0, 1), (1, 1)] = true := by kernel_rfl
theorem sn : bo Tryz.prog 129 = some (.agg #[.int .i64 0, .int .i64 0]) := by kernel_rfl
theorem go_79 : bx Tryz.prog 79 = true := by kernel_rfl
theorem pJ : szB Tryz.prog 131 6 = true := by kernel_rfl
theorem sz_127 : szB Tryz.prog 127 2 = true := by kernel_rfl
theorem go_113 : bx Tryz.prog 113 = true := by kernel_rfl
theorem go_78 : bx Tryz.prog 78 = true := by kernel_rfl
theorem go_77 : bx Tryz.prog 77 = true := by kernel_rfl
theorem sz_132 : szB Tryz.prog 132 1 = true := by kernel_rfl
theorem ze_132 : bo Tryz.prog 132 = some (.pointer none) := by kernel_rfl
theorem sz_97 : szB Tryz.prog 97 1 = true := by kernel_rfl
theorem ze_97 : bo Tryz.prog 97 = some (.map none) := by kernel_rfl
theorem ar_100 : arrOf Tryz.prog 100 = some (61, 1) := by kernel_rfl
theorem p6 : szB Tryz.prog 3 1 = true := by kernel_rfl
theorem qm : l4 Tryz.prog 100 61 = true := by kernel_rfl
theorem qp : szB Tryz.prog 100 61 = true := by kernel_rfl
theorem qE : bo Tryz.prog 100 = some (.agg (encL cI (List.replicate 61 0)).toArray) := by kernel_rfl
theorem us_29 : Tryz.prog.underlying 29 = some (.slice 129) := by kernel_rfl
theorem sl_29 : oU Tryz.prog 29 = some (129, 2) := by kernel_rfl
theorem rM : l4 Tryz.prog 129 2 = true := by kernel_rfl
theorem sz_129 : szB Tryz.prog 129 2 = true := by kernel_rfl
theorem rR : p5 Tryz.prog 31 [(0, 1), (1, 1), (2, 1)] = true := by kernel_rfl
theorem kq : bo Tryz.prog 31 = some (.agg #[.slice none 0 0, .int .i64 0, .int .i64 0]) := by kernel_rfl
theorem fo_131_3 : aY Tryz.prog 131 3 = some 5 := by kernel_rfl
theorem sc_4 : scB Tryz.prog 4 = true := by kernel_rfl
theorem qi : aY Tryz.prog 31 0 = some 0 := by kernel_rfl
theorem sc_29 : scB Tryz.prog 29 = true := by kernel_rfl
theorem fo_131_2 : aY Tryz.prog 131 2 = some 3 := by kernel_rfl
theorem ag_131 : l4 Tryz.prog 131 6 = true := by kernel_rfl
theorem fo_131_1 : aY Tryz.prog 131 1 = some 1 := by kernel_rfl
theorem sz_29 : szB Tryz.prog 29 1 = true := by kernel_rfl
theorem by_129 : eJ Tryz.prog 129 (.agg #[.int .i64 0, .int .i64 0]) 2 16 = true := by kernel_rfl
theorem mc_129_1 : madeCells (.agg #[.int .i64 0, .int .i64 0] : Value).cells (1 * 2) = #[.int .i64 0, .int .i64 0] := by kernel_rfl
theorem nM : l4 Tryz.prog 31 3 = true := by kernel_rfl
theorem lY : szB Tryz.prog 31 3 = true := by kernel_rfl
theorem go_115 : bx Tryz.prog 115 = true := by kernel_rfl
theorem ua_100 : Tryz.prog.underlying 100 = some (.array 61 3) := by kernel_rfl
theorem us_64 : Tryz.prog.underlying 64 = some (.slice 31) := by kernel_rfl
theorem by_31 : eJ Tryz.prog 31 (.agg #[.slice none 0 0, .int .i64 0, .int .i64 0]) 3 40 = true := by kernel_rfl
theorem mc_31_1 : madeCells (.agg #[.slice none 0 0, .int .i64 0, .int .i64 0] : Value).cells (1 * 3) = #[.slice none 0 0, .int .i64 0, .int .i64 0] := by kernel_rfl
theorem go_80 : bx Tryz.prog 80 = true := by kernel_rfl
theorem go_49 : bx Tryz.prog 49 = true := by kernel_rfl
theorem go_48 : bx Tryz.prog 48 = true := by kernel_rfl
theorem sl_64 : oU Tryz.prog 64 = some (31, 3) := by kernel_rfl
theorem qf : aY Tryz.prog 31 2 = some 2 := by kernel_rfl
theorem go_51 : bx Tryz.prog 51 = true := by kernel_rfl
theorem go_29 : bx Tryz.prog 29 = true := by kernel_rfl
theorem go_30 : bx Tryz.prog 30 = true := by kernel_rfl
theorem pR : eJ Tryz.prog 39 (.agg #[.int .i64 0, .int .i64 0, .int .i64 0, .int .i64 0, .int .i64 0, .slice none 0 0]) 6 64 = true := by kernel_rfl
theorem qH : bx Tryz.prog 117 = true := by kernel_rfl
theorem d7 : oU Tryz.prog 40 = some (3, 1) := by kernel_rfl
theorem go_107 : bx Tryz.prog 107 = true := by kernel_rfl
theorem us_s9 : Tryz.prog.underlying 9 = some .string := by kernel_rfl
theorem ui_3 : Tryz.prog.underlying 3 = some (.int .i64) := by kernel_rfl
theorem ui_5 : Tryz.prog.underlying 5 = some (.int .u8) := by kernel_rfl
theorem ui_169 : Tryz.prog.underlying 169 = some (.int .u64) := by kernel_rfl
theorem go_111 : bx Tryz.prog 111 = true := by kernel_rfl
theorem ui_125 : Tryz.prog.underlying 125 = some (.int .u64) := by kernel_rfl
theorem go_74 : bx Tryz.prog 74 = true := by kernel_rfl
theorem go_101 : bx Tryz.prog 101 = true := by kernel_rfl
theorem dH : Tryz.prog.underlying 40 = some (.slice 3) := by kernel_rfl
theorem go_73 : bx Tryz.prog 73 = true := by kernel_rfl
theorem go_33 : bx Tryz.prog 33 = true := by kernel_rfl
theorem go_36 : bx Tryz.prog 36 = true := by kernel_rfl
theorem me : p5 Tryz.prog 24 [(0, 1), (1, 1)] = true := by kernel_rfl
theorem kQ : bo Tryz.prog 24 = some (.agg #[.int .i64 0, .slice none 0 0]) := by kernel_rfl
theorem nu : szB Tryz.prog 24 2 = true := by kernel_rfl
theorem mS : aY Tryz.prog 31 1 = some 1 := by kernel_rfl
theorem l5 : bo Tryz.prog 3 = some (.int .i64 0) := by kernel_rfl
theorem pn : eJ Tryz.prog 3 (.int .i64 0) 1 8 = true := by kernel_rfl
theorem nF : madeCells (.int .i64 0 : Value).cells (1 * 1) = #[.int .i64 0] := by kernel_rfl
theorem go_37 : bx Tryz.prog 37 = true := by kernel_rfl
theorem go_7 : bx Tryz.prog 7 = true := by kernel_rfl
theorem qw : p5 Tryz.prog 39 [(0, 1), (1, 1), (2, 1), (3, 1), (4, 1), (5, 1)] = true := by kernel_rfl
theorem px : p5 Tryz.prog 26 [(0, 1), (1, 1)] = true := by kernel_rfl
theorem mc_39_4 : madeCells (.agg #[.int .i64 0, .int .i64 0, .int .i64 0, .int .i64 0, .int .i64 0, .slice none 0 0] : Value).cells (4 * 6) = #[.int .i64 0, .int .i64 0, .int .i64 0, .int .i64 0, .int .i64 0, .slice none 0 0, .int .i64 0, .int .i64 0, .int .i64 0, .int .i64 0, .int .i64 0, .slice none 0 0, .int .i64 0, .int .i64 0, .int .i64 0, .int .i64 0, .int .i64 0, .slice none 0 0, .int .i64 0, .int .i64 0, .int .i64 0, .int .i64 0, .int .i64 0, .slice none 0 0] := by kernel_rfl
theorem l1 : madeCells (.agg #[.int .i64 0, .int .i64 0] : Value).cells (1 * 2) = #[.int .i64 0, .int .i64 0] := by kernel_rfl
theorem kP : eJ Tryz.prog 26 (.agg #[.int .i64 0, .int .i64 0]) 2 16 = true := by kernel_rfl
theorem ust_94 : p5 Tryz.prog 94 [(0, 1), (1, 1), (2, 1)] = true := by kernel_rfl
theorem nL : bo Tryz.prog 94 = some (.agg #[.int .i64 0, .int .i64 0, .int .i64 0]) := by kernel_rfl
theorem rK : p5 Tryz.prog 96 [(0, 1), (1, 2), (3, 1), (4, 1)] = true := by kernel_rfl
theorem nJ : bo Tryz.prog 96 = some (.agg #[.int .i64 0, .int .i64 0, .int .i64 0, .int .i64 0, .int .i64 0]) := by kernel_rfl
theorem sO : p5 Tryz.prog 57 [(0, 1), (1, 1)] = true := by kernel_rfl
theorem qo : bo Tryz.prog 57 = some (.agg #[.slice none 0 0, .slice none 0 0]) := by kernel_rfl
theorem dc : l4 Tryz.prog 57 2 = true := by kernel_rfl
theorem sz_57 : szB Tryz.prog 57 2 = true := by kernel_rfl
theorem mc_96_3 : madeCells (.agg #[.int .i64 0, .int .i64 0, .int .i64 0, .int .i64 0, .int .i64 0] : Value).cells (3 * 5) = #[.int .i64 0, .int .i64 0, .int .i64 0, .int .i64 0, .int .i64 0, .int .i64 0, .int .i64 0, .int .i64 0, .int .i64 0, .int .i64 0, .int .i64 0, .int .i64 0, .int .i64 0, .int .i64 0, .int .i64 0] := by kernel_rfl
theorem kN : Tryz.prog.underlying 55 = some (.slice 96) := by kernel_rfl
theorem by_96 : eJ Tryz.prog 96 (.agg #[.int .i64 0, .int .i64 0, .int .i64 0, .int .i64 0, .int .i64 0]) 5 40 = true := by kernel_rfl
theorem mc_94_2 : madeCells (.agg #[.int .i64 0, .int .i64 0, .int .i64 0] : Value).cells (2 * 3) = #[.int .i64 0, .int .i64 0, .int .i64 0, .int .i64 0, .int .i64 0, .int .i64 0] := by kernel_rfl
theorem jr : Tryz.prog.underlying 54 = some (.slice 94) := by kernel_rfl
theorem by_94 : eJ Tryz.prog 94 (.agg #[.int .i64 0, .int .i64 0, .int .i64 0]) 3 24 = true := by kernel_rfl
theorem ust_61 : p5 Tryz.prog 61 [(0, 1)] = true := by kernel_rfl
theorem ze_61 : bo Tryz.prog 61 = some (.agg #[.slice none 0 0]) := by kernel_rfl
theorem ag_61 : l4 Tryz.prog 61 1 = true := by kernel_rfl
theorem sz_61 : szB Tryz.prog 61 1 = true := by kernel_rfl
theorem kD : aY Tryz.prog 61 0 = some 0 := by kernel_rfl
theorem q8 : scB Tryz.prog 59 = true := by kernel_rfl
theorem go_50 : bx Tryz.prog 50 = true := by kernel_rfl
theorem mc_40_1 : madeCells (.slice none 0 0 : Value).cells (1 * 1) = #[.slice none 0 0] := by kernel_rfl
theorem us_59 : Tryz.prog.underlying 59 = some (.slice 40) := by kernel_rfl
theorem ze_40 : bo Tryz.prog 40 = some (.slice none 0 0) := by kernel_rfl
theorem by_40 : eJ Tryz.prog 40 (.slice none 0 0) 1 24 = true := by kernel_rfl
theorem sz_59 : szB Tryz.prog 59 1 = true := by kernel_rfl
theorem go_52 : bx Tryz.prog 52 = true := by kernel_rfl
theorem jM : oU Tryz.prog 55 = some (96, 5) := by kernel_rfl
theorem pC : l4 Tryz.prog 96 5 = true := by kernel_rfl
theorem go_120 : bx Tryz.prog 120 = true := by kernel_rfl
theorem jR : aY Tryz.prog 96 0 = some 0 := by kernel_rfl
theorem cn : aY Tryz.prog 57 1 = some 1 := by kernel_rfl
theorem go : scB Tryz.prog 55 = true := by kernel_rfl
theorem go_89 : bx Tryz.prog 89 = true := by kernel_rfl
theorem go_88 : bx Tryz.prog 88 = true := by kernel_rfl
theorem lN : oU Tryz.prog 54 = some (94, 3) := by kernel_rfl
theorem su : l4 Tryz.prog 94 3 = true := by kernel_rfl
theorem go_121 : bx Tryz.prog 121 = true := by kernel_rfl
theorem j4 : aY Tryz.prog 94 0 = some 0 := by kernel_rfl
theorem eh : aY Tryz.prog 57 0 = some 0 := by kernel_rfl
theorem jP : scB Tryz.prog 54 = true := by kernel_rfl
theorem go_94 : bx Tryz.prog 94 = true := by kernel_rfl
theorem go_93 : bx Tryz.prog 93 = true := by kernel_rfl
theorem o8 : aY Tryz.prog 94 1 = some 1 := by kernel_rfl
theorem o5 : aY Tryz.prog 94 2 = some 2 := by kernel_rfl
theorem go_64 : bx Tryz.prog 64 = true := by kernel_rfl
theorem sz_94 : szB Tryz.prog 94 3 = true := by kernel_rfl
theorem gx : aY Tryz.prog 96 1 = some 1 := by kernel_rfl
theorem po : aY Tryz.prog 96 2 = some 3 := by kernel_rfl
theorem iG : aY Tryz.prog 96 3 = some 4 := by kernel_rfl
theorem go_60 : bx Tryz.prog 60 = true := by kernel_rfl
theorem sz_96 : szB Tryz.prog 96 5 = true := by kernel_rfl
theorem go_135 : bx Tryz.prog 135 = true := by kernel_rfl
theorem go_116 : bx Tryz.prog 116 = true := by kernel_rfl
theorem go_84 : bx Tryz.prog 84 = true := by kernel_rfl
theorem sc_179 : scB Tryz.prog 179 = true := by kernel_rfl
theorem um_179 : Tryz.prog.underlying 179 = some (.map 3 4) := by kernel_rfl
theorem ze_4 : bo Tryz.prog 4 = some (.bool false) := by kernel_rfl
theorem go_119 : bx Tryz.prog 119 = true := by kernel_rfl
theorem qS : scB Tryz.prog 107 = true := by kernel_rfl
theorem pu : Tryz.prog.underlying 107 = some (.map 3 3) := by kernel_rfl
theorem sc_81 : scB Tryz.prog 81 = true := by kernel_rfl
theorem go_118 : bx Tryz.prog 118 = true := by kernel_rfl
theorem sz_81 : szB Tryz.prog 81 1 = true := by kernel_rfl
theorem ze_81 : bo Tryz.prog 81 = some (.nilFunc) := by kernel_rfl
theorem sz_179 : szB Tryz.prog 179 1 = true := by kernel_rfl
theorem ze_179 : bo Tryz.prog 179 = some (.map none) := by kernel_rfl
theorem go_83 : bx Tryz.prog 83 = true := by kernel_rfl
theorem go_85 : bx Tryz.prog 85 = true := by kernel_rfl
theorem go_82 : bx Tryz.prog 82 = true := by kernel_rfl
theorem go_81 : bx Tryz.prog 81 = true := by kernel_rfl
theorem go_55 : bx Tryz.prog 55 = true := by kernel_rfl
theorem go_96 : bx Tryz.prog 96 = true := by kernel_rfl
theorem go_95 : bx Tryz.prog 95 = true := by kernel_rfl
theorem ust_70 : p5 Tryz.prog 70 [(0, 1), (1, 1), (2, 1)] = true := by kernel_rfl
theorem rl : bo Tryz.prog 70 = some (.agg #[.slice none 0 0, .int .i64 0, .slice none 0 0]) := by kernel_rfl
theorem rH : szB Tryz.prog 70 3 = true := by kernel_rfl
theorem rL : aY Tryz.prog 70 0 = some 0 := by kernel_rfl
theorem pE : scB Tryz.prog 40 = true := by kernel_rfl
theorem ql : aY Tryz.prog 70 2 = some 2 := by kernel_rfl
theorem o4 : aY Tryz.prog 70 1 = some 1 := by kernel_rfl
theorem go_65 : bx Tryz.prog 65 = true := by kernel_rfl
theorem rz : bx Tryz.prog 56 = true := by kernel_rfl
theorem sz_40 : szB Tryz.prog 40 1 = true := by kernel_rfl
theorem sv : l4 Tryz.prog 70 3 = true := by kernel_rfl
theorem sD : bx Tryz.prog 53 = true := by kernel_rfl
theorem go_54 : bx Tryz.prog 54 = true := by kernel_rfl
theorem go_87 : bx Tryz.prog 87 = true := by kernel_rfl
theorem go_86 : bx Tryz.prog 86 = true := by kernel_rfl
theorem go_58 : bx Tryz.prog 58 = true := by kernel_rfl
theorem go_59 : bx Tryz.prog 59 = true := by kernel_rfl
theorem go_57 : bx Tryz.prog 57 = true := by kernel_rfl
theorem go_91 : bx Tryz.prog 91 = true := by kernel_rfl
theorem go_92 : bx Tryz.prog 92 = true := by kernel_rfl
theorem go_90 : bx Tryz.prog 90 = true := by kernel_rfl
theorem sz_107 : szB Tryz.prog 107 1 = true := by kernel_rfl
theorem ze_107 : bo Tryz.prog 107 = some (.map none) := by kernel_rfl
theorem go_61 : bx Tryz.prog 61 = true := by kernel_rfl
theorem go_63 : bx Tryz.prog 63 = true := by kernel_rfl
theorem go_62 : bx Tryz.prog 62 = true := by kernel_rfl
theorem lc : bx Tryz.prog 75 = true := by kernel_rfl
theorem oP : bx Tryz.prog 41 = true := by kernel_rfl
theorem go_97 : bx Tryz.prog 97 = true := by kernel_rfl
theorem go_98 : bx Tryz.prog 98 = true := by kernel_rfl
theorem go_66 : bx Tryz.prog 66 = true := by kernel_rfl
theorem go_67 : bx Tryz.prog 67 = true := by kernel_rfl
theorem go_68 : bx Tryz.prog 68 = true := by kernel_rfl
theorem go_11 : bx Tryz.prog 11 = true := by kernel_rfl
theorem go_21 : bx Tryz.prog 21 = true := by kernel_rfl
theorem sl_59 : oU Tryz.prog 59 = some (40, 1) := by kernel_rfl
theorem si : bx Tryz.prog 22 = true := by kernel_rfl
theorem th : madeCells (.int .i64 0 : Value).cells (2 * 1) = #[.int .i64 0, .int .i64 0] := by kernel_rfl
theorem go_27 : bx Tryz.prog 27 = true := by kernel_rfl
theorem go_28 : bx Tryz.prog 28 = true := by kernel_rfl
theorem go_26 : bx Tryz.prog 26 = true := by kernel_rfl
theorem mc_3_3 : madeCells (.int .i64 0 : Value).cells (3 * 1) = #[.int .i64 0, .int .i64 0, .int .i64 0] := by kernel_rfl
theorem go_25 : bx Tryz.prog 25 = true := by kernel_rfl
theorem go_24 : bx Tryz.prog 24 = true := by kernel_rfl
theorem go_23 : bx Tryz.prog 23 = true := by kernel_rfl
theorem go_9 : bx Tryz.prog 9 = true := by kernel_rfl
theorem go_20 : bx Tryz.prog 20 = true := by kernel_rfl
theorem go_19 : bx Tryz.prog 19 = true := by kernel_rfl
theorem go_18 : bx Tryz.prog 18 = true := by kernel_rfl
theorem go_17 : bx Tryz.prog 17 = true := by kernel_rfl
theorem go_122 : bx Tryz.prog 122 = true := by kernel_rfl
theorem go_100 : bx Tryz.prog 100 = true := by kernel_rfl
theorem go_34 : bx Tryz.prog 34 = true := by kernel_rfl
theorem go_72 : bx Tryz.prog 72 = true := by kernel_rfl
theorem go_71 : bx Tryz.prog 71 = true := by kernel_rfl
theorem sz_37 : szB Tryz.prog 37 1 = true := by kernel_rfl
theorem go_35 : bx Tryz.prog 35 = true := by kernel_rfl
theorem go_5 : bx Tryz.prog 5 = true := by kernel_rfl
theorem go_6 : bx Tryz.prog 6 = true := by kernel_rfl
theorem go_8 : bx Tryz.prog 8 = true := by kernel_rfl
theorem go_40 : bx Tryz.prog 40 = true := by kernel_rfl
theorem go_42 : bx Tryz.prog 42 = true := by kernel_rfl
theorem go_47 : bx Tryz.prog 47 = true := by kernel_rfl
theorem go_15 : bx Tryz.prog 15 = true := by kernel_rfl
theorem pV : p5 Tryz.prog 48 [(0, 2), (2, 1)] = true := by kernel_rfl
theorem qd : bo Tryz.prog 48 = some (.agg #[.int .i64 0, .slice none 0 0, .int .i64 0]) := by kernel_rfl
theorem sa : l4 Tryz.prog 48 3 = true := by kernel_rfl
theorem ra : szB Tryz.prog 48 3 = true := by kernel_rfl
theorem go_43 : bx Tryz.prog 43 = true := by kernel_rfl
theorem sz_22 : szB Tryz.prog 22 1 = true := by kernel_rfl
theorem sR : madeCells (.agg #[.int .i64 0, .int .i64 0, .int .i64 0, .int .i64 0, .int .i64 0, .slice none 0 0] : Value).cells (1 * 6) = #[.int .i64 0, .int .i64 0, .int .i64 0, .int .i64 0, .int .i64 0, .slice none 0 0] := by kernel_rfl
theorem go_44 : bx Tryz.prog 44 = true := by kernel_rfl
theorem fl_26 : flds Tryz.prog 26 = some [(3, 0, true), (3, 1, true)] := by kernel_rfl
theorem eg_26 : Tryz.prog.eqGuardType Tryz.prog.depth 26 = false := by kernel_rfl
theorem go_12 : bx Tryz.prog 12 = true := by kernel_rfl
theorem fo_48_0 : aY Tryz.prog 48 0 = some 0 := by kernel_rfl
theorem go_16 : bx Tryz.prog 16 = true := by kernel_rfl
theorem fo_48_1 : aY Tryz.prog 48 1 = some 2 := by kernel_rfl
theorem sc_32 : scB Tryz.prog 32 = true := by kernel_rfl
theorem go_13 : bx Tryz.prog 13 = true := by kernel_rfl
theorem kf_127 : fldsB Tryz.prog 127 [(0, 1, 3), (1, 1, 3)] = true := by kernel_rfl
theorem kl_127 : laidOutB Tryz.prog = true := by kernel_rfl
theorem kw_127 : (match Tryz.prog.underlying 127 with | some (.array _ _) | some (.struct _) => true | _ => false) = true := by kernel_rfl
theorem l8 : KeyE Tryz.prog 127 cl bq where
  keyed := .of_law (deep_law_laid kl_127 (m := 6) (by omega) (of_decide_eq_true (by kernel_rfl)) (by kernel_rfl) kw_127)
  tot := fun x h => by
    unfold bq at h
    simp only [Bool.and_eq_true] at h
    obtain ⟨h0, h1⟩ := h
    exact keyS_2 (of_decide_eq_true (by kernel_rfl)) kf_127 ui_3 ui_3 (qc h0) (qc h1)
  inj := fun x y h => by
    cases x; cases y
    simp only [cl] at h
    simp_all
theorem ke_3 : KeyE Tryz.prog 3 kI em := keyE_int ui_3
end Go.Proofs.YthndghnkebboaabGreat
