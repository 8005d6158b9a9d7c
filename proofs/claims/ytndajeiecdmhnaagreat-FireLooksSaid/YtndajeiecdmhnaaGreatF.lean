/- Closed facts on the program: its table of types, its functions. -/
import Derived.Test.YtndajeiecdmhnaaGreatGs
import Derived.Test.YtndajeiecdmhnaaGreatGw
import Derived.Test.YtndajeiecdmhnaaGreatG0
import Derived.Test.YtndajeiecdmhnaaGreatP
import Derived.Test.YtndajeiecdmhnaaGreatProg
set_option linter.unusedVariables false
set_option maxRecDepth 20000
namespace Go.Proofs.YtndajeiecdmhnaaGreat
def TLook_cells (x : TLook) : List Value := [.int .i64 x.fID, .int .i64 x.fAt.fFoot, .int .i64 x.fAt.fHour, .int .i64 x.fHeat.fLo, .int .i64 x.fHeat.fHi]
theorem TLook_cells_len (x : TLook) : (TLook_cells x).length = 5 := rfl
theorem TLook_cells_one (x : TLook) : ((TLook_cells x).all (·.oneCell')) = true := rfl
def TSpot_cells (x : TSpot) : List Value := [.int .i64 x.fFoot, .int .i64 x.fHour]
theorem TSpot_cells_len (x : TSpot) : (TSpot_cells x).length = 2 := rfl
def TSpan_cells (x : TSpan) : List Value := [.int .i64 x.fLo, .int .i64 x.fHi]
theorem TSpan_cells_len (x : TSpan) : (TSpan_cells x).length = 2 := rfl
theorem TSpan_cells_one (x : TSpan) : ((TSpan_cells x).all (·.oneCell')) = true := rfl

theorem fo_24_4 : fieldOff Tryz.prog 24 4 = some 4 := by kernel_rfl
theorem sc_22 : scB Tryz.prog 22 = true := by kernel_rfl
theorem us_22 : Tryz.prog.underlying 22 = some (.slice 49) := by kernel_rfl
theorem ze_49 : zeroOf Tryz.prog 49 = some (.agg #[.int .i64 0, .int .i64 0, .int .i64 0, .int .i64 0, .int .i64 0]) := by kernel_rfl
theorem ag_49 : aggB Tryz.prog 49 5 = true := by kernel_rfl
theorem sl_22 : slOf Tryz.prog 22 = some (49, 5) := by kernel_rfl
theorem sz_49 : szB Tryz.prog 49 5 = true := by kernel_rfl
theorem sz_22 : szB Tryz.prog 22 1 = true := by kernel_rfl
theorem by_49 : bytesB Tryz.prog 49 (.agg #[.int .i64 0, .int .i64 0, .int .i64 0, .int .i64 0, .int .i64 0]) 5 40 = true := by kernel_rfl
theorem mc_49_1 : madeCells (.agg #[.int .i64 0, .int .i64 0, .int .i64 0, .int .i64 0, .int .i64 0] : Value).cells (1 * 5) = #[.int .i64 0, .int .i64 0, .int .i64 0, .int .i64 0, .int .i64 0] := by kernel_rfl
theorem go_107 : goes Tryz.prog 107 = true := by kernel_rfl
theorem go_110 : goes Tryz.prog 110 = true := by kernel_rfl
theorem mixed : Tryz.prog.follows .mixedOrders = true := by kernel_rfl
theorem us_s9 : Tryz.prog.underlying 9 = some .string := by kernel_rfl
theorem ui_5 : Tryz.prog.underlying 5 = some (.int .u8) := by kernel_rfl
theorem ui_155 : Tryz.prog.underlying 155 = some (.int .u64) := by kernel_rfl
theorem ui_3 : Tryz.prog.underlying 3 = some (.int .i64) := by kernel_rfl
theorem go_122 : goes Tryz.prog 122 = true := by kernel_rfl
theorem ui_144 : Tryz.prog.underlying 144 = some (.int .u64) := by kernel_rfl
theorem go_112 : goes Tryz.prog 112 = true := by kernel_rfl
theorem sc_3 : scB Tryz.prog 3 = true := by kernel_rfl
theorem sz_3 : szB Tryz.prog 3 1 = true := by kernel_rfl
theorem go_128 : goes Tryz.prog 128 = true := by kernel_rfl
theorem go_127 : goes Tryz.prog 127 = true := by kernel_rfl
theorem ze_3 : zeroOf Tryz.prog 3 = some (.int .i64 0) := by kernel_rfl
theorem go_113 : goes Tryz.prog 113 = true := by kernel_rfl
theorem go_116 : goes Tryz.prog 116 = true := by kernel_rfl
theorem go_111 : goes Tryz.prog 111 = true := by kernel_rfl
theorem go_120 : goes Tryz.prog 120 = true := by kernel_rfl
theorem go_118 : goes Tryz.prog 118 = true := by kernel_rfl
theorem go_109 : goes Tryz.prog 109 = true := by kernel_rfl
theorem go_108 : goes Tryz.prog 108 = true := by kernel_rfl
theorem fo_49_0 : fieldOff Tryz.prog 49 0 = some 0 := by kernel_rfl
theorem go_106 : goes Tryz.prog 106 = true := by kernel_rfl
theorem go_104 : goes Tryz.prog 104 = true := by kernel_rfl
theorem go_105 : goes Tryz.prog 105 = true := by kernel_rfl
theorem fo_26_1 : fieldOff Tryz.prog 26 1 = some 1 := by kernel_rfl
theorem fo_26_0 : fieldOff Tryz.prog 26 0 = some 0 := by kernel_rfl
theorem ua_131 : Tryz.prog.underlying 131 = some (.array 4 3) := by kernel_rfl
theorem ze_131 : zeroOf Tryz.prog 131 = some (.agg #[.int .i64 0, .int .i64 0, .int .i64 0, .int .i64 0]) := by kernel_rfl
theorem fo_24_0 : fieldOff Tryz.prog 24 0 = some 0 := by kernel_rfl
theorem fo_24_1 : fieldOff Tryz.prog 24 1 = some 1 := by kernel_rfl
theorem fo_24_2 : fieldOff Tryz.prog 24 2 = some 2 := by kernel_rfl
theorem fo_24_3 : fieldOff Tryz.prog 24 3 = some 3 := by kernel_rfl
theorem ar_131 : arrOf Tryz.prog 131 = some (4, 1) := by kernel_rfl
theorem sz_131 : szB Tryz.prog 131 4 = true := by kernel_rfl
theorem fo_49_2 : fieldOff Tryz.prog 49 2 = some 3 := by kernel_rfl
theorem fo_28_0 : fieldOff Tryz.prog 28 0 = some 0 := by kernel_rfl
theorem fo_28_1 : fieldOff Tryz.prog 28 1 = some 1 := by kernel_rfl
theorem ag_24 : aggB Tryz.prog 24 5 = true := by kernel_rfl
theorem fo_49_1 : fieldOff Tryz.prog 49 1 = some 1 := by kernel_rfl
theorem ag_26 : aggB Tryz.prog 26 2 = true := by kernel_rfl
theorem go_63 : goes Tryz.prog 63 = true := by kernel_rfl
theorem go_101 : goes Tryz.prog 101 = true := by kernel_rfl
theorem sz_4 : szB Tryz.prog 4 1 = true := by kernel_rfl
theorem go_84 : goes Tryz.prog 84 = true := by kernel_rfl
theorem sc_4 : scB Tryz.prog 4 = true := by kernel_rfl
theorem ze_4 : zeroOf Tryz.prog 4 = some (.bool false) := by kernel_rfl
theorem go_75 : goes Tryz.prog 75 = true := by kernel_rfl
theorem go_70 : goes Tryz.prog 70 = true := by kernel_rfl
theorem go_92 : goes Tryz.prog 92 = true := by kernel_rfl
theorem go_91 : goes Tryz.prog 91 = true := by kernel_rfl
theorem go_71 : goes Tryz.prog 71 = true := by kernel_rfl
theorem go_62 : goes Tryz.prog 62 = true := by kernel_rfl
theorem go_57 : goes Tryz.prog 57 = true := by kernel_rfl
theorem go_96 : goes Tryz.prog 96 = true := by kernel_rfl
theorem go_49 : goes Tryz.prog 49 = true := by kernel_rfl
theorem us_50 : Tryz.prog.underlying 50 = some (.slice 26) := by kernel_rfl
theorem sl_50 : slOf Tryz.prog 50 = some (26, 2) := by kernel_rfl
theorem go_103 : goes Tryz.prog 103 = true := by kernel_rfl
theorem go_54 : goes Tryz.prog 54 = true := by kernel_rfl
theorem go_82 : goes Tryz.prog 82 = true := by kernel_rfl
theorem go_81 : goes Tryz.prog 81 = true := by kernel_rfl
theorem sc_92 : scB Tryz.prog 92 = true := by kernel_rfl
theorem sc_123 : scB Tryz.prog 123 = true := by kernel_rfl
theorem go_50 : goes Tryz.prog 50 = true := by kernel_rfl
theorem go_93 : goes Tryz.prog 93 = true := by kernel_rfl
theorem go_85 : goes Tryz.prog 85 = true := by kernel_rfl
theorem go_83 : goes Tryz.prog 83 = true := by kernel_rfl
theorem go_51 : goes Tryz.prog 51 = true := by kernel_rfl
theorem go_94 : goes Tryz.prog 94 = true := by kernel_rfl
theorem go_86 : goes Tryz.prog 86 = true := by kernel_rfl
theorem ust_28 : strB Tryz.prog 28 [(0, 1), (1, 1)] = true := by kernel_rfl
theorem ze_28 : zeroOf Tryz.prog 28 = some (.agg #[.int .i64 0, .int .i64 0]) := by kernel_rfl
theorem fo_30_0 : fieldOff Tryz.prog 30 0 = some 0 := by kernel_rfl
theorem sz_28 : szB Tryz.prog 28 2 = true := by kernel_rfl
theorem fo_30_1 : fieldOff Tryz.prog 30 1 = some 2 := by kernel_rfl
theorem fo_30_2 : fieldOff Tryz.prog 30 2 = some 3 := by kernel_rfl
theorem ag_30 : aggB Tryz.prog 30 4 = true := by kernel_rfl
theorem sz_30 : szB Tryz.prog 30 4 = true := by kernel_rfl
theorem ze_30 : zeroOf Tryz.prog 30 = some (.agg #[.int .i64 0, .int .i64 0, .int .i64 0, .int .i64 0]) := by kernel_rfl
theorem mc_26_1 : madeCells (.agg #[.int .i64 0, .int .i64 0] : Value).cells (1 * 2) = #[.int .i64 0, .int .i64 0] := by kernel_rfl
theorem ze_26 : zeroOf Tryz.prog 26 = some (.agg #[.int .i64 0, .int .i64 0]) := by kernel_rfl
theorem by_26 : bytesB Tryz.prog 26 (.agg #[.int .i64 0, .int .i64 0]) 2 16 = true := by kernel_rfl
theorem go_38 : goes Tryz.prog 38 = true := by kernel_rfl
theorem go_37 : goes Tryz.prog 37 = true := by kernel_rfl
theorem ust_30 : strB Tryz.prog 30 [(0, 2), (2, 1), (3, 1)] = true := by kernel_rfl
theorem go_39 : goes Tryz.prog 39 = true := by kernel_rfl
theorem sc_88 : scB Tryz.prog 88 = true := by kernel_rfl
theorem sc_39 : scB Tryz.prog 39 = true := by kernel_rfl
theorem sz_39 : szB Tryz.prog 39 1 = true := by kernel_rfl
theorem us_39 : Tryz.prog.underlying 39 = some (.slice 3) := by kernel_rfl
theorem by_3 : bytesB Tryz.prog 3 (.int .i64 0) 1 8 = true := by kernel_rfl
theorem mc_3_1 : madeCells (.int .i64 0 : Value).cells (1 * 1) = #[.int .i64 0] := by kernel_rfl
theorem ze_39 : zeroOf Tryz.prog 39 = some (.slice none 0 0) := by kernel_rfl
theorem sc_124 : scB Tryz.prog 124 = true := by kernel_rfl
theorem um_124 : Tryz.prog.underlying 124 = some (.map 3 4) := by kernel_rfl
theorem sl_39 : slOf Tryz.prog 39 = some (3, 1) := by kernel_rfl
theorem go_89 : goes Tryz.prog 89 = true := by kernel_rfl
theorem sz_24 : szB Tryz.prog 24 5 = true := by kernel_rfl
theorem go_87 : goes Tryz.prog 87 = true := by kernel_rfl
theorem go_88 : goes Tryz.prog 88 = true := by kernel_rfl
theorem sz_124 : szB Tryz.prog 124 1 = true := by kernel_rfl
theorem ze_124 : zeroOf Tryz.prog 124 = some (.map none) := by kernel_rfl
theorem ze_24 : zeroOf Tryz.prog 24 = some (.agg #[.int .i64 0, .int .i64 0, .int .i64 0, .int .i64 0, .slice none 0 0]) := by kernel_rfl
theorem go_44 : goes Tryz.prog 44 = true := by kernel_rfl
theorem fd_30_0 : fldT Tryz.prog 30 0 = some (28, 0) := by kernel_rfl
theorem ag_28 : aggB Tryz.prog 28 2 = true := by kernel_rfl
theorem fl_28 : flds Tryz.prog 28 = some [(3, 0, true), (3, 1, true)] := by kernel_rfl
theorem eg_28 : Tryz.prog.eqGuardType Tryz.prog.depth 28 = false := by kernel_rfl
theorem go_43 : goes Tryz.prog 43 = true := by kernel_rfl
theorem go_42 : goes Tryz.prog 42 = true := by kernel_rfl
theorem fd_28_0 : fldT Tryz.prog 28 0 = some (3, 0) := by kernel_rfl
theorem go_58 : goes Tryz.prog 58 = true := by kernel_rfl
theorem mc_26_2 : madeCells (.agg #[.int .i64 0, .int .i64 0] : Value).cells (2 * 2) = #[.int .i64 0, .int .i64 0, .int .i64 0, .int .i64 0] := by kernel_rfl
theorem ust_26 : strB Tryz.prog 26 [(0, 1), (1, 1)] = true := by kernel_rfl
theorem ust_49 : strB Tryz.prog 49 [(0, 1), (1, 2), (3, 2)] = true := by kernel_rfl
theorem ust_24 : strB Tryz.prog 24 [(0, 1), (1, 1), (2, 1), (3, 1), (4, 1)] = true := by kernel_rfl
theorem mc_49_3 : madeCells (.agg #[.int .i64 0, .int .i64 0, .int .i64 0, .int .i64 0, .int .i64 0] : Value).cells (3 * 5) = #[.int .i64 0, .int .i64 0, .int .i64 0, .int .i64 0, .int .i64 0, .int .i64 0, .int .i64 0, .int .i64 0, .int .i64 0, .int .i64 0, .int .i64 0, .int .i64 0, .int .i64 0, .int .i64 0, .int .i64 0] := by kernel_rfl
theorem sz_26 : szB Tryz.prog 26 2 = true := by kernel_rfl
theorem go_102 : goes Tryz.prog 102 = true := by kernel_rfl
theorem fo_74_0 : fieldOff Tryz.prog 74 0 = some 0 := by kernel_rfl
theorem fo_74_1 : fieldOff Tryz.prog 74 1 = some 1 := by kernel_rfl
theorem fo_74_2 : fieldOff Tryz.prog 74 2 = some 2 := by kernel_rfl
theorem ag_74 : aggB Tryz.prog 74 3 = true := by kernel_rfl
theorem sz_74 : szB Tryz.prog 74 3 = true := by kernel_rfl
theorem ze_74 : zeroOf Tryz.prog 74 = some (.agg #[.int .i64 0, .int .i64 0, .int .i64 0]) := by kernel_rfl
theorem go_76 : goes Tryz.prog 76 = true := by kernel_rfl
theorem ust_74 : strB Tryz.prog 74 [(0, 1), (1, 1), (2, 1)] = true := by kernel_rfl
theorem go_78 : goes Tryz.prog 78 = true := by kernel_rfl
theorem go_77 : goes Tryz.prog 77 = true := by kernel_rfl
theorem us_77 : Tryz.prog.underlying 77 = some (.slice 28) := by kernel_rfl
theorem sl_77 : slOf Tryz.prog 77 = some (28, 2) := by kernel_rfl
theorem by_28 : bytesB Tryz.prog 28 (.agg #[.int .i64 0, .int .i64 0]) 2 16 = true := by kernel_rfl
theorem mc_28_1 : madeCells (.agg #[.int .i64 0, .int .i64 0] : Value).cells (1 * 2) = #[.int .i64 0, .int .i64 0] := by kernel_rfl
theorem go_79 : goes Tryz.prog 79 = true := by kernel_rfl
theorem go_80 : goes Tryz.prog 80 = true := by kernel_rfl
theorem go_30 : goes Tryz.prog 30 = true := by kernel_rfl
theorem go_29 : goes Tryz.prog 29 = true := by kernel_rfl
theorem go_31 : goes Tryz.prog 31 = true := by kernel_rfl
theorem go_8 : goes Tryz.prog 8 = true := by kernel_rfl
theorem fl_30 : flds Tryz.prog 30 = some [(28, 0, true), (3, 2, true), (3, 3, true)] := by kernel_rfl
theorem eg_30 : Tryz.prog.eqGuardType Tryz.prog.depth 30 = false := by kernel_rfl
theorem go_32 : goes Tryz.prog 32 = true := by kernel_rfl
theorem go_10 : goes Tryz.prog 10 = true := by kernel_rfl
theorem go_18 : goes Tryz.prog 18 = true := by kernel_rfl
theorem fl_74 : flds Tryz.prog 74 = some [(3, 0, true), (3, 1, true), (3, 2, true)] := by kernel_rfl
theorem eg_74 : Tryz.prog.eqGuardType Tryz.prog.depth 74 = false := by kernel_rfl
theorem go_36 : goes Tryz.prog 36 = true := by kernel_rfl
theorem go_14 : goes Tryz.prog 14 = true := by kernel_rfl
theorem go_35 : goes Tryz.prog 35 = true := by kernel_rfl
theorem go_34 : goes Tryz.prog 34 = true := by kernel_rfl
theorem go_33 : goes Tryz.prog 33 = true := by kernel_rfl
theorem mc_26_3 : madeCells (.agg #[.int .i64 0, .int .i64 0] : Value).cells (3 * 2) = #[.int .i64 0, .int .i64 0, .int .i64 0, .int .i64 0, .int .i64 0, .int .i64 0] := by kernel_rfl
theorem go_28 : goes Tryz.prog 28 = true := by kernel_rfl
theorem go_97 : goes Tryz.prog 97 = true := by kernel_rfl
theorem go_56 : goes Tryz.prog 56 = true := by kernel_rfl
theorem go_73 : goes Tryz.prog 73 = true := by kernel_rfl
theorem go_98 : goes Tryz.prog 98 = true := by kernel_rfl
theorem go_64 : goes Tryz.prog 64 = true := by kernel_rfl
theorem go_100 : goes Tryz.prog 100 = true := by kernel_rfl
theorem go_55 : goes Tryz.prog 55 = true := by kernel_rfl
theorem go_72 : goes Tryz.prog 72 = true := by kernel_rfl
theorem go_74 : goes Tryz.prog 74 = true := by kernel_rfl
theorem go_95 : goes Tryz.prog 95 = true := by kernel_rfl
theorem go_45 : goes Tryz.prog 45 = true := by kernel_rfl
theorem go_52 : goes Tryz.prog 52 = true := by kernel_rfl
theorem go_40 : goes Tryz.prog 40 = true := by kernel_rfl
theorem ust_37 : strB Tryz.prog 37 [(0, 4), (4, 1)] = true := by kernel_rfl
theorem ze_37 : zeroOf Tryz.prog 37 = some (.agg #[.int .i64 0, .int .i64 0, .int .i64 0, .int .i64 0, .int .i64 0]) := by kernel_rfl
theorem ag_37 : aggB Tryz.prog 37 5 = true := by kernel_rfl
theorem sz_37 : szB Tryz.prog 37 5 = true := by kernel_rfl
theorem go_41 : goes Tryz.prog 41 = true := by kernel_rfl
theorem ust_43 : strB Tryz.prog 43 [(0, 1), (1, 1)] = true := by kernel_rfl
theorem ze_43 : zeroOf Tryz.prog 43 = some (.agg #[.slice none 0 0, .int .i64 0]) := by kernel_rfl
theorem ag_43 : aggB Tryz.prog 43 2 = true := by kernel_rfl
theorem sz_43 : szB Tryz.prog 43 2 = true := by kernel_rfl
theorem go_6 : goes Tryz.prog 6 = true := by kernel_rfl
theorem go_7 : goes Tryz.prog 7 = true := by kernel_rfl
theorem go_9 : goes Tryz.prog 9 = true := by kernel_rfl
theorem fo_37_0 : fieldOff Tryz.prog 37 0 = some 0 := by kernel_rfl
theorem fo_37_1 : fieldOff Tryz.prog 37 1 = some 4 := by kernel_rfl
theorem sc_33 : scB Tryz.prog 33 = true := by kernel_rfl
theorem fo_43_0 : fieldOff Tryz.prog 43 0 = some 0 := by kernel_rfl
theorem fo_43_1 : fieldOff Tryz.prog 43 1 = some 1 := by kernel_rfl
theorem go_53 : goes Tryz.prog 53 = true := by kernel_rfl
theorem go_59 : goes Tryz.prog 59 = true := by kernel_rfl
theorem ust_57 : strB Tryz.prog 57 [(0, 1), (1, 1), (2, 1)] = true := by kernel_rfl
theorem ze_57 : zeroOf Tryz.prog 57 = some (.agg #[.int .i64 0, .bool false, .int .i64 0]) := by kernel_rfl
theorem ag_57 : aggB Tryz.prog 57 3 = true := by kernel_rfl
theorem sz_57 : szB Tryz.prog 57 3 = true := by kernel_rfl
theorem go_60 : goes Tryz.prog 60 = true := by kernel_rfl
theorem go_61 : goes Tryz.prog 61 = true := by kernel_rfl
theorem fd_28_1 : fldT Tryz.prog 28 1 = some (3, 1) := by kernel_rfl
theorem go_15 : goes Tryz.prog 15 = true := by kernel_rfl
theorem go_16 : goes Tryz.prog 16 = true := by kernel_rfl
theorem go_17 : goes Tryz.prog 17 = true := by kernel_rfl
theorem go_19 : goes Tryz.prog 19 = true := by kernel_rfl
theorem fo_57_0 : fieldOff Tryz.prog 57 0 = some 0 := by kernel_rfl
theorem fo_57_1 : fieldOff Tryz.prog 57 1 = some 1 := by kernel_rfl
theorem ub_4 : Tryz.prog.underlying 4 = some .bool := by kernel_rfl
theorem fo_57_2 : fieldOff Tryz.prog 57 2 = some 2 := by kernel_rfl
theorem go_21 : goes Tryz.prog 21 = true := by kernel_rfl
theorem go_20 : goes Tryz.prog 20 = true := by kernel_rfl
theorem ke_3 : KeyE Tryz.prog 3 kI rngB := keyE_int ui_3
end Go.Proofs.YtndajeiecdmhnaaGreat
