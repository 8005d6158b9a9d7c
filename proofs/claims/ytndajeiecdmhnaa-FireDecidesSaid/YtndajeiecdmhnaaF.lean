/- Closed facts on the program: its table of types, its functions. -/
import Derived.Test.YtndajeiecdmhnaaGs
import Derived.Test.YtndajeiecdmhnaaGw
import Derived.Test.YtndajeiecdmhnaaG0
import Derived.Test.YtndajeiecdmhnaaP
import Derived.Test.YtndajeiecdmhnaaProg
set_option linter.unusedVariables false
set_option maxRecDepth 20000
namespace Go.Proofs.Ytndajeiecdmhnaa
def TLook_cells (x : TLook) : List Value := [.int .i64 x.fID, .int .i64 x.fAt.fFoot, .int .i64 x.fAt.fHour, .int .i64 x.fHeat.fLo, .int .i64 x.fHeat.fHi]
theorem TLook_cells_len (x : TLook) : (TLook_cells x).length = 5 := rfl
theorem TLook_cells_one (x : TLook) : ((TLook_cells x).all (·.oneCell')) = true := rfl
def TSpot_cells (x : TSpot) : List Value := [.int .i64 x.fFoot, .int .i64 x.fHour]
theorem TSpot_cells_len (x : TSpot) : (TSpot_cells x).length = 2 := rfl
def TSpan_cells (x : TSpan) : List Value := [.int .i64 x.fLo, .int .i64 x.fHi]
theorem TSpan_cells_len (x : TSpan) : (TSpan_cells x).length = 2 := rfl
theorem TSpan_cells_one (x : TSpan) : ((TSpan_cells x).all (·.oneCell')) = true := rfl

theorem fo_24_4 : fieldOff Try.prog 24 4 = some 4 := by kernel_rfl
theorem sc_22 : scB Try.prog 22 = true := by kernel_rfl
theorem us_22 : Try.prog.underlying 22 = some (.slice 34) := by kernel_rfl
theorem fo_26_0 : fieldOff Try.prog 26 0 = some 0 := by kernel_rfl
theorem sc_3 : scB Try.prog 3 = true := by kernel_rfl
theorem go_50 : goes Try.prog 50 = true := by kernel_rfl
theorem fo_26_1 : fieldOff Try.prog 26 1 = some 1 := by kernel_rfl
theorem fo_34_0 : fieldOff Try.prog 34 0 = some 0 := by kernel_rfl
theorem fo_34_1 : fieldOff Try.prog 34 1 = some 1 := by kernel_rfl
theorem ag_26 : aggB Try.prog 26 2 = true := by kernel_rfl
theorem go_70 : goes Try.prog 70 = true := by kernel_rfl
theorem fo_34_2 : fieldOff Try.prog 34 2 = some 3 := by kernel_rfl
theorem fo_32_0 : fieldOff Try.prog 32 0 = some 0 := by kernel_rfl
theorem go_87 : goes Try.prog 87 = true := by kernel_rfl
theorem fo_32_1 : fieldOff Try.prog 32 1 = some 1 := by kernel_rfl
theorem sl_22 : slOf Try.prog 22 = some (34, 5) := by kernel_rfl
theorem ag_34 : aggB Try.prog 34 5 = true := by kernel_rfl
theorem go_96 : goes Try.prog 96 = true := by kernel_rfl
theorem go_95 : goes Try.prog 95 = true := by kernel_rfl
theorem fo_24_0 : fieldOff Try.prog 24 0 = some 0 := by kernel_rfl
theorem fo_24_1 : fieldOff Try.prog 24 1 = some 1 := by kernel_rfl
theorem fo_24_2 : fieldOff Try.prog 24 2 = some 2 := by kernel_rfl
theorem fo_24_3 : fieldOff Try.prog 24 3 = some 3 := by kernel_rfl
theorem ua_97 : Try.prog.underlying 97 = some (.array 4 3) := by kernel_rfl
theorem ze_97 : zeroOf Try.prog 97 = some (.agg #[.int .i64 0, .int .i64 0, .int .i64 0, .int .i64 0]) := by kernel_rfl
theorem sz_3 : szB Try.prog 3 1 = true := by kernel_rfl
theorem go_51 : goes Try.prog 51 = true := by kernel_rfl
theorem go_52 : goes Try.prog 52 = true := by kernel_rfl
theorem sz_34 : szB Try.prog 34 5 = true := by kernel_rfl
theorem ze_34 : zeroOf Try.prog 34 = some (.agg #[.int .i64 0, .int .i64 0, .int .i64 0, .int .i64 0, .int .i64 0]) := by kernel_rfl
theorem ar_97 : arrOf Try.prog 97 = some (4, 1) := by kernel_rfl
theorem sz_97 : szB Try.prog 97 4 = true := by kernel_rfl
theorem ag_24 : aggB Try.prog 24 5 = true := by kernel_rfl
theorem go_73 : goes Try.prog 73 = true := by kernel_rfl
theorem mixed : Try.prog.follows .mixedOrders = true := by kernel_rfl
theorem sz_22 : szB Try.prog 22 1 = true := by kernel_rfl
theorem by_34 : bytesB Try.prog 34 (.agg #[.int .i64 0, .int .i64 0, .int .i64 0, .int .i64 0, .int .i64 0]) 5 40 = true := by kernel_rfl
theorem mc_34_1 : madeCells (.agg #[.int .i64 0, .int .i64 0, .int .i64 0, .int .i64 0, .int .i64 0] : Value).cells (1 * 5) = #[.int .i64 0, .int .i64 0, .int .i64 0, .int .i64 0, .int .i64 0] := by kernel_rfl
theorem go_116 : goes Try.prog 116 = true := by kernel_rfl
theorem go_119 : goes Try.prog 119 = true := by kernel_rfl
theorem us_s9 : Try.prog.underlying 9 = some .string := by kernel_rfl
theorem ui_5 : Try.prog.underlying 5 = some (.int .u8) := by kernel_rfl
theorem ui_167 : Try.prog.underlying 167 = some (.int .u64) := by kernel_rfl
theorem ui_3 : Try.prog.underlying 3 = some (.int .i64) := by kernel_rfl
theorem go_131 : goes Try.prog 131 = true := by kernel_rfl
theorem ui_156 : Try.prog.underlying 156 = some (.int .u64) := by kernel_rfl
theorem go_121 : goes Try.prog 121 = true := by kernel_rfl
theorem go_137 : goes Try.prog 137 = true := by kernel_rfl
theorem go_136 : goes Try.prog 136 = true := by kernel_rfl
theorem ze_3 : zeroOf Try.prog 3 = some (.int .i64 0) := by kernel_rfl
theorem go_122 : goes Try.prog 122 = true := by kernel_rfl
theorem go_125 : goes Try.prog 125 = true := by kernel_rfl
theorem go_120 : goes Try.prog 120 = true := by kernel_rfl
theorem go_129 : goes Try.prog 129 = true := by kernel_rfl
theorem go_127 : goes Try.prog 127 = true := by kernel_rfl
theorem go_118 : goes Try.prog 118 = true := by kernel_rfl
theorem go_117 : goes Try.prog 117 = true := by kernel_rfl
theorem go_115 : goes Try.prog 115 = true := by kernel_rfl
theorem go_113 : goes Try.prog 113 = true := by kernel_rfl
theorem go_114 : goes Try.prog 114 = true := by kernel_rfl
theorem go_72 : goes Try.prog 72 = true := by kernel_rfl
theorem sz_4 : szB Try.prog 4 1 = true := by kernel_rfl
theorem go_100 : goes Try.prog 100 = true := by kernel_rfl
theorem sc_4 : scB Try.prog 4 = true := by kernel_rfl
theorem ze_4 : zeroOf Try.prog 4 = some (.bool false) := by kernel_rfl
theorem go_58 : goes Try.prog 58 = true := by kernel_rfl
theorem go_59 : goes Try.prog 59 = true := by kernel_rfl
theorem us_46 : Try.prog.underlying 46 = some (.slice 26) := by kernel_rfl
theorem sl_46 : slOf Try.prog 46 = some (26, 2) := by kernel_rfl
theorem go_112 : goes Try.prog 112 = true := by kernel_rfl
theorem go_12 : goes Try.prog 12 = true := by kernel_rfl
theorem go_98 : goes Try.prog 98 = true := by kernel_rfl
theorem go_97 : goes Try.prog 97 = true := by kernel_rfl
theorem sc_129 : scB Try.prog 129 = true := by kernel_rfl
theorem sc_139 : scB Try.prog 139 = true := by kernel_rfl
theorem go_93 : goes Try.prog 93 = true := by kernel_rfl
theorem go_110 : goes Try.prog 110 = true := by kernel_rfl
theorem go_101 : goes Try.prog 101 = true := by kernel_rfl
theorem go_99 : goes Try.prog 99 = true := by kernel_rfl
theorem go_94 : goes Try.prog 94 = true := by kernel_rfl
theorem go_111 : goes Try.prog 111 = true := by kernel_rfl
theorem go_102 : goes Try.prog 102 = true := by kernel_rfl
theorem ust_32 : strB Try.prog 32 [(0, 1), (1, 1)] = true := by kernel_rfl
theorem ze_32 : zeroOf Try.prog 32 = some (.agg #[.int .i64 0, .int .i64 0]) := by kernel_rfl
theorem fo_36_0 : fieldOff Try.prog 36 0 = some 0 := by kernel_rfl
theorem sz_32 : szB Try.prog 32 2 = true := by kernel_rfl
theorem fo_36_1 : fieldOff Try.prog 36 1 = some 2 := by kernel_rfl
theorem fo_36_2 : fieldOff Try.prog 36 2 = some 3 := by kernel_rfl
theorem ag_36 : aggB Try.prog 36 4 = true := by kernel_rfl
theorem sz_36 : szB Try.prog 36 4 = true := by kernel_rfl
theorem ze_36 : zeroOf Try.prog 36 = some (.agg #[.int .i64 0, .int .i64 0, .int .i64 0, .int .i64 0]) := by kernel_rfl
theorem mc_26_1 : madeCells (.agg #[.int .i64 0, .int .i64 0] : Value).cells (1 * 2) = #[.int .i64 0, .int .i64 0] := by kernel_rfl
theorem ze_26 : zeroOf Try.prog 26 = some (.agg #[.int .i64 0, .int .i64 0]) := by kernel_rfl
theorem by_26 : bytesB Try.prog 26 (.agg #[.int .i64 0, .int .i64 0]) 2 16 = true := by kernel_rfl
theorem go_56 : goes Try.prog 56 = true := by kernel_rfl
theorem go_55 : goes Try.prog 55 = true := by kernel_rfl
theorem ust_36 : strB Try.prog 36 [(0, 2), (2, 1), (3, 1)] = true := by kernel_rfl
theorem go_57 : goes Try.prog 57 = true := by kernel_rfl
theorem sc_110 : scB Try.prog 110 = true := by kernel_rfl
theorem sc_41 : scB Try.prog 41 = true := by kernel_rfl
theorem sz_41 : szB Try.prog 41 1 = true := by kernel_rfl
theorem us_41 : Try.prog.underlying 41 = some (.slice 3) := by kernel_rfl
theorem by_3 : bytesB Try.prog 3 (.int .i64 0) 1 8 = true := by kernel_rfl
theorem mc_3_1 : madeCells (.int .i64 0 : Value).cells (1 * 1) = #[.int .i64 0] := by kernel_rfl
theorem ze_41 : zeroOf Try.prog 41 = some (.slice none 0 0) := by kernel_rfl
theorem sc_140 : scB Try.prog 140 = true := by kernel_rfl
theorem um_140 : Try.prog.underlying 140 = some (.map 3 4) := by kernel_rfl
theorem sl_41 : slOf Try.prog 41 = some (3, 1) := by kernel_rfl
theorem go_105 : goes Try.prog 105 = true := by kernel_rfl
theorem sz_24 : szB Try.prog 24 5 = true := by kernel_rfl
theorem go_103 : goes Try.prog 103 = true := by kernel_rfl
theorem go_104 : goes Try.prog 104 = true := by kernel_rfl
theorem sz_140 : szB Try.prog 140 1 = true := by kernel_rfl
theorem ze_140 : zeroOf Try.prog 140 = some (.map none) := by kernel_rfl
theorem ze_24 : zeroOf Try.prog 24 = some (.agg #[.int .i64 0, .int .i64 0, .int .i64 0, .int .i64 0, .slice none 0 0]) := by kernel_rfl
theorem go_62 : goes Try.prog 62 = true := by kernel_rfl
theorem go_61 : goes Try.prog 61 = true := by kernel_rfl
theorem go_60 : goes Try.prog 60 = true := by kernel_rfl
theorem sz_26 : szB Try.prog 26 2 = true := by kernel_rfl
theorem go_25 : goes Try.prog 25 = true := by kernel_rfl
theorem fd_36_0 : fldT Try.prog 36 0 = some (32, 0) := by kernel_rfl
theorem ag_32 : aggB Try.prog 32 2 = true := by kernel_rfl
theorem fo_49_0 : fieldOff Try.prog 49 0 = some 0 := by kernel_rfl
theorem fo_49_1 : fieldOff Try.prog 49 1 = some 1 := by kernel_rfl
theorem fo_49_2 : fieldOff Try.prog 49 2 = some 2 := by kernel_rfl
theorem ag_49 : aggB Try.prog 49 3 = true := by kernel_rfl
theorem sz_49 : szB Try.prog 49 3 = true := by kernel_rfl
theorem ze_49 : zeroOf Try.prog 49 = some (.agg #[.int .i64 0, .int .i64 0, .int .i64 0]) := by kernel_rfl
theorem go_63 : goes Try.prog 63 = true := by kernel_rfl
theorem ust_49 : strB Try.prog 49 [(0, 1), (1, 1), (2, 1)] = true := by kernel_rfl
theorem go_65 : goes Try.prog 65 = true := by kernel_rfl
theorem go_64 : goes Try.prog 64 = true := by kernel_rfl
theorem us_55 : Try.prog.underlying 55 = some (.slice 32) := by kernel_rfl
theorem sl_55 : slOf Try.prog 55 = some (32, 2) := by kernel_rfl
theorem by_32 : bytesB Try.prog 32 (.agg #[.int .i64 0, .int .i64 0]) 2 16 = true := by kernel_rfl
theorem mc_32_1 : madeCells (.agg #[.int .i64 0, .int .i64 0] : Value).cells (1 * 2) = #[.int .i64 0, .int .i64 0] := by kernel_rfl
theorem go_68 : goes Try.prog 68 = true := by kernel_rfl
theorem fl_32 : flds Try.prog 32 = some [(3, 0, true), (3, 1, true)] := by kernel_rfl
theorem eg_32 : Try.prog.eqGuardType Try.prog.depth 32 = false := by kernel_rfl
theorem mc_26_2 : madeCells (.agg #[.int .i64 0, .int .i64 0] : Value).cells (2 * 2) = #[.int .i64 0, .int .i64 0, .int .i64 0, .int .i64 0] := by kernel_rfl
theorem go_83 : goes Try.prog 83 = true := by kernel_rfl
theorem fd_32_0 : fldT Try.prog 32 0 = some (3, 0) := by kernel_rfl
theorem go_88 : goes Try.prog 88 = true := by kernel_rfl
theorem ust_26 : strB Try.prog 26 [(0, 1), (1, 1)] = true := by kernel_rfl
theorem ust_34 : strB Try.prog 34 [(0, 1), (1, 2), (3, 2)] = true := by kernel_rfl
theorem ust_24 : strB Try.prog 24 [(0, 1), (1, 1), (2, 1), (3, 1), (4, 1)] = true := by kernel_rfl
theorem mc_34_3 : madeCells (.agg #[.int .i64 0, .int .i64 0, .int .i64 0, .int .i64 0, .int .i64 0] : Value).cells (3 * 5) = #[.int .i64 0, .int .i64 0, .int .i64 0, .int .i64 0, .int .i64 0, .int .i64 0, .int .i64 0, .int .i64 0, .int .i64 0, .int .i64 0, .int .i64 0, .int .i64 0, .int .i64 0, .int .i64 0, .int .i64 0] := by kernel_rfl
theorem go_54 : goes Try.prog 54 = true := by kernel_rfl
theorem go_30 : goes Try.prog 30 = true := by kernel_rfl
theorem go_15 : goes Try.prog 15 = true := by kernel_rfl
theorem go_14 : goes Try.prog 14 = true := by kernel_rfl
theorem fl_36 : flds Try.prog 36 = some [(32, 0, true), (3, 2, true), (3, 3, true)] := by kernel_rfl
theorem eg_36 : Try.prog.eqGuardType Try.prog.depth 36 = false := by kernel_rfl
theorem go_19 : goes Try.prog 19 = true := by kernel_rfl
theorem go_39 : goes Try.prog 39 = true := by kernel_rfl
theorem go_44 : goes Try.prog 44 = true := by kernel_rfl
theorem fl_49 : flds Try.prog 49 = some [(3, 0, true), (3, 1, true), (3, 2, true)] := by kernel_rfl
theorem eg_49 : Try.prog.eqGuardType Try.prog.depth 49 = false := by kernel_rfl
theorem go_27 : goes Try.prog 27 = true := by kernel_rfl
theorem go_17 : goes Try.prog 17 = true := by kernel_rfl
theorem go_16 : goes Try.prog 16 = true := by kernel_rfl
theorem go_23 : goes Try.prog 23 = true := by kernel_rfl
theorem go_21 : goes Try.prog 21 = true := by kernel_rfl
theorem mc_26_3 : madeCells (.agg #[.int .i64 0, .int .i64 0] : Value).cells (3 * 2) = #[.int .i64 0, .int .i64 0, .int .i64 0, .int .i64 0, .int .i64 0, .int .i64 0] := by kernel_rfl
theorem go_53 : goes Try.prog 53 = true := by kernel_rfl
theorem go_11 : goes Try.prog 11 = true := by kernel_rfl
theorem go_13 : goes Try.prog 13 = true := by kernel_rfl
theorem go_82 : goes Try.prog 82 = true := by kernel_rfl
theorem go_38 : goes Try.prog 38 = true := by kernel_rfl
theorem go_84 : goes Try.prog 84 = true := by kernel_rfl
theorem fd_32_1 : fldT Try.prog 32 1 = some (3, 1) := by kernel_rfl
theorem go_45 : goes Try.prog 45 = true := by kernel_rfl
theorem ke_3 : KeyE Try.prog 3 kI rngB := keyE_int ui_3
end Go.Proofs.Ytndajeiecdmhnaa
