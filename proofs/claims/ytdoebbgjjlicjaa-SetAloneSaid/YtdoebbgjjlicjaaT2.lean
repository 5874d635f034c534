import Derived.Test.YtdoebbgjjlicjaaProg
import Derived.Test.YtdoebbgjjlicjaaOwMc
import Derived.KernelRfl
/- closed facts of this program. -/
namespace Go.Proofs.Ytdoebbgjjlicjaa
open Go.Ow Go.RowKit Go.Proofs
set_option linter.unusedVariables false
set_option linter.unusedSimpArgs false
theorem B25 : placesOf Try.prog 25 = some [(0, 1), (1, 1)] := by kernel_rfl
theorem B28 : placesOf Try.prog 28 = some [(0, 1), (1, 1), (2, 1), (3, 1), (4, 1)] := by kernel_rfl
theorem B47 : placesOf Try.prog 47 = some [(0, 1), (1, 1)] := by kernel_rfl
theorem B50 : placesOf Try.prog 50 = some [(0, 2), (2, 1), (3, 1), (4, 1)] := by kernel_rfl
theorem B60 : placesOf Try.prog 60 = some [(0, 1), (1, 1), (2, 1), (3, 1)] := by kernel_rfl
theorem B158 : placesA Try.prog 158 5 = some [(0, 1), (1, 1), (2, 1), (3, 1), (4, 1)] := by kernel_rfl
theorem B161 : placesA Try.prog 161 4 = some [(0, 1), (1, 1), (2, 1), (3, 1)] := by kernel_rfl
theorem B186 : placesA Try.prog 186 12 = some [(0, 1), (1, 1), (2, 1), (3, 1), (4, 1), (5, 1), (6, 1), (7, 1), (8, 1), (9, 1), (10, 1), (11, 1)] := by kernel_rfl
theorem C5 : Try.prog.cellsOf 5 = 1 := by kernel_rfl
theorem E10 : Enters Try.prog 10 := enters_of Try.func10 (by kernel_rfl) (by kernel_rfl)
theorem E19 : Enters Try.prog 19 := enters_of Try.func19 (by kernel_rfl) (by kernel_rfl)
theorem E20 : Enters Try.prog 20 := enters_of Try.func20 (by kernel_rfl) (by kernel_rfl)
theorem E21 : Enters Try.prog 21 := enters_of Try.func21 (by kernel_rfl) (by kernel_rfl)
theorem E22 : Enters Try.prog 22 := enters_of Try.func22 (by kernel_rfl) (by kernel_rfl)
theorem E23 : Enters Try.prog 23 := enters_of Try.func23 (by kernel_rfl) (by kernel_rfl)
theorem E24 : Enters Try.prog 24 := enters_of Try.func24 (by kernel_rfl) (by kernel_rfl)
theorem E26 : Enters Try.prog 26 := enters_of Try.func26 (by kernel_rfl) (by kernel_rfl)
theorem E27 : Enters Try.prog 27 := enters_of Try.func27 (by kernel_rfl) (by kernel_rfl)
theorem E28 : Enters Try.prog 28 := enters_of Try.func28 (by kernel_rfl) (by kernel_rfl)
theorem E33 : Enters Try.prog 33 := enters_of Try.func33 (by kernel_rfl) (by kernel_rfl)
theorem E36 : Enters Try.prog 36 := enters_of Try.func36 (by kernel_rfl) (by kernel_rfl)
theorem E38 : Enters Try.prog 38 := enters_of Try.func38 (by kernel_rfl) (by kernel_rfl)
theorem E43 : Enters Try.prog 43 := enters_of Try.func43 (by kernel_rfl) (by kernel_rfl)
theorem E49 : Enters Try.prog 49 := enters_of Try.func49 (by kernel_rfl) (by kernel_rfl)
theorem E50 : Enters Try.prog 50 := enters_of Try.func50 (by kernel_rfl) (by kernel_rfl)
theorem E51 : Enters Try.prog 51 := enters_of Try.func51 (by kernel_rfl) (by kernel_rfl)
theorem E52 : Enters Try.prog 52 := enters_of Try.func52 (by kernel_rfl) (by kernel_rfl)
theorem E53 : Enters Try.prog 53 := enters_of Try.func53 (by kernel_rfl) (by kernel_rfl)
theorem E54 : Enters Try.prog 54 := enters_of Try.func54 (by kernel_rfl) (by kernel_rfl)
theorem E55 : Enters Try.prog 55 := enters_of Try.func55 (by kernel_rfl) (by kernel_rfl)
theorem E56 : Enters Try.prog 56 := enters_of Try.func56 (by kernel_rfl) (by kernel_rfl)
theorem E57 : Enters Try.prog 57 := enters_of Try.func57 (by kernel_rfl) (by kernel_rfl)
theorem E58 : Enters Try.prog 58 := enters_of Try.func58 (by kernel_rfl) (by kernel_rfl)
theorem E59 : Enters Try.prog 59 := enters_of Try.func59 (by kernel_rfl) (by kernel_rfl)
theorem E64 : Enters Try.prog 64 := enters_of Try.func64 (by kernel_rfl) (by kernel_rfl)
theorem E65 : Enters Try.prog 65 := enters_of Try.func65 (by kernel_rfl) (by kernel_rfl)
theorem E67 : Enters Try.prog 67 := enters_of Try.func67 (by kernel_rfl) (by kernel_rfl)
theorem E68 : Enters Try.prog 68 := enters_of Try.func68 (by kernel_rfl) (by kernel_rfl)
theorem E69 : Enters Try.prog 69 := enters_of Try.func69 (by kernel_rfl) (by kernel_rfl)
theorem E70 : Enters Try.prog 70 := enters_of Try.func70 (by kernel_rfl) (by kernel_rfl)
theorem E71 : Enters Try.prog 71 := enters_of Try.func71 (by kernel_rfl) (by kernel_rfl)
theorem E72 : Enters Try.prog 72 := enters_of Try.func72 (by kernel_rfl) (by kernel_rfl)
theorem E73 : Enters Try.prog 73 := enters_of Try.func73 (by kernel_rfl) (by kernel_rfl)
theorem E74 : Enters Try.prog 74 := enters_of Try.func74 (by kernel_rfl) (by kernel_rfl)
theorem E80 : Enters Try.prog 80 := enters_of Try.func80 (by kernel_rfl) (by kernel_rfl)
theorem E81 : Enters Try.prog 81 := enters_of Try.func81 (by kernel_rfl) (by kernel_rfl)
theorem E82 : Enters Try.prog 82 := enters_of Try.func82 (by kernel_rfl) (by kernel_rfl)
theorem E83 : Enters Try.prog 83 := enters_of Try.func83 (by kernel_rfl) (by kernel_rfl)
theorem E84 : Enters Try.prog 84 := enters_of Try.func84 (by kernel_rfl) (by kernel_rfl)
theorem E91 : Enters Try.prog 91 := enters_of Try.func91 (by kernel_rfl) (by kernel_rfl)
theorem E92 : Enters Try.prog 92 := enters_of Try.func92 (by kernel_rfl) (by kernel_rfl)
theorem E93 : Enters Try.prog 93 := enters_of Try.func93 (by kernel_rfl) (by kernel_rfl)
theorem E94 : Enters Try.prog 94 := enters_of Try.func94 (by kernel_rfl) (by kernel_rfl)
theorem E95 : Enters Try.prog 95 := enters_of Try.func95 (by kernel_rfl) (by kernel_rfl)
theorem E96 : Enters Try.prog 96 := enters_of Try.func96 (by kernel_rfl) (by kernel_rfl)
theorem E97 : Enters Try.prog 97 := enters_of Try.func97 (by kernel_rfl) (by kernel_rfl)
theorem E98 : Enters Try.prog 98 := enters_of Try.func98 (by kernel_rfl) (by kernel_rfl)
theorem E99 : Enters Try.prog 99 := enters_of Try.func99 (by kernel_rfl) (by kernel_rfl)
theorem E105 : Enters Try.prog 105 := enters_of Try.func105 (by kernel_rfl) (by kernel_rfl)
theorem E107 : Enters Try.prog 107 := enters_of Try.func107 (by kernel_rfl) (by kernel_rfl)
theorem E108 : Enters Try.prog 108 := enters_of Try.func108 (by kernel_rfl) (by kernel_rfl)
theorem E109 : Enters Try.prog 109 := enters_of Try.func109 (by kernel_rfl) (by kernel_rfl)
theorem E111 : Enters Try.prog 111 := enters_of Try.func111 (by kernel_rfl) (by kernel_rfl)
theorem E112 : Enters Try.prog 112 := enters_of Try.func112 (by kernel_rfl) (by kernel_rfl)
theorem E113 : Enters Try.prog 113 := enters_of Try.func113 (by kernel_rfl) (by kernel_rfl)
theorem E117 : Enters Try.prog 117 := enters_of Try.func117 (by kernel_rfl) (by kernel_rfl)
theorem E118 : Enters Try.prog 118 := enters_of Try.func118 (by kernel_rfl) (by kernel_rfl)
theorem E119 : Enters Try.prog 119 := enters_of Try.func119 (by kernel_rfl) (by kernel_rfl)
theorem E133 : Enters Try.prog 133 := enters_of Try.func133 (by kernel_rfl) (by kernel_rfl)
theorem E134 : Enters Try.prog 134 := enters_of Try.func134 (by kernel_rfl) (by kernel_rfl)
theorem E135 : Enters Try.prog 135 := enters_of Try.func135 (by kernel_rfl) (by kernel_rfl)
theorem E136 : Enters Try.prog 136 := enters_of Try.func136 (by kernel_rfl) (by kernel_rfl)
theorem E137 : Enters Try.prog 137 := enters_of Try.func137 (by kernel_rfl) (by kernel_rfl)
theorem E139 : Enters Try.prog 139 := enters_of Try.func139 (by kernel_rfl) (by kernel_rfl)
theorem E140 : Enters Try.prog 140 := enters_of Try.func140 (by kernel_rfl) (by kernel_rfl)
theorem E143 : Enters Try.prog 143 := enters_of Try.func143 (by kernel_rfl) (by kernel_rfl)
theorem E146 : Enters Try.prog 146 := enters_of Try.func146 (by kernel_rfl) (by kernel_rfl)
theorem E147 : Enters Try.prog 147 := enters_of Try.func147 (by kernel_rfl) (by kernel_rfl)
theorem E148 : Enters Try.prog 148 := enters_of Try.func148 (by kernel_rfl) (by kernel_rfl)
theorem E149 : Enters Try.prog 149 := enters_of Try.func149 (by kernel_rfl) (by kernel_rfl)
theorem E151 : Enters Try.prog 151 := enters_of Try.func151 (by kernel_rfl) (by kernel_rfl)
theorem E158 : Enters Try.prog 158 := enters_of Try.func158 (by kernel_rfl) (by kernel_rfl)
theorem E164 : Enters Try.prog 164 := enters_of Try.func164 (by kernel_rfl) (by kernel_rfl)
theorem E174 : Enters Try.prog 174 := enters_of Try.func174 (by kernel_rfl) (by kernel_rfl)
theorem E175 : Enters Try.prog 175 := enters_of Try.func175 (by kernel_rfl) (by kernel_rfl)
theorem E181 : Enters Try.prog 181 := enters_of Try.func181 (by kernel_rfl) (by kernel_rfl)
theorem E185 : Enters Try.prog 185 := enters_of Try.func185 (by kernel_rfl) (by kernel_rfl)
theorem E186 : Enters Try.prog 186 := enters_of Try.func186 (by kernel_rfl) (by kernel_rfl)
theorem F25_0 : fieldOff Try.prog 25 0 = some 0 := by kernel_rfl
theorem F25_1 : fieldOff Try.prog 25 1 = some 1 := by kernel_rfl
theorem F28_0 : fieldOff Try.prog 28 0 = some 0 := by kernel_rfl
theorem F28_1 : fieldOff Try.prog 28 1 = some 1 := by kernel_rfl
theorem F28_2 : fieldOff Try.prog 28 2 = some 2 := by kernel_rfl
theorem F28_3 : fieldOff Try.prog 28 3 = some 3 := by kernel_rfl
theorem F28_4 : fieldOff Try.prog 28 4 = some 4 := by kernel_rfl
theorem F47_0 : fieldOff Try.prog 47 0 = some 0 := by kernel_rfl
theorem F47_1 : fieldOff Try.prog 47 1 = some 1 := by kernel_rfl
theorem F50_0 : fieldOff Try.prog 50 0 = some 0 := by kernel_rfl
theorem F50_1 : fieldOff Try.prog 50 1 = some 2 := by kernel_rfl
theorem F50_2 : fieldOff Try.prog 50 2 = some 3 := by kernel_rfl
theorem F50_3 : fieldOff Try.prog 50 3 = some 4 := by kernel_rfl
theorem F60_0 : fieldOff Try.prog 60 0 = some 0 := by kernel_rfl
theorem F60_1 : fieldOff Try.prog 60 1 = some 1 := by kernel_rfl
theorem F60_2 : fieldOff Try.prog 60 2 = some 2 := by kernel_rfl
theorem F60_3 : fieldOff Try.prog 60 3 = some 3 := by kernel_rfl
theorem I3 : eInfo Try.prog 3 = some (.int .i64 0, 1, 8) := by kernel_rfl
theorem I5 : eInfo Try.prog 5 = some (.int .u8 0, 1, 1) := by kernel_rfl
theorem I28 : eInfo Try.prog 28 = some (.agg #[.int .i64 0, .int .u32 0, .int .u32 0, .int .u32 0, .int .u32 0], 5, 24) := by kernel_rfl
theorem I45 : eInfo Try.prog 45 = some (.slice none 0 0, 1, 24) := by kernel_rfl
theorem I47 : eInfo Try.prog 47 = some (.agg #[.int .i64 0, .slice none 0 0], 2, 32) := by kernel_rfl
theorem Mixed : Try.prog.follows .mixedOrders = true := by kernel_rfl
theorem QF28 : (Try.prog.fieldsOf 28).toList = [Field.mk "At" 3 0 false "" "" 0, Field.mk "Birth" 26 1 false "" "" 8, Field.mk "Iv" 26 2 false "" "" 12, Field.mk "Tag" 26 3 false "" "" 16, Field.mk "Sum" 26 4 false "" "" 20] := by kernel_rfl
theorem QG28 : Try.prog.eqGuardType Try.prog.depth 28 = false := by kernel_rfl
theorem QG186 : Try.prog.eqGuardType Try.prog.depth 186 = false := by kernel_rfl
theorem QP28 : Try.prog.stoodInHeld 28 = false := by kernel_rfl
theorem QU28 : Try.prog.underlying 28 = some (.struct (Try.prog.fieldsOf 28)) := by kernel_rfl
theorem S3 : shapeOf Try.prog 3 = some (false, 1) := by kernel_rfl
theorem S5 : shapeOf Try.prog 5 = some (false, 1) := by kernel_rfl
theorem S22 : shapeOf Try.prog 22 = some (false, 1) := by kernel_rfl
theorem S23 : shapeOf Try.prog 23 = some (false, 1) := by kernel_rfl
theorem S25 : shapeOf Try.prog 25 = some (true, 2) := by kernel_rfl
theorem S26 : shapeOf Try.prog 26 = some (false, 1) := by kernel_rfl
theorem S28 : shapeOf Try.prog 28 = some (true, 5) := by kernel_rfl
theorem S33 : shapeOf Try.prog 33 = some (false, 1) := by kernel_rfl
theorem S45 : shapeOf Try.prog 45 = some (false, 1) := by kernel_rfl
theorem S47 : shapeOf Try.prog 47 = some (true, 2) := by kernel_rfl
theorem S50 : shapeOf Try.prog 50 = some (true, 5) := by kernel_rfl
theorem S53 : shapeOf Try.prog 53 = some (false, 1) := by kernel_rfl
theorem S60 : shapeOf Try.prog 60 = some (true, 4) := by kernel_rfl
theorem S98 : shapeOf Try.prog 98 = some (false, 1) := by kernel_rfl
theorem S138 : shapeOf Try.prog 138 = some (true, 16) := by kernel_rfl
theorem S158 : shapeOf Try.prog 158 = some (true, 5) := by kernel_rfl
theorem S161 : shapeOf Try.prog 161 = some (true, 4) := by kernel_rfl
theorem S186 : shapeOf Try.prog 186 = some (true, 12) := by kernel_rfl
theorem U3 : Try.prog.underlying 3 = some (.int .i64) := by kernel_rfl
theorem U5 : Try.prog.underlying 5 = some (.int .u8) := by kernel_rfl
theorem U22 : Try.prog.underlying 22 = some (.slice 45) := by kernel_rfl
theorem U23 : Try.prog.underlying 23 = some (.slice 47) := by kernel_rfl
theorem U26 : Try.prog.underlying 26 = some (.int .u32) := by kernel_rfl
theorem U45 : Try.prog.underlying 45 = some (.slice 5) := by kernel_rfl
theorem U53 : Try.prog.underlying 53 = some (.slice 28) := by kernel_rfl
theorem U75 : Try.prog.underlying 75 = some (.slice 3) := by kernel_rfl
theorem U133 : Try.prog.underlying 133 = some (.int .u64) := by kernel_rfl
theorem U138 : Try.prog.underlying 138 = some (.array 16 5) := by kernel_rfl
theorem U158 : Try.prog.underlying 158 = some (.array 5 3) := by kernel_rfl
theorem U161 : Try.prog.underlying 161 = some (.array 4 26) := by kernel_rfl
theorem U166 : Try.prog.underlying 166 = some (.map 3 47) := by kernel_rfl
theorem U186 : Try.prog.underlying 186 = some (.array 12 5) := by kernel_rfl
theorem Z3 : zeroOf Try.prog 3 = some (.int .i64 0) := by kernel_rfl
theorem Z25 : zeroOf Try.prog 25 = some (.agg #[.slice none 0 0, .slice none 0 0]) := by kernel_rfl
theorem Z28 : zeroOf Try.prog 28 = some (.agg #[.int .i64 0, .int .u32 0, .int .u32 0, .int .u32 0, .int .u32 0]) := by kernel_rfl
theorem Z33 : zeroOf Try.prog 33 = some (.int .i64 0) := by kernel_rfl
theorem Z47 : zeroOf Try.prog 47 = some (.agg #[.int .i64 0, .slice none 0 0]) := by kernel_rfl
theorem Z50 : zeroOf Try.prog 50 = some (.agg #[.slice none 0 0, .slice none 0 0, .slice none 0 0, .int .u32 0, .int .u32 0]) := by kernel_rfl
theorem Z53 : zeroOf Try.prog 53 = some (.slice none 0 0) := by kernel_rfl
theorem Z60 : zeroOf Try.prog 60 = some (.agg #[.int .u8 0, .int .i64 0, .int .i64 0, .slice none 0 0]) := by kernel_rfl
theorem Z138 : zeroOf Try.prog 138 = some (.agg #[.int .u8 0, .int .u8 0, .int .u8 0, .int .u8 0, .int .u8 0, .int .u8 0, .int .u8 0, .int .u8 0, .int .u8 0, .int .u8 0, .int .u8 0, .int .u8 0, .int .u8 0, .int .u8 0, .int .u8 0, .int .u8 0]) := by kernel_rfl
theorem Z158 : zeroOf Try.prog 158 = some (.agg #[.int .i64 0, .int .i64 0, .int .i64 0, .int .i64 0, .int .i64 0]) := by kernel_rfl
theorem Z161 : zeroOf Try.prog 161 = some (.agg #[.int .u32 0, .int .u32 0, .int .u32 0, .int .u32 0]) := by kernel_rfl
theorem Z186 : zeroOf Try.prog 186 = some (.agg #[.int .u8 0, .int .u8 0, .int .u8 0, .int .u8 0, .int .u8 0, .int .u8 0, .int .u8 0, .int .u8 0, .int .u8 0, .int .u8 0, .int .u8 0, .int .u8 0]) := by kernel_rfl
end Go.Proofs.Ytdoebbgjjlicjaa
