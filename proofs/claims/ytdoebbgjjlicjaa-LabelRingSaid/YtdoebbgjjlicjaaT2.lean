import Derived.Test.YtdoebbgjjlicjaaProg
import Derived.Test.YtdoebbgjjlicjaaOwMc
import Derived.KernelRfl
/- closed facts of this program. -/
namespace Go.Proofs.Ytdoebbgjjlicjaa
open Go.Ow Go.RowKit Go.Proofs
set_option linter.unusedVariables false
set_option linter.unusedSimpArgs false
theorem B25 : placesOf Try.prog 25 = some [(0, 1), (1, 1)] := by kernel_rfl
theorem B28 : placesOf Try.prog 28 = some [(0, 1), (1, 1), (2, 1), (3, 1), (4, 1)] := by kernel_rfl
theorem B30 : placesOf Try.prog 30 = some [(0, 1), (1, 1), (2, 5)] := by kernel_rfl
theorem B47 : placesOf Try.prog 47 = some [(0, 1), (1, 1)] := by kernel_rfl
theorem B158 : placesA Try.prog 158 5 = some [(0, 1), (1, 1), (2, 1), (3, 1), (4, 1)] := by kernel_rfl
theorem B160 : placesA Try.prog 160 4 = some [(0, 1), (1, 1), (2, 1), (3, 1)] := by kernel_rfl
theorem B161 : placesA Try.prog 161 4 = some [(0, 1), (1, 1), (2, 1), (3, 1)] := by kernel_rfl
theorem E10 : Enters Try.prog 10 := ZT Try.func10 (by kernel_rfl) (by kernel_rfl)
theorem E11 : Enters Try.prog 11 := ZT Try.func11 (by kernel_rfl) (by kernel_rfl)
theorem E12 : Enters Try.prog 12 := ZT Try.func12 (by kernel_rfl) (by kernel_rfl)
theorem E13 : Enters Try.prog 13 := ZT Try.func13 (by kernel_rfl) (by kernel_rfl)
theorem E14 : Enters Try.prog 14 := ZT Try.func14 (by kernel_rfl) (by kernel_rfl)
theorem E15 : Enters Try.prog 15 := ZT Try.func15 (by kernel_rfl) (by kernel_rfl)
theorem E16 : Enters Try.prog 16 := ZT Try.func16 (by kernel_rfl) (by kernel_rfl)
theorem E17 : Enters Try.prog 17 := ZT Try.func17 (by kernel_rfl) (by kernel_rfl)
theorem E18 : Enters Try.prog 18 := ZT Try.func18 (by kernel_rfl) (by kernel_rfl)
theorem E36 : Enters Try.prog 36 := ZT Try.func36 (by kernel_rfl) (by kernel_rfl)
theorem E37 : Enters Try.prog 37 := ZT Try.func37 (by kernel_rfl) (by kernel_rfl)
theorem E38 : Enters Try.prog 38 := ZT Try.func38 (by kernel_rfl) (by kernel_rfl)
theorem E39 : Enters Try.prog 39 := ZT Try.func39 (by kernel_rfl) (by kernel_rfl)
theorem E40 : Enters Try.prog 40 := ZT Try.func40 (by kernel_rfl) (by kernel_rfl)
theorem E41 : Enters Try.prog 41 := ZT Try.func41 (by kernel_rfl) (by kernel_rfl)
theorem E42 : Enters Try.prog 42 := ZT Try.func42 (by kernel_rfl) (by kernel_rfl)
theorem E43 : Enters Try.prog 43 := ZT Try.func43 (by kernel_rfl) (by kernel_rfl)
theorem E44 : Enters Try.prog 44 := ZT Try.func44 (by kernel_rfl) (by kernel_rfl)
theorem E45 : Enters Try.prog 45 := ZT Try.func45 (by kernel_rfl) (by kernel_rfl)
theorem E47 : Enters Try.prog 47 := ZT Try.func47 (by kernel_rfl) (by kernel_rfl)
theorem E48 : Enters Try.prog 48 := ZT Try.func48 (by kernel_rfl) (by kernel_rfl)
theorem E49 : Enters Try.prog 49 := ZT Try.func49 (by kernel_rfl) (by kernel_rfl)
theorem E67 : Enters Try.prog 67 := ZT Try.func67 (by kernel_rfl) (by kernel_rfl)
theorem E68 : Enters Try.prog 68 := ZT Try.func68 (by kernel_rfl) (by kernel_rfl)
theorem E69 : Enters Try.prog 69 := ZT Try.func69 (by kernel_rfl) (by kernel_rfl)
theorem E70 : Enters Try.prog 70 := ZT Try.func70 (by kernel_rfl) (by kernel_rfl)
theorem E71 : Enters Try.prog 71 := ZT Try.func71 (by kernel_rfl) (by kernel_rfl)
theorem E72 : Enters Try.prog 72 := ZT Try.func72 (by kernel_rfl) (by kernel_rfl)
theorem E73 : Enters Try.prog 73 := ZT Try.func73 (by kernel_rfl) (by kernel_rfl)
theorem E74 : Enters Try.prog 74 := ZT Try.func74 (by kernel_rfl) (by kernel_rfl)
theorem E75 : Enters Try.prog 75 := ZT Try.func75 (by kernel_rfl) (by kernel_rfl)
theorem E76 : Enters Try.prog 76 := ZT Try.func76 (by kernel_rfl) (by kernel_rfl)
theorem E77 : Enters Try.prog 77 := ZT Try.func77 (by kernel_rfl) (by kernel_rfl)
theorem E78 : Enters Try.prog 78 := ZT Try.func78 (by kernel_rfl) (by kernel_rfl)
theorem E79 : Enters Try.prog 79 := ZT Try.func79 (by kernel_rfl) (by kernel_rfl)
theorem E80 : Enters Try.prog 80 := ZT Try.func80 (by kernel_rfl) (by kernel_rfl)
theorem E81 : Enters Try.prog 81 := ZT Try.func81 (by kernel_rfl) (by kernel_rfl)
theorem E82 : Enters Try.prog 82 := ZT Try.func82 (by kernel_rfl) (by kernel_rfl)
theorem E83 : Enters Try.prog 83 := ZT Try.func83 (by kernel_rfl) (by kernel_rfl)
theorem E84 : Enters Try.prog 84 := ZT Try.func84 (by kernel_rfl) (by kernel_rfl)
theorem E85 : Enters Try.prog 85 := ZT Try.func85 (by kernel_rfl) (by kernel_rfl)
theorem E88 : Enters Try.prog 88 := ZT Try.func88 (by kernel_rfl) (by kernel_rfl)
theorem E89 : Enters Try.prog 89 := ZT Try.func89 (by kernel_rfl) (by kernel_rfl)
theorem E90 : Enters Try.prog 90 := ZT Try.func90 (by kernel_rfl) (by kernel_rfl)
theorem E95 : Enters Try.prog 95 := ZT Try.func95 (by kernel_rfl) (by kernel_rfl)
theorem E105 : Enters Try.prog 105 := ZT Try.func105 (by kernel_rfl) (by kernel_rfl)
theorem E107 : Enters Try.prog 107 := ZT Try.func107 (by kernel_rfl) (by kernel_rfl)
theorem E111 : Enters Try.prog 111 := ZT Try.func111 (by kernel_rfl) (by kernel_rfl)
theorem E112 : Enters Try.prog 112 := ZT Try.func112 (by kernel_rfl) (by kernel_rfl)
theorem E113 : Enters Try.prog 113 := ZT Try.func113 (by kernel_rfl) (by kernel_rfl)
theorem E114 : Enters Try.prog 114 := ZT Try.func114 (by kernel_rfl) (by kernel_rfl)
theorem E115 : Enters Try.prog 115 := ZT Try.func115 (by kernel_rfl) (by kernel_rfl)
theorem E116 : Enters Try.prog 116 := ZT Try.func116 (by kernel_rfl) (by kernel_rfl)
theorem E117 : Enters Try.prog 117 := ZT Try.func117 (by kernel_rfl) (by kernel_rfl)
theorem E118 : Enters Try.prog 118 := ZT Try.func118 (by kernel_rfl) (by kernel_rfl)
theorem E119 : Enters Try.prog 119 := ZT Try.func119 (by kernel_rfl) (by kernel_rfl)
theorem E130 : Enters Try.prog 130 := ZT Try.func130 (by kernel_rfl) (by kernel_rfl)
theorem E131 : Enters Try.prog 131 := ZT Try.func131 (by kernel_rfl) (by kernel_rfl)
theorem E132 : Enters Try.prog 132 := ZT Try.func132 (by kernel_rfl) (by kernel_rfl)
theorem E136 : Enters Try.prog 136 := ZT Try.func136 (by kernel_rfl) (by kernel_rfl)
theorem E146 : Enters Try.prog 146 := ZT Try.func146 (by kernel_rfl) (by kernel_rfl)
theorem E147 : Enters Try.prog 147 := ZT Try.func147 (by kernel_rfl) (by kernel_rfl)
theorem E148 : Enters Try.prog 148 := ZT Try.func148 (by kernel_rfl) (by kernel_rfl)
theorem E149 : Enters Try.prog 149 := ZT Try.func149 (by kernel_rfl) (by kernel_rfl)
theorem E150 : Enters Try.prog 150 := ZT Try.func150 (by kernel_rfl) (by kernel_rfl)
theorem E151 : Enters Try.prog 151 := ZT Try.func151 (by kernel_rfl) (by kernel_rfl)
theorem E157 : Enters Try.prog 157 := ZT Try.func157 (by kernel_rfl) (by kernel_rfl)
theorem E175 : Enters Try.prog 175 := ZT Try.func175 (by kernel_rfl) (by kernel_rfl)
theorem E176 : Enters Try.prog 176 := ZT Try.func176 (by kernel_rfl) (by kernel_rfl)
theorem E177 : Enters Try.prog 177 := ZT Try.func177 (by kernel_rfl) (by kernel_rfl)
theorem E185 : Enters Try.prog 185 := ZT Try.func185 (by kernel_rfl) (by kernel_rfl)
theorem E186 : Enters Try.prog 186 := ZT Try.func186 (by kernel_rfl) (by kernel_rfl)
theorem E187 : Enters Try.prog 187 := ZT Try.func187 (by kernel_rfl) (by kernel_rfl)
theorem E188 : Enters Try.prog 188 := ZT Try.func188 (by kernel_rfl) (by kernel_rfl)
theorem E189 : Enters Try.prog 189 := ZT Try.func189 (by kernel_rfl) (by kernel_rfl)
theorem F25_0 : fieldOff Try.prog 25 0 = some 0 := by kernel_rfl
theorem F25_1 : fieldOff Try.prog 25 1 = some 1 := by kernel_rfl
theorem F28_0 : fieldOff Try.prog 28 0 = some 0 := by kernel_rfl
theorem F28_1 : fieldOff Try.prog 28 1 = some 1 := by kernel_rfl
theorem F28_2 : fieldOff Try.prog 28 2 = some 2 := by kernel_rfl
theorem F28_3 : fieldOff Try.prog 28 3 = some 3 := by kernel_rfl
theorem F28_4 : fieldOff Try.prog 28 4 = some 4 := by kernel_rfl
theorem F30_0 : fieldOff Try.prog 30 0 = some 0 := by kernel_rfl
theorem F30_1 : fieldOff Try.prog 30 1 = some 1 := by kernel_rfl
theorem F30_2 : fieldOff Try.prog 30 2 = some 2 := by kernel_rfl
theorem F47_0 : fieldOff Try.prog 47 0 = some 0 := by kernel_rfl
theorem F47_1 : fieldOff Try.prog 47 1 = some 1 := by kernel_rfl
theorem I3 : eInfo Try.prog 3 = some (.int .i64 0, 1, 8) := by kernel_rfl
theorem I5 : eInfo Try.prog 5 = some (.int .u8 0, 1, 1) := by kernel_rfl
theorem I30 : eInfo Try.prog 30 = some (.agg #[.int .u32 0, .int .u32 0, .int .i64 0, .int .u32 0, .int .u32 0, .int .u32 0, .int .u32 0], 7, 32) := by kernel_rfl
theorem I45 : eInfo Try.prog 45 = some (.slice none 0 0, 1, 24) := by kernel_rfl
theorem I47 : eInfo Try.prog 47 = some (.agg #[.int .i64 0, .slice none 0 0], 2, 32) := by kernel_rfl
theorem Mixed : Try.prog.follows .mixedOrders = true := by kernel_rfl
theorem QF28 : (Try.prog.fieldsOf 28).toList = [Field.mk "At" 3 0 false "" "" 0, Field.mk "Birth" 26 1 false "" "" 8, Field.mk "Iv" 26 2 false "" "" 12, Field.mk "Tag" 26 3 false "" "" 16, Field.mk "Sum" 26 4 false "" "" 20] := by kernel_rfl
theorem QF30 : (Try.prog.fieldsOf 30).toList = [Field.mk "Gen" 26 0 false "" "" 0, Field.mk "Epoch" 26 1 false "" "" 4, Field.mk "Root" 28 2 false "" "" 8] := by kernel_rfl
theorem QG28 : Try.prog.eqGuardType Try.prog.depth 28 = false := by kernel_rfl
theorem QG30 : Try.prog.eqGuardType Try.prog.depth 30 = false := by kernel_rfl
theorem QP28 : Try.prog.stoodInHeld 28 = false := by kernel_rfl
theorem QP30 : Try.prog.stoodInHeld 30 = false := by kernel_rfl
theorem QU28 : Try.prog.underlying 28 = some (.struct (Try.prog.fieldsOf 28)) := by kernel_rfl
theorem QU30 : Try.prog.underlying 30 = some (.struct (Try.prog.fieldsOf 30)) := by kernel_rfl
theorem S3 : shapeOf Try.prog 3 = some (false, 1) := by kernel_rfl
theorem S4 : shapeOf Try.prog 4 = some (false, 1) := by kernel_rfl
theorem S5 : shapeOf Try.prog 5 = some (false, 1) := by kernel_rfl
theorem S22 : shapeOf Try.prog 22 = some (false, 1) := by kernel_rfl
theorem S23 : shapeOf Try.prog 23 = some (false, 1) := by kernel_rfl
theorem S25 : shapeOf Try.prog 25 = some (true, 2) := by kernel_rfl
theorem S26 : shapeOf Try.prog 26 = some (false, 1) := by kernel_rfl
theorem S28 : shapeOf Try.prog 28 = some (true, 5) := by kernel_rfl
theorem S30 : shapeOf Try.prog 30 = some (true, 7) := by kernel_rfl
theorem S45 : shapeOf Try.prog 45 = some (false, 1) := by kernel_rfl
theorem S47 : shapeOf Try.prog 47 = some (true, 2) := by kernel_rfl
theorem S158 : shapeOf Try.prog 158 = some (true, 5) := by kernel_rfl
theorem S160 : shapeOf Try.prog 160 = some (true, 4) := by kernel_rfl
theorem S161 : shapeOf Try.prog 161 = some (true, 4) := by kernel_rfl
theorem U3 : Try.prog.underlying 3 = some (.int .i64) := by kernel_rfl
theorem U5 : Try.prog.underlying 5 = some (.int .u8) := by kernel_rfl
theorem U9 : Try.prog.underlying 9 = some (.string) := by kernel_rfl
theorem U22 : Try.prog.underlying 22 = some (.slice 45) := by kernel_rfl
theorem U23 : Try.prog.underlying 23 = some (.slice 47) := by kernel_rfl
theorem U26 : Try.prog.underlying 26 = some (.int .u32) := by kernel_rfl
theorem U38 : Try.prog.underlying 38 = some (.slice 30) := by kernel_rfl
theorem U45 : Try.prog.underlying 45 = some (.slice 5) := by kernel_rfl
theorem U75 : Try.prog.underlying 75 = some (.slice 3) := by kernel_rfl
theorem U133 : Try.prog.underlying 133 = some (.int .u64) := by kernel_rfl
theorem U158 : Try.prog.underlying 158 = some (.array 5 3) := by kernel_rfl
theorem U160 : Try.prog.underlying 160 = some (.array 4 26) := by kernel_rfl
theorem U161 : Try.prog.underlying 161 = some (.array 4 26) := by kernel_rfl
theorem U166 : Try.prog.underlying 166 = some (.map 3 47) := by kernel_rfl
theorem U207 : Try.prog.underlying 207 = some (.slice 4) := by kernel_rfl
theorem Z3 : zeroOf Try.prog 3 = some (.int .i64 0) := by kernel_rfl
theorem Z25 : zeroOf Try.prog 25 = some (.agg #[.slice none 0 0, .slice none 0 0]) := by kernel_rfl
theorem Z28 : zeroOf Try.prog 28 = some (.agg #[.int .i64 0, .int .u32 0, .int .u32 0, .int .u32 0, .int .u32 0]) := by kernel_rfl
theorem Z30 : zeroOf Try.prog 30 = some (.agg #[.int .u32 0, .int .u32 0, .int .i64 0, .int .u32 0, .int .u32 0, .int .u32 0, .int .u32 0]) := by kernel_rfl
theorem Z47 : zeroOf Try.prog 47 = some (.agg #[.int .i64 0, .slice none 0 0]) := by kernel_rfl
theorem Z158 : zeroOf Try.prog 158 = some (.agg #[.int .i64 0, .int .i64 0, .int .i64 0, .int .i64 0, .int .i64 0]) := by kernel_rfl
theorem Z160 : zeroOf Try.prog 160 = some (.agg #[.int .u32 0, .int .u32 0, .int .u32 0, .int .u32 0]) := by kernel_rfl
theorem Z161 : zeroOf Try.prog 161 = some (.agg #[.int .u32 0, .int .u32 0, .int .u32 0, .int .u32 0]) := by kernel_rfl
end Go.Proofs.Ytdoebbgjjlicjaa
