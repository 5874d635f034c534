import Derived.Test.YtdoebbgjjlicjaaGreatProg
import Derived.Test.YtdoebbgjjlicjaaGreatOwMc
import Derived.KernelRfl
/- closed facts of this program. -/
namespace Go.Proofs.YtdoebbgjjlicjaaGreat
open Go.Ow Go.RowKit Go.Proofs
set_option linter.unusedVariables false
set_option linter.unusedSimpArgs false
theorem B25 : placesOf Tryz.prog 25 = some [(0, 1), (1, 1)] := by kernel_rfl
theorem B31 : placesOf Tryz.prog 31 = some [(0, 1), (1, 1), (2, 1), (3, 1), (4, 1)] := by kernel_rfl
theorem B41 : placesOf Tryz.prog 41 = some [(0, 1), (1, 1), (2, 1), (3, 1)] := by kernel_rfl
theorem B101 : placesOf Tryz.prog 101 = some [(0, 1), (1, 1)] := by kernel_rfl
theorem B137 : placesA Tryz.prog 137 4 = some [(0, 1), (1, 1), (2, 1), (3, 1)] := by kernel_rfl
theorem B138 : placesA Tryz.prog 138 4 = some [(0, 1), (1, 1), (2, 1), (3, 1)] := by kernel_rfl
theorem B140 : placesA Tryz.prog 140 5 = some [(0, 1), (1, 1), (2, 1), (3, 1), (4, 1)] := by kernel_rfl
theorem B148 : placesA Tryz.prog 148 12 = some [(0, 1), (1, 1), (2, 1), (3, 1), (4, 1), (5, 1), (6, 1), (7, 1), (8, 1), (9, 1), (10, 1), (11, 1)] := by kernel_rfl
theorem C5 : Tryz.prog.cellsOf 5 = 1 := by kernel_rfl
theorem E6 : Enters Tryz.prog 6 := ZY Tryz.func6 (by kernel_rfl) (by kernel_rfl)
theorem E7 : Enters Tryz.prog 7 := ZY Tryz.func7 (by kernel_rfl) (by kernel_rfl)
theorem E8 : Enters Tryz.prog 8 := ZY Tryz.func8 (by kernel_rfl) (by kernel_rfl)
theorem E9 : Enters Tryz.prog 9 := ZY Tryz.func9 (by kernel_rfl) (by kernel_rfl)
theorem E10 : Enters Tryz.prog 10 := ZY Tryz.func10 (by kernel_rfl) (by kernel_rfl)
theorem E11 : Enters Tryz.prog 11 := ZY Tryz.func11 (by kernel_rfl) (by kernel_rfl)
theorem E12 : Enters Tryz.prog 12 := ZY Tryz.func12 (by kernel_rfl) (by kernel_rfl)
theorem E13 : Enters Tryz.prog 13 := ZY Tryz.func13 (by kernel_rfl) (by kernel_rfl)
theorem E14 : Enters Tryz.prog 14 := ZY Tryz.func14 (by kernel_rfl) (by kernel_rfl)
theorem E15 : Enters Tryz.prog 15 := ZY Tryz.func15 (by kernel_rfl) (by kernel_rfl)
theorem E16 : Enters Tryz.prog 16 := ZY Tryz.func16 (by kernel_rfl) (by kernel_rfl)
theorem E25 : Enters Tryz.prog 25 := ZY Tryz.func25 (by kernel_rfl) (by kernel_rfl)
theorem E26 : Enters Tryz.prog 26 := ZY Tryz.func26 (by kernel_rfl) (by kernel_rfl)
theorem E27 : Enters Tryz.prog 27 := ZY Tryz.func27 (by kernel_rfl) (by kernel_rfl)
theorem E28 : Enters Tryz.prog 28 := ZY Tryz.func28 (by kernel_rfl) (by kernel_rfl)
theorem E29 : Enters Tryz.prog 29 := ZY Tryz.func29 (by kernel_rfl) (by kernel_rfl)
theorem E30 : Enters Tryz.prog 30 := ZY Tryz.func30 (by kernel_rfl) (by kernel_rfl)
theorem E31 : Enters Tryz.prog 31 := ZY Tryz.func31 (by kernel_rfl) (by kernel_rfl)
theorem E32 : Enters Tryz.prog 32 := ZY Tryz.func32 (by kernel_rfl) (by kernel_rfl)
theorem E33 : Enters Tryz.prog 33 := ZY Tryz.func33 (by kernel_rfl) (by kernel_rfl)
theorem E34 : Enters Tryz.prog 34 := ZY Tryz.func34 (by kernel_rfl) (by kernel_rfl)
theorem E35 : Enters Tryz.prog 35 := ZY Tryz.func35 (by kernel_rfl) (by kernel_rfl)
theorem E36 : Enters Tryz.prog 36 := ZY Tryz.func36 (by kernel_rfl) (by kernel_rfl)
theorem E37 : Enters Tryz.prog 37 := ZY Tryz.func37 (by kernel_rfl) (by kernel_rfl)
theorem E38 : Enters Tryz.prog 38 := ZY Tryz.func38 (by kernel_rfl) (by kernel_rfl)
theorem E45 : Enters Tryz.prog 45 := ZY Tryz.func45 (by kernel_rfl) (by kernel_rfl)
theorem E51 : Enters Tryz.prog 51 := ZY Tryz.func51 (by kernel_rfl) (by kernel_rfl)
theorem E55 : Enters Tryz.prog 55 := ZY Tryz.func55 (by kernel_rfl) (by kernel_rfl)
theorem E56 : Enters Tryz.prog 56 := ZY Tryz.func56 (by kernel_rfl) (by kernel_rfl)
theorem E57 : Enters Tryz.prog 57 := ZY Tryz.func57 (by kernel_rfl) (by kernel_rfl)
theorem E58 : Enters Tryz.prog 58 := ZY Tryz.func58 (by kernel_rfl) (by kernel_rfl)
theorem E59 : Enters Tryz.prog 59 := ZY Tryz.func59 (by kernel_rfl) (by kernel_rfl)
theorem E60 : Enters Tryz.prog 60 := ZY Tryz.func60 (by kernel_rfl) (by kernel_rfl)
theorem E61 : Enters Tryz.prog 61 := ZY Tryz.func61 (by kernel_rfl) (by kernel_rfl)
theorem E62 : Enters Tryz.prog 62 := ZY Tryz.func62 (by kernel_rfl) (by kernel_rfl)
theorem E63 : Enters Tryz.prog 63 := ZY Tryz.func63 (by kernel_rfl) (by kernel_rfl)
theorem E64 : Enters Tryz.prog 64 := ZY Tryz.func64 (by kernel_rfl) (by kernel_rfl)
theorem E65 : Enters Tryz.prog 65 := ZY Tryz.func65 (by kernel_rfl) (by kernel_rfl)
theorem E66 : Enters Tryz.prog 66 := ZY Tryz.func66 (by kernel_rfl) (by kernel_rfl)
theorem E67 : Enters Tryz.prog 67 := ZY Tryz.func67 (by kernel_rfl) (by kernel_rfl)
theorem E69 : Enters Tryz.prog 69 := ZY Tryz.func69 (by kernel_rfl) (by kernel_rfl)
theorem E70 : Enters Tryz.prog 70 := ZY Tryz.func70 (by kernel_rfl) (by kernel_rfl)
theorem E74 : Enters Tryz.prog 74 := ZY Tryz.func74 (by kernel_rfl) (by kernel_rfl)
theorem E75 : Enters Tryz.prog 75 := ZY Tryz.func75 (by kernel_rfl) (by kernel_rfl)
theorem E80 : Enters Tryz.prog 80 := ZY Tryz.func80 (by kernel_rfl) (by kernel_rfl)
theorem E85 : Enters Tryz.prog 85 := ZY Tryz.func85 (by kernel_rfl) (by kernel_rfl)
theorem E86 : Enters Tryz.prog 86 := ZY Tryz.func86 (by kernel_rfl) (by kernel_rfl)
theorem E87 : Enters Tryz.prog 87 := ZY Tryz.func87 (by kernel_rfl) (by kernel_rfl)
theorem E88 : Enters Tryz.prog 88 := ZY Tryz.func88 (by kernel_rfl) (by kernel_rfl)
theorem E89 : Enters Tryz.prog 89 := ZY Tryz.func89 (by kernel_rfl) (by kernel_rfl)
theorem E90 : Enters Tryz.prog 90 := ZY Tryz.func90 (by kernel_rfl) (by kernel_rfl)
theorem E91 : Enters Tryz.prog 91 := ZY Tryz.func91 (by kernel_rfl) (by kernel_rfl)
theorem E92 : Enters Tryz.prog 92 := ZY Tryz.func92 (by kernel_rfl) (by kernel_rfl)
theorem E93 : Enters Tryz.prog 93 := ZY Tryz.func93 (by kernel_rfl) (by kernel_rfl)
theorem E94 : Enters Tryz.prog 94 := ZY Tryz.func94 (by kernel_rfl) (by kernel_rfl)
theorem E95 : Enters Tryz.prog 95 := ZY Tryz.func95 (by kernel_rfl) (by kernel_rfl)
theorem E96 : Enters Tryz.prog 96 := ZY Tryz.func96 (by kernel_rfl) (by kernel_rfl)
theorem E97 : Enters Tryz.prog 97 := ZY Tryz.func97 (by kernel_rfl) (by kernel_rfl)
theorem E98 : Enters Tryz.prog 98 := ZY Tryz.func98 (by kernel_rfl) (by kernel_rfl)
theorem E99 : Enters Tryz.prog 99 := ZY Tryz.func99 (by kernel_rfl) (by kernel_rfl)
theorem E100 : Enters Tryz.prog 100 := ZY Tryz.func100 (by kernel_rfl) (by kernel_rfl)
theorem E101 : Enters Tryz.prog 101 := ZY Tryz.func101 (by kernel_rfl) (by kernel_rfl)
theorem E103 : Enters Tryz.prog 103 := ZY Tryz.func103 (by kernel_rfl) (by kernel_rfl)
theorem E107 : Enters Tryz.prog 107 := ZY Tryz.func107 (by kernel_rfl) (by kernel_rfl)
theorem E111 : Enters Tryz.prog 111 := ZY Tryz.func111 (by kernel_rfl) (by kernel_rfl)
theorem E112 : Enters Tryz.prog 112 := ZY Tryz.func112 (by kernel_rfl) (by kernel_rfl)
theorem E118 : Enters Tryz.prog 118 := ZY Tryz.func118 (by kernel_rfl) (by kernel_rfl)
theorem E120 : Enters Tryz.prog 120 := ZY Tryz.func120 (by kernel_rfl) (by kernel_rfl)
theorem E121 : Enters Tryz.prog 121 := ZY Tryz.func121 (by kernel_rfl) (by kernel_rfl)
theorem E122 : Enters Tryz.prog 122 := ZY Tryz.func122 (by kernel_rfl) (by kernel_rfl)
theorem E123 : Enters Tryz.prog 123 := ZY Tryz.func123 (by kernel_rfl) (by kernel_rfl)
theorem E124 : Enters Tryz.prog 124 := ZY Tryz.func124 (by kernel_rfl) (by kernel_rfl)
theorem E125 : Enters Tryz.prog 125 := ZY Tryz.func125 (by kernel_rfl) (by kernel_rfl)
theorem E126 : Enters Tryz.prog 126 := ZY Tryz.func126 (by kernel_rfl) (by kernel_rfl)
theorem E127 : Enters Tryz.prog 127 := ZY Tryz.func127 (by kernel_rfl) (by kernel_rfl)
theorem E128 : Enters Tryz.prog 128 := ZY Tryz.func128 (by kernel_rfl) (by kernel_rfl)
theorem E129 : Enters Tryz.prog 129 := ZY Tryz.func129 (by kernel_rfl) (by kernel_rfl)
theorem E130 : Enters Tryz.prog 130 := ZY Tryz.func130 (by kernel_rfl) (by kernel_rfl)
theorem E131 : Enters Tryz.prog 131 := ZY Tryz.func131 (by kernel_rfl) (by kernel_rfl)
theorem E132 : Enters Tryz.prog 132 := ZY Tryz.func132 (by kernel_rfl) (by kernel_rfl)
theorem E133 : Enters Tryz.prog 133 := ZY Tryz.func133 (by kernel_rfl) (by kernel_rfl)
theorem E137 : Enters Tryz.prog 137 := ZY Tryz.func137 (by kernel_rfl) (by kernel_rfl)
theorem E147 : Enters Tryz.prog 147 := ZY Tryz.func147 (by kernel_rfl) (by kernel_rfl)
theorem E148 : Enters Tryz.prog 148 := ZY Tryz.func148 (by kernel_rfl) (by kernel_rfl)
theorem E149 : Enters Tryz.prog 149 := ZY Tryz.func149 (by kernel_rfl) (by kernel_rfl)
theorem E150 : Enters Tryz.prog 150 := ZY Tryz.func150 (by kernel_rfl) (by kernel_rfl)
theorem E151 : Enters Tryz.prog 151 := ZY Tryz.func151 (by kernel_rfl) (by kernel_rfl)
theorem E167 : Enters Tryz.prog 167 := ZY Tryz.func167 (by kernel_rfl) (by kernel_rfl)
theorem E168 : Enters Tryz.prog 168 := ZY Tryz.func168 (by kernel_rfl) (by kernel_rfl)
theorem E169 : Enters Tryz.prog 169 := ZY Tryz.func169 (by kernel_rfl) (by kernel_rfl)
theorem E170 : Enters Tryz.prog 170 := ZY Tryz.func170 (by kernel_rfl) (by kernel_rfl)
theorem E171 : Enters Tryz.prog 171 := ZY Tryz.func171 (by kernel_rfl) (by kernel_rfl)
theorem F25_0 : fieldOff Tryz.prog 25 0 = some 0 := by kernel_rfl
theorem F25_1 : fieldOff Tryz.prog 25 1 = some 1 := by kernel_rfl
theorem F29_0 : fieldOff Tryz.prog 29 0 = some 0 := by kernel_rfl
theorem F29_1 : fieldOff Tryz.prog 29 1 = some 2 := by kernel_rfl
theorem F29_2 : fieldOff Tryz.prog 29 2 = some 3 := by kernel_rfl
theorem F29_3 : fieldOff Tryz.prog 29 3 = some 4 := by kernel_rfl
theorem F31_0 : fieldOff Tryz.prog 31 0 = some 0 := by kernel_rfl
theorem F31_1 : fieldOff Tryz.prog 31 1 = some 1 := by kernel_rfl
theorem F31_2 : fieldOff Tryz.prog 31 2 = some 2 := by kernel_rfl
theorem F31_3 : fieldOff Tryz.prog 31 3 = some 3 := by kernel_rfl
theorem F31_4 : fieldOff Tryz.prog 31 4 = some 4 := by kernel_rfl
theorem F41_0 : fieldOff Tryz.prog 41 0 = some 0 := by kernel_rfl
theorem F41_1 : fieldOff Tryz.prog 41 1 = some 1 := by kernel_rfl
theorem F41_2 : fieldOff Tryz.prog 41 2 = some 2 := by kernel_rfl
theorem F41_3 : fieldOff Tryz.prog 41 3 = some 3 := by kernel_rfl
theorem F101_0 : fieldOff Tryz.prog 101 0 = some 0 := by kernel_rfl
theorem F101_1 : fieldOff Tryz.prog 101 1 = some 1 := by kernel_rfl
theorem I3 : eInfo Tryz.prog 3 = some (.int .i64 0, 1, 8) := by kernel_rfl
theorem I5 : eInfo Tryz.prog 5 = some (.int .u8 0, 1, 1) := by kernel_rfl
theorem I26 : eInfo Tryz.prog 26 = some (.slice none 0 0, 1, 24) := by kernel_rfl
theorem I31 : eInfo Tryz.prog 31 = some (.agg #[.int .i64 0, .int .u32 0, .int .u32 0, .int .u32 0, .int .u32 0], 5, 24) := by kernel_rfl
theorem I101 : eInfo Tryz.prog 101 = some (.agg #[.int .i64 0, .slice none 0 0], 2, 32) := by kernel_rfl
theorem Mixed : Tryz.prog.follows .mixedOrders = true := by kernel_rfl
theorem QF31 : (Tryz.prog.fieldsOf 31).toList = [Field.mk "At" 3 0 false "" "" 0, Field.mk "Birth" 27 1 false "" "" 8, Field.mk "Iv" 27 2 false "" "" 12, Field.mk "Tag" 27 3 false "" "" 16, Field.mk "Sum" 27 4 false "" "" 20] := by kernel_rfl
theorem QG31 : Tryz.prog.eqGuardType Tryz.prog.depth 31 = false := by kernel_rfl
theorem QG148 : Tryz.prog.eqGuardType Tryz.prog.depth 148 = false := by kernel_rfl
theorem QP31 : Tryz.prog.stoodInHeld 31 = false := by kernel_rfl
theorem QU31 : Tryz.prog.underlying 31 = some (.struct (Tryz.prog.fieldsOf 31)) := by kernel_rfl
theorem S3 : shapeOf Tryz.prog 3 = some (false, 1) := by kernel_rfl
theorem S4 : shapeOf Tryz.prog 4 = some (false, 1) := by kernel_rfl
theorem S5 : shapeOf Tryz.prog 5 = some (false, 1) := by kernel_rfl
theorem S22 : shapeOf Tryz.prog 22 = some (false, 1) := by kernel_rfl
theorem S23 : shapeOf Tryz.prog 23 = some (false, 1) := by kernel_rfl
theorem S25 : shapeOf Tryz.prog 25 = some (true, 2) := by kernel_rfl
theorem S26 : shapeOf Tryz.prog 26 = some (false, 1) := by kernel_rfl
theorem S27 : shapeOf Tryz.prog 27 = some (false, 1) := by kernel_rfl
theorem S29 : shapeOf Tryz.prog 29 = some (true, 5) := by kernel_rfl
theorem S31 : shapeOf Tryz.prog 31 = some (true, 5) := by kernel_rfl
theorem S34 : shapeOf Tryz.prog 34 = some (false, 1) := by kernel_rfl
theorem S35 : shapeOf Tryz.prog 35 = some (false, 1) := by kernel_rfl
theorem S41 : shapeOf Tryz.prog 41 = some (true, 4) := by kernel_rfl
theorem S80 : shapeOf Tryz.prog 80 = some (false, 1) := by kernel_rfl
theorem S101 : shapeOf Tryz.prog 101 = some (true, 2) := by kernel_rfl
theorem S137 : shapeOf Tryz.prog 137 = some (true, 4) := by kernel_rfl
theorem S138 : shapeOf Tryz.prog 138 = some (true, 4) := by kernel_rfl
theorem S140 : shapeOf Tryz.prog 140 = some (true, 5) := by kernel_rfl
theorem S147 : shapeOf Tryz.prog 147 = some (true, 16) := by kernel_rfl
theorem S148 : shapeOf Tryz.prog 148 = some (true, 12) := by kernel_rfl
theorem U3 : Tryz.prog.underlying 3 = some (.int .i64) := by kernel_rfl
theorem U5 : Tryz.prog.underlying 5 = some (.int .u8) := by kernel_rfl
theorem U9 : Tryz.prog.underlying 9 = some (.string) := by kernel_rfl
theorem U22 : Tryz.prog.underlying 22 = some (.slice 26) := by kernel_rfl
theorem U23 : Tryz.prog.underlying 23 = some (.slice 101) := by kernel_rfl
theorem U26 : Tryz.prog.underlying 26 = some (.slice 5) := by kernel_rfl
theorem U27 : Tryz.prog.underlying 27 = some (.int .u32) := by kernel_rfl
theorem U34 : Tryz.prog.underlying 34 = some (.slice 31) := by kernel_rfl
theorem U52 : Tryz.prog.underlying 52 = some (.slice 3) := by kernel_rfl
theorem U137 : Tryz.prog.underlying 137 = some (.array 4 27) := by kernel_rfl
theorem U138 : Tryz.prog.underlying 138 = some (.array 4 27) := by kernel_rfl
theorem U140 : Tryz.prog.underlying 140 = some (.array 5 3) := by kernel_rfl
theorem U147 : Tryz.prog.underlying 147 = some (.array 16 5) := by kernel_rfl
theorem U148 : Tryz.prog.underlying 148 = some (.array 12 5) := by kernel_rfl
theorem U167 : Tryz.prog.underlying 167 = some (.int .u64) := by kernel_rfl
theorem U171 : Tryz.prog.underlying 171 = some (.map 3 101) := by kernel_rfl
theorem U192 : Tryz.prog.underlying 192 = some (.slice 4) := by kernel_rfl
theorem Z3 : zeroOf Tryz.prog 3 = some (.int .i64 0) := by kernel_rfl
theorem Z25 : zeroOf Tryz.prog 25 = some (.agg #[.slice none 0 0, .slice none 0 0]) := by kernel_rfl
theorem Z29 : zeroOf Tryz.prog 29 = some (.agg #[.slice none 0 0, .slice none 0 0, .slice none 0 0, .int .u32 0, .int .u32 0]) := by kernel_rfl
theorem Z31 : zeroOf Tryz.prog 31 = some (.agg #[.int .i64 0, .int .u32 0, .int .u32 0, .int .u32 0, .int .u32 0]) := by kernel_rfl
theorem Z34 : zeroOf Tryz.prog 34 = some (.slice none 0 0) := by kernel_rfl
theorem Z35 : zeroOf Tryz.prog 35 = some (.int .i64 0) := by kernel_rfl
theorem Z41 : zeroOf Tryz.prog 41 = some (.agg #[.int .u8 0, .int .i64 0, .int .i64 0, .slice none 0 0]) := by kernel_rfl
theorem Z101 : zeroOf Tryz.prog 101 = some (.agg #[.int .i64 0, .slice none 0 0]) := by kernel_rfl
theorem Z137 : zeroOf Tryz.prog 137 = some (.agg #[.int .u32 0, .int .u32 0, .int .u32 0, .int .u32 0]) := by kernel_rfl
theorem Z138 : zeroOf Tryz.prog 138 = some (.agg #[.int .u32 0, .int .u32 0, .int .u32 0, .int .u32 0]) := by kernel_rfl
theorem Z140 : zeroOf Tryz.prog 140 = some (.agg #[.int .i64 0, .int .i64 0, .int .i64 0, .int .i64 0, .int .i64 0]) := by kernel_rfl
theorem Z147 : zeroOf Tryz.prog 147 = some (.agg #[.int .u8 0, .int .u8 0, .int .u8 0, .int .u8 0, .int .u8 0, .int .u8 0, .int .u8 0, .int .u8 0, .int .u8 0, .int .u8 0, .int .u8 0, .int .u8 0, .int .u8 0, .int .u8 0, .int .u8 0, .int .u8 0]) := by kernel_rfl
theorem Z148 : zeroOf Tryz.prog 148 = some (.agg #[.int .u8 0, .int .u8 0, .int .u8 0, .int .u8 0, .int .u8 0, .int .u8 0, .int .u8 0, .int .u8 0, .int .u8 0, .int .u8 0, .int .u8 0, .int .u8 0]) := by kernel_rfl
end Go.Proofs.YtdoebbgjjlicjaaGreat
