/- closed facts of this program. -/
import Derived.Test.YtdelcjkjkhcaoabProg
import Derived.Test.YtdelcjkjkhcaoabOwZD
import Derived.KernelRfl
namespace Go.Proofs.Ytdelcjkjkhcaoab
open Go.Ow Go.RowKit Go.Proofs
set_option linter.unusedVariables false
set_option linter.unusedSimpArgs false
theorem B25 : placesOf Try.prog 25 = some [(0, 1), (1, 1)] := by kernel_rfl
theorem B29 : placesOf Try.prog 29 = some [(0, 2), (2, 1), (3, 1), (4, 1)] := by kernel_rfl
theorem B31 : placesOf Try.prog 31 = some [(0, 1), (1, 1), (2, 1), (3, 1), (4, 1)] := by kernel_rfl
theorem B69 : placesOf Try.prog 69 = some [(0, 1), (1, 1)] := by kernel_rfl
theorem B80 : placesA Try.prog 80 4 = some [(0, 1), (1, 1), (2, 1), (3, 1)] := by kernel_rfl
theorem E5 : Enters Try.prog 5 := enters_of Try.func5 (by kernel_rfl) (by kernel_rfl)
theorem E6 : Enters Try.prog 6 := enters_of Try.func6 (by kernel_rfl) (by kernel_rfl)
theorem E7 : Enters Try.prog 7 := enters_of Try.func7 (by kernel_rfl) (by kernel_rfl)
theorem E8 : Enters Try.prog 8 := enters_of Try.func8 (by kernel_rfl) (by kernel_rfl)
theorem E9 : Enters Try.prog 9 := enters_of Try.func9 (by kernel_rfl) (by kernel_rfl)
theorem E10 : Enters Try.prog 10 := enters_of Try.func10 (by kernel_rfl) (by kernel_rfl)
theorem E13 : Enters Try.prog 13 := enters_of Try.func13 (by kernel_rfl) (by kernel_rfl)
theorem E14 : Enters Try.prog 14 := enters_of Try.func14 (by kernel_rfl) (by kernel_rfl)
theorem E15 : Enters Try.prog 15 := enters_of Try.func15 (by kernel_rfl) (by kernel_rfl)
theorem E16 : Enters Try.prog 16 := enters_of Try.func16 (by kernel_rfl) (by kernel_rfl)
theorem E17 : Enters Try.prog 17 := enters_of Try.func17 (by kernel_rfl) (by kernel_rfl)
theorem E18 : Enters Try.prog 18 := enters_of Try.func18 (by kernel_rfl) (by kernel_rfl)
theorem E19 : Enters Try.prog 19 := enters_of Try.func19 (by kernel_rfl) (by kernel_rfl)
theorem E20 : Enters Try.prog 20 := enters_of Try.func20 (by kernel_rfl) (by kernel_rfl)
theorem E21 : Enters Try.prog 21 := enters_of Try.func21 (by kernel_rfl) (by kernel_rfl)
theorem E22 : Enters Try.prog 22 := enters_of Try.func22 (by kernel_rfl) (by kernel_rfl)
theorem E23 : Enters Try.prog 23 := enters_of Try.func23 (by kernel_rfl) (by kernel_rfl)
theorem E24 : Enters Try.prog 24 := enters_of Try.func24 (by kernel_rfl) (by kernel_rfl)
theorem E25 : Enters Try.prog 25 := enters_of Try.func25 (by kernel_rfl) (by kernel_rfl)
theorem E27 : Enters Try.prog 27 := enters_of Try.func27 (by kernel_rfl) (by kernel_rfl)
theorem E28 : Enters Try.prog 28 := enters_of Try.func28 (by kernel_rfl) (by kernel_rfl)
theorem E29 : Enters Try.prog 29 := enters_of Try.func29 (by kernel_rfl) (by kernel_rfl)
theorem E30 : Enters Try.prog 30 := enters_of Try.func30 (by kernel_rfl) (by kernel_rfl)
theorem E31 : Enters Try.prog 31 := enters_of Try.func31 (by kernel_rfl) (by kernel_rfl)
theorem E32 : Enters Try.prog 32 := enters_of Try.func32 (by kernel_rfl) (by kernel_rfl)
theorem E33 : Enters Try.prog 33 := enters_of Try.func33 (by kernel_rfl) (by kernel_rfl)
theorem E34 : Enters Try.prog 34 := enters_of Try.func34 (by kernel_rfl) (by kernel_rfl)
theorem E35 : Enters Try.prog 35 := enters_of Try.func35 (by kernel_rfl) (by kernel_rfl)
theorem E36 : Enters Try.prog 36 := enters_of Try.func36 (by kernel_rfl) (by kernel_rfl)
theorem E37 : Enters Try.prog 37 := enters_of Try.func37 (by kernel_rfl) (by kernel_rfl)
theorem E38 : Enters Try.prog 38 := enters_of Try.func38 (by kernel_rfl) (by kernel_rfl)
theorem E39 : Enters Try.prog 39 := enters_of Try.func39 (by kernel_rfl) (by kernel_rfl)
theorem E40 : Enters Try.prog 40 := enters_of Try.func40 (by kernel_rfl) (by kernel_rfl)
theorem E41 : Enters Try.prog 41 := enters_of Try.func41 (by kernel_rfl) (by kernel_rfl)
theorem E42 : Enters Try.prog 42 := enters_of Try.func42 (by kernel_rfl) (by kernel_rfl)
theorem E43 : Enters Try.prog 43 := enters_of Try.func43 (by kernel_rfl) (by kernel_rfl)
theorem E44 : Enters Try.prog 44 := enters_of Try.func44 (by kernel_rfl) (by kernel_rfl)
theorem E45 : Enters Try.prog 45 := enters_of Try.func45 (by kernel_rfl) (by kernel_rfl)
theorem E46 : Enters Try.prog 46 := enters_of Try.func46 (by kernel_rfl) (by kernel_rfl)
theorem E47 : Enters Try.prog 47 := enters_of Try.func47 (by kernel_rfl) (by kernel_rfl)
theorem E48 : Enters Try.prog 48 := enters_of Try.func48 (by kernel_rfl) (by kernel_rfl)
theorem E49 : Enters Try.prog 49 := enters_of Try.func49 (by kernel_rfl) (by kernel_rfl)
theorem E50 : Enters Try.prog 50 := enters_of Try.func50 (by kernel_rfl) (by kernel_rfl)
theorem E52 : Enters Try.prog 52 := enters_of Try.func52 (by kernel_rfl) (by kernel_rfl)
theorem E53 : Enters Try.prog 53 := enters_of Try.func53 (by kernel_rfl) (by kernel_rfl)
theorem E54 : Enters Try.prog 54 := enters_of Try.func54 (by kernel_rfl) (by kernel_rfl)
theorem E56 : Enters Try.prog 56 := enters_of Try.func56 (by kernel_rfl) (by kernel_rfl)
theorem E57 : Enters Try.prog 57 := enters_of Try.func57 (by kernel_rfl) (by kernel_rfl)
theorem E58 : Enters Try.prog 58 := enters_of Try.func58 (by kernel_rfl) (by kernel_rfl)
theorem E59 : Enters Try.prog 59 := enters_of Try.func59 (by kernel_rfl) (by kernel_rfl)
theorem E60 : Enters Try.prog 60 := enters_of Try.func60 (by kernel_rfl) (by kernel_rfl)
theorem E61 : Enters Try.prog 61 := enters_of Try.func61 (by kernel_rfl) (by kernel_rfl)
theorem E62 : Enters Try.prog 62 := enters_of Try.func62 (by kernel_rfl) (by kernel_rfl)
theorem E63 : Enters Try.prog 63 := enters_of Try.func63 (by kernel_rfl) (by kernel_rfl)
theorem E64 : Enters Try.prog 64 := enters_of Try.func64 (by kernel_rfl) (by kernel_rfl)
theorem E65 : Enters Try.prog 65 := enters_of Try.func65 (by kernel_rfl) (by kernel_rfl)
theorem E66 : Enters Try.prog 66 := enters_of Try.func66 (by kernel_rfl) (by kernel_rfl)
theorem E67 : Enters Try.prog 67 := enters_of Try.func67 (by kernel_rfl) (by kernel_rfl)
theorem E68 : Enters Try.prog 68 := enters_of Try.func68 (by kernel_rfl) (by kernel_rfl)
theorem E69 : Enters Try.prog 69 := enters_of Try.func69 (by kernel_rfl) (by kernel_rfl)
theorem E70 : Enters Try.prog 70 := enters_of Try.func70 (by kernel_rfl) (by kernel_rfl)
theorem E71 : Enters Try.prog 71 := enters_of Try.func71 (by kernel_rfl) (by kernel_rfl)
theorem E79 : Enters Try.prog 79 := enters_of Try.func79 (by kernel_rfl) (by kernel_rfl)
theorem E80 : Enters Try.prog 80 := enters_of Try.func80 (by kernel_rfl) (by kernel_rfl)
theorem E81 : Enters Try.prog 81 := enters_of Try.func81 (by kernel_rfl) (by kernel_rfl)
theorem E82 : Enters Try.prog 82 := enters_of Try.func82 (by kernel_rfl) (by kernel_rfl)
theorem E83 : Enters Try.prog 83 := enters_of Try.func83 (by kernel_rfl) (by kernel_rfl)
theorem E84 : Enters Try.prog 84 := enters_of Try.func84 (by kernel_rfl) (by kernel_rfl)
theorem E85 : Enters Try.prog 85 := enters_of Try.func85 (by kernel_rfl) (by kernel_rfl)
theorem E87 : Enters Try.prog 87 := enters_of Try.func87 (by kernel_rfl) (by kernel_rfl)
theorem E90 : Enters Try.prog 90 := enters_of Try.func90 (by kernel_rfl) (by kernel_rfl)
theorem E91 : Enters Try.prog 91 := enters_of Try.func91 (by kernel_rfl) (by kernel_rfl)
theorem E92 : Enters Try.prog 92 := enters_of Try.func92 (by kernel_rfl) (by kernel_rfl)
theorem E93 : Enters Try.prog 93 := enters_of Try.func93 (by kernel_rfl) (by kernel_rfl)
theorem E94 : Enters Try.prog 94 := enters_of Try.func94 (by kernel_rfl) (by kernel_rfl)
theorem E95 : Enters Try.prog 95 := enters_of Try.func95 (by kernel_rfl) (by kernel_rfl)
theorem E96 : Enters Try.prog 96 := enters_of Try.func96 (by kernel_rfl) (by kernel_rfl)
theorem F25_0 : fieldOff Try.prog 25 0 = some 0 := by kernel_rfl
theorem F25_1 : fieldOff Try.prog 25 1 = some 1 := by kernel_rfl
theorem F29_0 : fieldOff Try.prog 29 0 = some 0 := by kernel_rfl
theorem F29_1 : fieldOff Try.prog 29 1 = some 2 := by kernel_rfl
theorem F29_2 : fieldOff Try.prog 29 2 = some 3 := by kernel_rfl
theorem F29_3 : fieldOff Try.prog 29 3 = some 4 := by kernel_rfl
theorem F31_0 : fieldOff Try.prog 31 0 = some 0 := by kernel_rfl
theorem F31_1 : fieldOff Try.prog 31 1 = some 1 := by kernel_rfl
theorem F31_2 : fieldOff Try.prog 31 2 = some 2 := by kernel_rfl
theorem F31_3 : fieldOff Try.prog 31 3 = some 3 := by kernel_rfl
theorem F31_4 : fieldOff Try.prog 31 4 = some 4 := by kernel_rfl
theorem F69_0 : fieldOff Try.prog 69 0 = some 0 := by kernel_rfl
theorem F69_1 : fieldOff Try.prog 69 1 = some 1 := by kernel_rfl
theorem I3 : eInfo Try.prog 3 = some (.int .i64 0, 1, 8) := by kernel_rfl
theorem I5 : eInfo Try.prog 5 = some (.int .u8 0, 1, 1) := by kernel_rfl
theorem I26 : eInfo Try.prog 26 = some (.slice none 0 0, 1, 24) := by kernel_rfl
theorem I69 : eInfo Try.prog 69 = some (.agg #[.int .i64 0, .slice none 0 0], 2, 32) := by kernel_rfl
theorem Mixed : Try.prog.follows .mixedOrders = true := by kernel_rfl
theorem QF31 : (Try.prog.fieldsOf 31).toList = [Field.mk "At" 3 0 false "" "" 0, Field.mk "Birth" 27 1 false "" "" 8, Field.mk "Iv" 27 2 false "" "" 12, Field.mk "Tag" 27 3 false "" "" 16, Field.mk "Sum" 27 4 false "" "" 20] := by kernel_rfl
theorem QG31 : Try.prog.eqGuardType Try.prog.depth 31 = false := by kernel_rfl
theorem QP31 : Try.prog.stoodInHeld 31 = false := by kernel_rfl
theorem QU31 : Try.prog.underlying 31 = some (.struct (Try.prog.fieldsOf 31)) := by kernel_rfl
theorem S3 : shapeOf Try.prog 3 = some (false, 1) := by kernel_rfl
theorem S5 : shapeOf Try.prog 5 = some (false, 1) := by kernel_rfl
theorem S22 : shapeOf Try.prog 22 = some (false, 1) := by kernel_rfl
theorem S23 : shapeOf Try.prog 23 = some (false, 1) := by kernel_rfl
theorem S25 : shapeOf Try.prog 25 = some (true, 2) := by kernel_rfl
theorem S26 : shapeOf Try.prog 26 = some (false, 1) := by kernel_rfl
theorem S27 : shapeOf Try.prog 27 = some (false, 1) := by kernel_rfl
theorem S29 : shapeOf Try.prog 29 = some (true, 5) := by kernel_rfl
theorem S31 : shapeOf Try.prog 31 = some (true, 5) := by kernel_rfl
theorem S66 : shapeOf Try.prog 66 = some (false, 1) := by kernel_rfl
theorem S69 : shapeOf Try.prog 69 = some (true, 2) := by kernel_rfl
theorem S80 : shapeOf Try.prog 80 = some (true, 4) := by kernel_rfl
theorem U3 : Try.prog.underlying 3 = some (.int .i64) := by kernel_rfl
theorem U4 : Try.prog.underlying 4 = some (.bool) := by kernel_rfl
theorem U5 : Try.prog.underlying 5 = some (.int .u8) := by kernel_rfl
theorem U9 : Try.prog.underlying 9 = some (.string) := by kernel_rfl
theorem U22 : Try.prog.underlying 22 = some (.slice 26) := by kernel_rfl
theorem U23 : Try.prog.underlying 23 = some (.slice 69) := by kernel_rfl
theorem U26 : Try.prog.underlying 26 = some (.slice 5) := by kernel_rfl
theorem U27 : Try.prog.underlying 27 = some (.int .u32) := by kernel_rfl
theorem U56 : Try.prog.underlying 56 = some (.int .u64) := by kernel_rfl
theorem U61 : Try.prog.underlying 61 = some (.slice 3) := by kernel_rfl
theorem U80 : Try.prog.underlying 80 = some (.array 4 27) := by kernel_rfl
theorem U97 : Try.prog.underlying 97 = some (.map 3 69) := by kernel_rfl
theorem Z3 : zeroOf Try.prog 3 = some (.int .i64 0) := by kernel_rfl
theorem Z25 : zeroOf Try.prog 25 = some (.agg #[.slice none 0 0, .slice none 0 0]) := by kernel_rfl
theorem Z26 : zeroOf Try.prog 26 = some (.slice none 0 0) := by kernel_rfl
theorem Z29 : zeroOf Try.prog 29 = some (.agg #[.slice none 0 0, .slice none 0 0, .slice none 0 0, .int .u32 0, .int .u32 0]) := by kernel_rfl
theorem Z31 : zeroOf Try.prog 31 = some (.agg #[.int .i64 0, .int .u32 0, .int .u32 0, .int .u32 0, .int .u32 0]) := by kernel_rfl
theorem Z66 : zeroOf Try.prog 66 = some (.nilFunc) := by kernel_rfl
theorem Z69 : zeroOf Try.prog 69 = some (.agg #[.int .i64 0, .slice none 0 0]) := by kernel_rfl
theorem Z80 : zeroOf Try.prog 80 = some (.agg #[.int .u32 0, .int .u32 0, .int .u32 0, .int .u32 0]) := by kernel_rfl
end Go.Proofs.Ytdelcjkjkhcaoab
