import Derived.Test.YtebhagohhbmgoaaProg
import Derived.Test.YtebhagohhbmgoaaOwMb
import Derived.KernelRfl
/- closed facts of this program. -/
namespace Go.Proofs.Ytebhagohhbmgoaa
open Go.Ow Go.RowKit Go.Proofs
set_option linter.unusedVariables false
set_option linter.unusedSimpArgs false
theorem B26 : placesOf Try.prog 26 = some [(0, 1), (1, 1), (2, 1), (3, 1), (4, 1)] := by kernel_rfl
theorem B39 : placesOf Try.prog 39 = some [(0, 1), (1, 1), (2, 1), (3, 1), (4, 1)] := by kernel_rfl
theorem E5 : Enters Try.prog 5 := Zi Try.func5 (by kernel_rfl) (by kernel_rfl)
theorem E6 : Enters Try.prog 6 := Zi Try.func6 (by kernel_rfl) (by kernel_rfl)
theorem E7 : Enters Try.prog 7 := Zi Try.func7 (by kernel_rfl) (by kernel_rfl)
theorem E8 : Enters Try.prog 8 := Zi Try.func8 (by kernel_rfl) (by kernel_rfl)
theorem E9 : Enters Try.prog 9 := Zi Try.func9 (by kernel_rfl) (by kernel_rfl)
theorem E10 : Enters Try.prog 10 := Zi Try.func10 (by kernel_rfl) (by kernel_rfl)
theorem E21 : Enters Try.prog 21 := Zi Try.func21 (by kernel_rfl) (by kernel_rfl)
theorem E22 : Enters Try.prog 22 := Zi Try.func22 (by kernel_rfl) (by kernel_rfl)
theorem E23 : Enters Try.prog 23 := Zi Try.func23 (by kernel_rfl) (by kernel_rfl)
theorem E24 : Enters Try.prog 24 := Zi Try.func24 (by kernel_rfl) (by kernel_rfl)
theorem E25 : Enters Try.prog 25 := Zi Try.func25 (by kernel_rfl) (by kernel_rfl)
theorem E26 : Enters Try.prog 26 := Zi Try.func26 (by kernel_rfl) (by kernel_rfl)
theorem E27 : Enters Try.prog 27 := Zi Try.func27 (by kernel_rfl) (by kernel_rfl)
theorem E28 : Enters Try.prog 28 := Zi Try.func28 (by kernel_rfl) (by kernel_rfl)
theorem E29 : Enters Try.prog 29 := Zi Try.func29 (by kernel_rfl) (by kernel_rfl)
theorem E39 : Enters Try.prog 39 := Zi Try.func39 (by kernel_rfl) (by kernel_rfl)
theorem E40 : Enters Try.prog 40 := Zi Try.func40 (by kernel_rfl) (by kernel_rfl)
theorem E41 : Enters Try.prog 41 := Zi Try.func41 (by kernel_rfl) (by kernel_rfl)
theorem E42 : Enters Try.prog 42 := Zi Try.func42 (by kernel_rfl) (by kernel_rfl)
theorem E43 : Enters Try.prog 43 := Zi Try.func43 (by kernel_rfl) (by kernel_rfl)
theorem E44 : Enters Try.prog 44 := Zi Try.func44 (by kernel_rfl) (by kernel_rfl)
theorem E45 : Enters Try.prog 45 := Zi Try.func45 (by kernel_rfl) (by kernel_rfl)
theorem E46 : Enters Try.prog 46 := Zi Try.func46 (by kernel_rfl) (by kernel_rfl)
theorem E47 : Enters Try.prog 47 := Zi Try.func47 (by kernel_rfl) (by kernel_rfl)
theorem E48 : Enters Try.prog 48 := Zi Try.func48 (by kernel_rfl) (by kernel_rfl)
theorem E49 : Enters Try.prog 49 := Zi Try.func49 (by kernel_rfl) (by kernel_rfl)
theorem E50 : Enters Try.prog 50 := Zi Try.func50 (by kernel_rfl) (by kernel_rfl)
theorem E64 : Enters Try.prog 64 := Zi Try.func64 (by kernel_rfl) (by kernel_rfl)
theorem E65 : Enters Try.prog 65 := Zi Try.func65 (by kernel_rfl) (by kernel_rfl)
theorem E66 : Enters Try.prog 66 := Zi Try.func66 (by kernel_rfl) (by kernel_rfl)
theorem E67 : Enters Try.prog 67 := Zi Try.func67 (by kernel_rfl) (by kernel_rfl)
theorem E68 : Enters Try.prog 68 := Zi Try.func68 (by kernel_rfl) (by kernel_rfl)
theorem E87 : Enters Try.prog 87 := Zi Try.func87 (by kernel_rfl) (by kernel_rfl)
theorem E88 : Enters Try.prog 88 := Zi Try.func88 (by kernel_rfl) (by kernel_rfl)
theorem E104 : Enters Try.prog 104 := Zi Try.func104 (by kernel_rfl) (by kernel_rfl)
theorem F26_0 : fieldOff Try.prog 26 0 = some 0 := by kernel_rfl
theorem F26_1 : fieldOff Try.prog 26 1 = some 1 := by kernel_rfl
theorem F26_2 : fieldOff Try.prog 26 2 = some 2 := by kernel_rfl
theorem F26_3 : fieldOff Try.prog 26 3 = some 3 := by kernel_rfl
theorem F26_4 : fieldOff Try.prog 26 4 = some 4 := by kernel_rfl
theorem F39_0 : fieldOff Try.prog 39 0 = some 0 := by kernel_rfl
theorem F39_1 : fieldOff Try.prog 39 1 = some 1 := by kernel_rfl
theorem F39_2 : fieldOff Try.prog 39 2 = some 2 := by kernel_rfl
theorem F39_3 : fieldOff Try.prog 39 3 = some 3 := by kernel_rfl
theorem F39_4 : fieldOff Try.prog 39 4 = some 4 := by kernel_rfl
theorem I3 : eInfo Try.prog 3 = some (.int .i64 0, 1, 8) := by kernel_rfl
theorem I5 : eInfo Try.prog 5 = some (.int .u8 0, 1, 1) := by kernel_rfl
theorem I39 : eInfo Try.prog 39 = some (.agg #[.int .i64 0, .int .i64 0, .int .u32 0, .int .u32 0, .slice none 0 0], 5, 48) := by kernel_rfl
theorem Mixed : Try.prog.follows .mixedOrders = true := by kernel_rfl
theorem S3 : shapeOf Try.prog 3 = some (false, 1) := by kernel_rfl
theorem S4 : shapeOf Try.prog 4 = some (false, 1) := by kernel_rfl
theorem S5 : shapeOf Try.prog 5 = some (false, 1) := by kernel_rfl
theorem S22 : shapeOf Try.prog 22 = some (false, 1) := by kernel_rfl
theorem S23 : shapeOf Try.prog 23 = some (false, 1) := by kernel_rfl
theorem S24 : shapeOf Try.prog 24 = some (false, 1) := by kernel_rfl
theorem S26 : shapeOf Try.prog 26 = some (true, 5) := by kernel_rfl
theorem S39 : shapeOf Try.prog 39 = some (true, 5) := by kernel_rfl
theorem S64 : shapeOf Try.prog 64 = some (false, 1) := by kernel_rfl
theorem U3 : Try.prog.underlying 3 = some (.int .i64) := by kernel_rfl
theorem U5 : Try.prog.underlying 5 = some (.int .u8) := by kernel_rfl
theorem U9 : Try.prog.underlying 9 = some (.string) := by kernel_rfl
theorem U22 : Try.prog.underlying 22 = some (.int .u32) := by kernel_rfl
theorem U23 : Try.prog.underlying 23 = some (.slice 5) := by kernel_rfl
theorem U24 : Try.prog.underlying 24 = some (.slice 39) := by kernel_rfl
theorem U105 : Try.prog.underlying 105 = some (.slice 3) := by kernel_rfl
theorem Z3 : zeroOf Try.prog 3 = some (.int .i64 0) := by kernel_rfl
theorem Z4 : zeroOf Try.prog 4 = some (.bool false) := by kernel_rfl
theorem Z26 : zeroOf Try.prog 26 = some (.agg #[.int .u32 0, .int .u32 0, .slice none 0 0, .slice none 0 0, .slice none 0 0]) := by kernel_rfl
theorem Z39 : zeroOf Try.prog 39 = some (.agg #[.int .i64 0, .int .i64 0, .int .u32 0, .int .u32 0, .slice none 0 0]) := by kernel_rfl
theorem Z64 : zeroOf Try.prog 64 = some (.nilFunc) := by kernel_rfl
end Go.Proofs.Ytebhagohhbmgoaa
