/-
  What slices.SortFunc makes of a list: Go's pdqsort, as the kit's plain twin has it.
-/
import Derived.Test.YtabnbobdjckdmaaOwP
import Derived.Sort.Defs
import Derived.Lib.BitFns
namespace Go.Ow
set_option linter.unusedVariables false
set_option linter.unusedSimpArgs false
def sortL {α : Type} [Inhabited α] (cf : α → α → Int) (l : List α) : List α := (Sort.pdq (fun x y => decide (cf x y < 0)) l.toArray 0 l.length (Lib.bitLen l.length) true true).toList
end Go.Ow
