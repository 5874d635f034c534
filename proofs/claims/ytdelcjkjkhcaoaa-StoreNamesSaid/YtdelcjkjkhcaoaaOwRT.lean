/-
  What is proved here: what a reading of the program's structures says. Printed by mkrt.py.
-/
import Derived.Test.YtdelcjkjkhcaoaaOwR
namespace Go.Ow
open Go.ChangeShapes Go.WideShapes Go.ChangeAt Go.RowKit
set_option linter.unusedVariables false
set_option linter.unusedSimpArgs false

section
variable {H : Type} {enc : TypeId × Value → H} {P : Program} {W : World} {B : Bulk H}

end
end Go.Ow
