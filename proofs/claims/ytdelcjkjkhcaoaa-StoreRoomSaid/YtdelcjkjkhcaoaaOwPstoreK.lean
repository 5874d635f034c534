/-
  What is proved here: no two blocks are sealed by one number; limits, errors, examples: the laws, in plain words.
-/
import Derived.Test.YtdelcjkjkhcaoaaOwPstoreJ
namespace Go.Ow
set_option linter.unusedVariables false
set_option linter.unusedSimpArgs false

theorem noP_none : isNone noP := ⟨rfl, rfl, rfl, rfl, rfl⟩
/-! ### Examples -/
end Go.Ow
