import Derived.Test.YtebhagohhbmgoaaOwMb
/-
  What is proved here: what was laid is seen, what was sealed is opened, no other block changes; what was given up is looked at as before: the laws, in plain words.
-/
namespace Go.Ow
set_option linter.unusedVariables false
set_option linter.unusedSimpArgs false

theorem nbeq {α : Type} [DecidableEq α] {a b : α} (h : a = b) : (!decide (a = b)) = false := by rw [decide_eq_true h]; rfl
theorem nbne {α : Type} [DecidableEq α] {a b : α} (h : ¬ a = b) : (!decide (a = b)) = true := by rw [decide_eq_false h]; rfl
/-! ### A block is given up -/
/-! ### What was given up -/
end Go.Ow
