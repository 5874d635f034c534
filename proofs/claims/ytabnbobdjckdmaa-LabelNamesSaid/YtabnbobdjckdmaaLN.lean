/-
  What is proved here: from the plain law to the given statement: it is true of every input, and leaves it as it was. No condition.
-/
import Derived.Test.YtabnbobdjckdmaaRows
import Derived.Test.YtabnbobdjckdmaaW3N
import Derived.Test.YtabnbobdjckdmaaOwLf
import Derived.Test.YtabnbobdjckdmaaOwPlabelN
namespace Go.Proofs.Ytabnbobdjckdmaa
open Go.ChangeShapes Go.WideShapes Go.ChangeAt Go.RowKit Go.Ow
set_option linter.unusedVariables false
set_option linter.unusedSimpArgs false

theorem knob : ownKnob Try.prog.godebug = none := by kernel_rfl
theorem laid : laidOutB Try.prog = true := by kernel_rfl
/-- this seat's bulk -/
def bulk (H : Type) : Bulk H where
  one := Rows.uptoBulk
  all := Rows.uptoBulkAll
  hstr l := by simp [Rows.uptoBulk]
  hsl a b := by simp [Rows.uptoBulk]
  hagg a := by simp [Rows.uptoBulk]
  hnil := by simp [Rows.uptoBulkAll]
  hcons d r := by simp [Rows.uptoBulkAll]
  hone d := by
    cases d with
    | lit l => cases l <;> simp [Rows.uptoBulk]
    | nil => simp [Rows.uptoBulk]
    | ptr d => simp [Rows.uptoBulk]
    | slice elems spare => simp [Rows.uptoBulk]
    | agg parts => simp [Rows.uptoBulk]
    | iface t d => simp [Rows.uptoBulk]
    | map entries => simp [Rows.uptoBulk]
    | held h => simp [Rows.uptoBulk]
section
variable {H : Type} {enc : TypeId × Value → H} {W : World}
end
namespace labelNames
set_option maxRecDepth 100000 in
theorem lifted (plain : law11_LabelNames = some true) (os : Os) (started : os.Started) (H : Type) (enc : TypeId × Value → H) :
    ReturnsInHanded {} Try.checked os 4 .any (Rows.labelNamesSpec.pre6 enc Try.prog Try.f4 Rows.labelNamesRow.domain false) (Rows.labelNamesSpec.post enc Try.prog Try.f4 false true false false) := by
  refine returnsInHanded_of_change (C := Try.checked) knob started (by kernel_rfl) Try.func4
    (ChangeSpec.witness6 (enc := enc) (C := Try.checked) false ⟨#[], #[], []⟩ 8 (by kernel_rfl) (by kernel_rfl) (by kernel_rfl) (by kernel_rfl)) ?_
  intro W base args ds gs before hval0 hW hcnd _
  have hval : ∀ (j : Nat) t v, Try.f4.params[j]? = some t → args[j]? = some v → Value.okWide Try.prog W .any base t v := hval0
  have hW' := hW
  obtain ⟨p, q, hA0, hV, rfl, hfz, hnd⟩ := hW
  have hA : DataW.TrodAll enc Try.prog W 0 (fun _ => true) true Try.f4.params.toList args.toList ds p := hA0
  rw [Try.params4] at hA hval
  obtain ⟨hargs, rfl, rfl⟩ := trodAll_nil hA
  obtain rfl : args = #[] := by cases args; simp_all
  obtain ⟨rfl, rfl⟩ := trodVars_none hV
  exact lift_true (tb := 4) laid (by kernel_rfl) (by kernel_rfl) Try.underlying4 rfl hW' rfl (law11_LabelNames_ok (HW W) true (plain)) (fun u K H' h => h.1)

theorem over (plain : law11_LabelNames = some true) : Rows.labelNamesRow.holds Try.pinned (OpenSpec.ofChange Rows.labelNamesSpec) :=
  OpenClaim.holds_of_wide 4 Try.f4 rfl rfl rfl rfl rfl rfl rfl ⟨rfl, rfl, rfl, rfl, rfl⟩ rfl rfl rfl rfl rfl (by kernel_rfl) Try.func4 (by kernel_rfl)
    (of_decide_eq_true (by kernel_rfl)) (by unfold Func.isWrapper; first | (rw [if_pos (by decide +kernel)]; kernel_rfl) | (rw [if_neg (by decide +kernel)]; exact ⟨rfl, rfl⟩))
    (fun os started H enc _ => lifted plain os started H enc)
end labelNames
theorem labelNames_holds : Rows.LabelNamesSaid := labelNames.over Go.Ow.law_LabelNames
end Go.Proofs.Ytabnbobdjckdmaa
