import Derived.Test.YtnahhdmkiffgnaaGreatDoorO29
import Derived.KernelRfl
/-
  What is proved here: the function alive of law 29 comes to true; it is computed at once from here on.
-/
set_option linter.unusedVariables false
namespace Go.Proofs.YtnahhdmkiffgnaaGreatDoor
open Go Go.Ow Go.RowKit Go.Proofs Go.Ev
theorem alive29:okB ((ev Tryz.prog nat29 gOf 100000).f 4 [] ⟨full 2,0⟩)=true:=by kernel_rfl
end Go.Proofs.YtnahhdmkiffgnaaGreatDoor
