import Derived.Test.YtpggcoheldampaaGreatDoorA30
import Derived.Test.YtpggcoheldampaaGreatDoorMc
/-
  What is proved here: the statement TakeNames comes to true.
-/
namespace Go.Proofs.YtpggcoheldampaaGreatDoor
open Go Go.Ow Go.RowKit Go.Proofs Go.Ev
theorem names30 : okB ((ev Tryz.prog (more 46 nTrue natc) gOf 100000).f 9 [] ⟨full 2, 0⟩) = true := by kernel_rfl
theorem names30_run (w : World) : CallsIn Fence.wide 0 Tryz.prog 9 #[] w (fun e w' => e = .returned (.bool true) ∧ Kept [] w w') :=
  true_run (more_ok fAlive30 natc_ok) names30 w
end Go.Proofs.YtpggcoheldampaaGreatDoor
