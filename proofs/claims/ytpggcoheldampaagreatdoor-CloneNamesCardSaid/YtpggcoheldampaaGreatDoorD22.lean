import Derived.Test.YtpggcoheldampaaGreatDoorA22
/-
  What is proved here: the statement CloneNames comes to true.
-/
namespace Go.Proofs.YtpggcoheldampaaGreatDoor
open Go Go.Ow Go.RowKit Go.Proofs Go.Ev
theorem names22 : okB ((ev Tryz.prog (more 21 nTrue nat22) gOf 100000).f 5 [] ⟨full 2, 0⟩) = true := by kernel_rfl
theorem names22_run (w : World) : CallsIn Fence.wide 0 Tryz.prog 5 #[] w (fun e w' => e = .returned (.bool true) ∧ Kept [] w w') :=
  true_run (more_ok fAlive22 nat22_ok) names22 w
end Go.Proofs.YtpggcoheldampaaGreatDoor
