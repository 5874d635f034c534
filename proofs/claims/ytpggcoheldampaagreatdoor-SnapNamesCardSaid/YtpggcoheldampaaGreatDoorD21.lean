import Derived.Test.YtpggcoheldampaaGreatDoorA21
/-
  What is proved here: the statement SnapNames comes to true.
-/
namespace Go.Proofs.YtpggcoheldampaaGreatDoor
open Go Go.Ow Go.RowKit Go.Proofs Go.Ev
theorem names21 : okB ((ev Tryz.prog (more 10 nTrue nat21) gOf 100000).f 3 [] ⟨full 2, 0⟩) = true := by kernel_rfl
theorem names21_run (w : World) : CallsIn Fence.wide 0 Tryz.prog 3 #[] w (fun e w' => e = .returned (.bool true) ∧ Kept [] w w') :=
  true_run (more_ok fAlive21 nat21_ok) names21 w
end Go.Proofs.YtpggcoheldampaaGreatDoor
