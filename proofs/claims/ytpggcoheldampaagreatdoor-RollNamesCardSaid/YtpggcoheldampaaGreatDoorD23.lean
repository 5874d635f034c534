import Derived.Test.YtpggcoheldampaaGreatDoorA23
/-
  What is proved here: the statement RollNames comes to true.
-/
namespace Go.Proofs.YtpggcoheldampaaGreatDoor
open Go Go.Ow Go.RowKit Go.Proofs Go.Ev
theorem names23 : okB ((ev Tryz.prog (more 31 nTrue nat23) gOf 100000).f 7 [] ⟨full 2, 0⟩) = true := by kernel_rfl
theorem names23_run (w : World) : CallsIn Fence.wide 0 Tryz.prog 7 #[] w (fun e w' => e = .returned (.bool true) ∧ Kept [] w w') :=
  true_run (more_ok fAlive23 nat23_ok) names23 w
end Go.Proofs.YtpggcoheldampaaGreatDoor
