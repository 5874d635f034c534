import Derived.Test.YtpggcoheldampaaGreatDoorA29
/-
  What is proved here: the statement SendNames comes to true.
-/
namespace Go.Proofs.YtpggcoheldampaaGreatDoor
open Go Go.Ow Go.RowKit Go.Proofs Go.Ev
theorem names29 : okB ((ev Tryz.prog (more 40 nTrue nat29) gOf 100000).f 8 [] ⟨full 2, 0⟩) = true := by kernel_rfl
theorem names29_run (w : World) : CallsIn Fence.wide 0 Tryz.prog 8 #[] w (fun e w' => e = .returned (.bool true) ∧ Kept [] w w') :=
  true_run (more_ok fAlive29 nat29_ok) names29 w
end Go.Proofs.YtpggcoheldampaaGreatDoor
