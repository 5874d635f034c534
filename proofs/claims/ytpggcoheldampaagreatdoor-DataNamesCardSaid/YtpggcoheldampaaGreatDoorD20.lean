import Derived.Test.YtpggcoheldampaaGreatDoorA20
/-
  What is proved here: the statement DataNames comes to true.
-/
namespace Go.Proofs.YtpggcoheldampaaGreatDoor
open Go Go.Ow Go.RowKit Go.Proofs Go.Ev
theorem names20 : okB ((ev Tryz.prog (more 14 nTrue nats) gOf 100000).f 4 [] ⟨full 2, 0⟩) = true := by kernel_rfl
theorem names20_run (w : World) : CallsIn Fence.wide 0 Tryz.prog 4 #[] w (fun e w' => e = .returned (.bool true) ∧ Kept [] w w') :=
  true_run (more_ok fAlive20 nats_ok) names20 w
end Go.Proofs.YtpggcoheldampaaGreatDoor
