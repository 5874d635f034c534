import Derived.Test.YtpggcoheldampaaGreatDoorRows
import Derived.ProofKit
import Derived.Stop.Joined
import Derived.JoinedOf
import Derived.KernelRfl
/-
  What is proved here: what the row of TakeNames says of the program's text is so.
-/
namespace Go.Proofs.YtpggcoheldampaaGreatDoor
theorem j10 : (Rows.takeNamesRow.inPlace == Tryz.pinned.checked.prog.inPlace 9) = true := by kernel_rfl
theorem j11 : (Rows.takeNamesRow.unfollowed == Tryz.pinned.checked.prog.unfollowed 9) = true := by kernel_rfl
theorem j12 : (Rows.takeNamesRow.recurses == Tryz.pinned.checked.prog.recurses 9) = true := by kernel_rfl
theorem j13 : (Rows.takeNamesRow.named == Tryz.pinned.checked.prog.varsNamed 9) = true := by kernel_rfl
theorem closedJ : joinedFacts Tryz.pinned.checked.prog 9 Tryz.f9 Rows.takeNamesSpec Rows.takeNamesRow = true := by
  unfold joinedFacts
  rw [j10, j11, j12, j13]
  kernel_rfl
theorem wrapJ : Tryz.f9.isWrapper Tryz.pinned.checked.prog Rows.takeNamesRow.wrapper Rows.takeNamesRow.mainSum := by unfold Func.isWrapper; first | (rw [if_pos (by decide +kernel)]; kernel_rfl) | (rw [if_neg (by decide +kernel)]; exact ⟨rfl, rfl⟩)
theorem instJ : Tryz.f9.isInstance Tryz.pinned.checked.prog Rows.takeNamesRow.origin Rows.takeNamesRow.targs := (of_decide_eq_true (by kernel_rfl))
theorem namedJ : Tryz.pinned.checked.prog.funcNamed Rows.takeNamesRow.func = some 9 := by kernel_rfl
end Go.Proofs.YtpggcoheldampaaGreatDoor
