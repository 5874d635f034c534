import Derived.Test.YtpggcoheldampaaGreatDoorRows
import Derived.ProofKit
import Derived.Stop.Joined
import Derived.JoinedOf
import Derived.KernelRfl
/-
  What is proved here: what the row of SendNames says of the program's text is so.
-/
namespace Go.Proofs.YtpggcoheldampaaGreatDoor
theorem j10 : (Rows.sendNamesRow.inPlace == Tryz.pinned.checked.prog.inPlace 8) = true := by kernel_rfl
theorem j11 : (Rows.sendNamesRow.unfollowed == Tryz.pinned.checked.prog.unfollowed 8) = true := by kernel_rfl
theorem j12 : (Rows.sendNamesRow.recurses == Tryz.pinned.checked.prog.recurses 8) = true := by kernel_rfl
theorem j13 : (Rows.sendNamesRow.named == Tryz.pinned.checked.prog.varsNamed 8) = true := by kernel_rfl
theorem closedJ : joinedFacts Tryz.pinned.checked.prog 8 Tryz.f8 Rows.sendNamesSpec Rows.sendNamesRow = true := by
  unfold joinedFacts
  rw [j10, j11, j12, j13]
  kernel_rfl
theorem wrapJ : Tryz.f8.isWrapper Tryz.pinned.checked.prog Rows.sendNamesRow.wrapper Rows.sendNamesRow.mainSum := by unfold Func.isWrapper; first | (rw [if_pos (by decide +kernel)]; kernel_rfl) | (rw [if_neg (by decide +kernel)]; exact ⟨rfl, rfl⟩)
theorem instJ : Tryz.f8.isInstance Tryz.pinned.checked.prog Rows.sendNamesRow.origin Rows.sendNamesRow.targs := (of_decide_eq_true (by kernel_rfl))
theorem namedJ : Tryz.pinned.checked.prog.funcNamed Rows.sendNamesRow.func = some 8 := by kernel_rfl
end Go.Proofs.YtpggcoheldampaaGreatDoor
