import Derived.Test.YtpggcoheldampaaGreatDoorRows
import Derived.ProofKit
import Derived.Stop.Joined
import Derived.JoinedOf
import Derived.KernelRfl
/-
  What is proved here: what the row of RollNames says of the program's text is so.
-/
namespace Go.Proofs.YtpggcoheldampaaGreatDoor
theorem j10 : (Rows.rollNamesRow.inPlace == Tryz.pinned.checked.prog.inPlace 7) = true := by kernel_rfl
theorem j11 : (Rows.rollNamesRow.unfollowed == Tryz.pinned.checked.prog.unfollowed 7) = true := by kernel_rfl
theorem j12 : (Rows.rollNamesRow.recurses == Tryz.pinned.checked.prog.recurses 7) = true := by kernel_rfl
theorem j13 : (Rows.rollNamesRow.named == Tryz.pinned.checked.prog.varsNamed 7) = true := by kernel_rfl
theorem closedJ : joinedFacts Tryz.pinned.checked.prog 7 Tryz.f7 Rows.rollNamesSpec Rows.rollNamesRow = true := by
  unfold joinedFacts
  rw [j10, j11, j12, j13]
  kernel_rfl
theorem wrapJ : Tryz.f7.isWrapper Tryz.pinned.checked.prog Rows.rollNamesRow.wrapper Rows.rollNamesRow.mainSum := by unfold Func.isWrapper; first | (rw [if_pos (by decide +kernel)]; kernel_rfl) | (rw [if_neg (by decide +kernel)]; exact ⟨rfl, rfl⟩)
theorem instJ : Tryz.f7.isInstance Tryz.pinned.checked.prog Rows.rollNamesRow.origin Rows.rollNamesRow.targs := (of_decide_eq_true (by kernel_rfl))
theorem namedJ : Tryz.pinned.checked.prog.funcNamed Rows.rollNamesRow.func = some 7 := by kernel_rfl
end Go.Proofs.YtpggcoheldampaaGreatDoor
