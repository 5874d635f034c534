import Derived.Test.YtpggcoheldampaaGreatDoorRows
import Derived.ProofKit
import Derived.Stop.Joined
import Derived.JoinedOf
import Derived.KernelRfl
/-
  What is proved here: what the row of DataNames says of the program's text is so.
-/
namespace Go.Proofs.YtpggcoheldampaaGreatDoor
theorem j10 : (Rows.dataNamesRow.inPlace == Tryz.pinned.checked.prog.inPlace 4) = true := by kernel_rfl
theorem j11 : (Rows.dataNamesRow.unfollowed == Tryz.pinned.checked.prog.unfollowed 4) = true := by kernel_rfl
theorem j12 : (Rows.dataNamesRow.recurses == Tryz.pinned.checked.prog.recurses 4) = true := by kernel_rfl
theorem j13 : (Rows.dataNamesRow.named == Tryz.pinned.checked.prog.varsNamed 4) = true := by kernel_rfl
theorem closedJ : joinedFacts Tryz.pinned.checked.prog 4 Tryz.f4 Rows.dataNamesSpec Rows.dataNamesRow = true := by
  unfold joinedFacts
  rw [j10, j11, j12, j13]
  kernel_rfl
theorem wrapJ : Tryz.f4.isWrapper Tryz.pinned.checked.prog Rows.dataNamesRow.wrapper Rows.dataNamesRow.mainSum := by unfold Func.isWrapper; first | (rw [if_pos (by decide +kernel)]; kernel_rfl) | (rw [if_neg (by decide +kernel)]; exact ⟨rfl, rfl⟩)
theorem instJ : Tryz.f4.isInstance Tryz.pinned.checked.prog Rows.dataNamesRow.origin Rows.dataNamesRow.targs := (of_decide_eq_true (by kernel_rfl))
theorem namedJ : Tryz.pinned.checked.prog.funcNamed Rows.dataNamesRow.func = some 4 := by kernel_rfl
end Go.Proofs.YtpggcoheldampaaGreatDoor
