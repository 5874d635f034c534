import Derived.Test.YtpggcoheldampaaGreatDoorRows
import Derived.ProofKit
import Derived.Stop.Joined
import Derived.JoinedOf
import Derived.KernelRfl
/-
  What is proved here: what the row of CloneNames says of the program's text is so.
-/
namespace Go.Proofs.YtpggcoheldampaaGreatDoor
theorem j10 : (Rows.cloneNamesRow.inPlace == Tryz.pinned.checked.prog.inPlace 5) = true := by kernel_rfl
theorem j11 : (Rows.cloneNamesRow.unfollowed == Tryz.pinned.checked.prog.unfollowed 5) = true := by kernel_rfl
theorem j12 : (Rows.cloneNamesRow.recurses == Tryz.pinned.checked.prog.recurses 5) = true := by kernel_rfl
theorem j13 : (Rows.cloneNamesRow.named == Tryz.pinned.checked.prog.varsNamed 5) = true := by kernel_rfl
theorem closedJ : joinedFacts Tryz.pinned.checked.prog 5 Tryz.f5 Rows.cloneNamesSpec Rows.cloneNamesRow = true := by
  unfold joinedFacts
  rw [j10, j11, j12, j13]
  kernel_rfl
theorem wrapJ : Tryz.f5.isWrapper Tryz.pinned.checked.prog Rows.cloneNamesRow.wrapper Rows.cloneNamesRow.mainSum := by unfold Func.isWrapper; first | (rw [if_pos (by decide +kernel)]; kernel_rfl) | (rw [if_neg (by decide +kernel)]; exact ⟨rfl, rfl⟩)
theorem instJ : Tryz.f5.isInstance Tryz.pinned.checked.prog Rows.cloneNamesRow.origin Rows.cloneNamesRow.targs := (of_decide_eq_true (by kernel_rfl))
theorem namedJ : Tryz.pinned.checked.prog.funcNamed Rows.cloneNamesRow.func = some 5 := by kernel_rfl
end Go.Proofs.YtpggcoheldampaaGreatDoor
