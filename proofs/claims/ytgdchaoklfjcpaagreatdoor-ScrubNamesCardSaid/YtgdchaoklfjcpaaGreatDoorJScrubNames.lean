import Derived.Test.YtgdchaoklfjcpaaGreatDoorRows
import Derived.ProofKit
import Derived.Stop.Joined
import Derived.JoinedOf
import Derived.KernelRfl
/- Proved: what the row of ScrubNames says of the program's text is so. -/
namespace Go.Proofs.YtgdchaoklfjcpaaGreatDoor
theorem j10:(Rows.scrubNamesRow.inPlace==Tryz.pinned.checked.prog.inPlace 3)=true:=by kernel_rfl
theorem j11:(Rows.scrubNamesRow.unfollowed==Tryz.pinned.checked.prog.unfollowed 3)=true:=by kernel_rfl
theorem j12:(Rows.scrubNamesRow.recurses==Tryz.pinned.checked.prog.recurses 3)=true:=by kernel_rfl
theorem j13:(Rows.scrubNamesRow.named==Tryz.pinned.checked.prog.varsNamed 3)=true:=by kernel_rfl
theorem ZRZ:joinedFacts Tryz.pinned.checked.prog 3 Tryz.f3 Rows.scrubNamesSpec Rows.scrubNamesRow=true:=by
  unfold joinedFacts;rw[j10,j11,j12,j13]
  kernel_rfl
theorem wrapJ:Tryz.f3.isWrapper Tryz.pinned.checked.prog Rows.scrubNamesRow.wrapper Rows.scrubNamesRow.mainSum:=by unfold Func.isWrapper;first|(rw[if_pos<|by decide+kernel];kernel_rfl)|(rw[if_neg<|by decide+kernel];exact⟨rfl,rfl⟩)
theorem instJ:Tryz.f3.isInstance Tryz.pinned.checked.prog Rows.scrubNamesRow.origin Rows.scrubNamesRow.targs:=(of_decide_eq_true<|by kernel_rfl)
theorem namedJ:Tryz.pinned.checked.prog.funcNamed Rows.scrubNamesRow.func=some 3:=by kernel_rfl
end Go.Proofs.YtgdchaoklfjcpaaGreatDoor
