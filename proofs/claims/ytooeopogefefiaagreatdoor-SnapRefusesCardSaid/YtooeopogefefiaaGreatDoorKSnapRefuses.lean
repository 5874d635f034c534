import Derived.Test.YtooeopogefefiaaGreatDoorRows
import Derived.ProofKit
import Derived.Stop.Joined
import Derived.JoinedOf
import Derived.KernelRfl
import Derived.SevenTiedAt
/-
  What is proved here: what the card of SnapRefuses says of the program's text is so.
-/
namespace Go.Proofs.YtooeopogefefiaaGreatDoor
theorem kW:Rows.snapRefusesRow.wfByText (OpenSpec.ofChange Rows.snapRefusesSpec)=true:=by kernel_rfl
theorem kM : Tryz.pinned.checked.prog.mainIs = some (true, "4aff0288b791b317c6b5a8e40bb2c921b77f0e9b2200fbdeb263fa8c092f6c82".toList) := by kernel_rfl
theorem kL:false=Tryz.pinned.checked.prog.looks []:=by kernel_rfl
theorem kG:false=Rows.snapRefusesRow.goesBy Tryz.pinned.checked.prog:=by kernel_rfl
end Go.Proofs.YtooeopogefefiaaGreatDoor
