import Derived.Test.YtnahhdmkiffgnaaGreatDoorRows
import Derived.ProofKit
import Derived.Stop.Joined
import Derived.JoinedOf
import Derived.KernelRfl
import Derived.SevenTiedAt
/-
  What is proved here: what the card of SendBack says of the program's text is so.
-/
namespace Go.Proofs.YtnahhdmkiffgnaaGreatDoor
theorem kW:Rows.sendBackRow.wfByText (OpenSpec.ofChange Rows.sendBackSpec)=true:=by kernel_rfl
theorem kM : Tryz.pinned.checked.prog.mainIs = some (true, "10b67b422e409de54a2029828b342e7a0670c362c2f90a61021b52f05a5e126f".toList) := by kernel_rfl
theorem kL:false=Tryz.pinned.checked.prog.looks []:=by kernel_rfl
theorem kG:false=Rows.sendBackRow.goesBy Tryz.pinned.checked.prog:=by kernel_rfl
end Go.Proofs.YtnahhdmkiffgnaaGreatDoor
