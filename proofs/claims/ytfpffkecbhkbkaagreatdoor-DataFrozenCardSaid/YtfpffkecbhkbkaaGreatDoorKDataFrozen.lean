import Derived.Test.YtfpffkecbhkbkaaGreatDoorRows
import Derived.ProofKit
import Derived.Stop.Joined
import Derived.JoinedOf
import Derived.KernelRfl
import Derived.SevenTiedAt
/-
  What is proved here: what the card of DataFrozen says of the program's text is so.
-/
namespace Go.Proofs.YtfpffkecbhkbkaaGreatDoor
theorem kW:Rows.dataFrozenRow.wfByText (OpenSpec.ofChange Rows.dataFrozenSpec)=true:=by kernel_rfl
theorem kM : Tryz.pinned.checked.prog.mainIs = some (true, "af6ca35b5678703c5542c6193a262a950510be07770eef9caf49b610a83f8092".toList) := by kernel_rfl
theorem kL:false=Tryz.pinned.checked.prog.looks []:=by kernel_rfl
theorem kG:false=Rows.dataFrozenRow.goesBy Tryz.pinned.checked.prog:=by kernel_rfl
end Go.Proofs.YtfpffkecbhkbkaaGreatDoor
