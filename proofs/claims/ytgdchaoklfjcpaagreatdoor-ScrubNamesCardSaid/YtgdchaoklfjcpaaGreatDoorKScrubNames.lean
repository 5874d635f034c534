import Derived.Test.YtgdchaoklfjcpaaGreatDoorRows
import Derived.ProofKit
import Derived.Stop.Joined
import Derived.JoinedOf
import Derived.KernelRfl
import Derived.SevenTiedAt
/- Proved: what the card of ScrubNames says of the program's text is so. -/
namespace Go.Proofs.YtgdchaoklfjcpaaGreatDoor
theorem kW:Rows.scrubNamesRow.wfByText (OpenSpec.ofChange Rows.scrubNamesSpec)=true:=by kernel_rfl
theorem kM : Tryz.pinned.checked.prog.mainIs = some (true, "cbc32a87994b2491a86de5091877ef7212b7c34c95a1ce7e8205af2da2a116f6".toList) := by kernel_rfl
theorem kL:false=Tryz.pinned.checked.prog.looks []:=by kernel_rfl
theorem kG:false=Rows.scrubNamesRow.goesBy Tryz.pinned.checked.prog:=by kernel_rfl
end Go.Proofs.YtgdchaoklfjcpaaGreatDoor
