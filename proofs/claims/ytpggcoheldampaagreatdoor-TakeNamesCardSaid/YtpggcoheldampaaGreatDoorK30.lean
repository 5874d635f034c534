import Derived.Test.YtpggcoheldampaaGreatDoorJ30
import Derived.SevenTiedAt
/-
  What is proved here: what the card of TakeNames says of the program's text is so.
-/
namespace Go.Proofs.YtpggcoheldampaaGreatDoor
theorem kW : Rows.takeNamesRow.wfByText (OpenSpec.ofChange Rows.takeNamesSpec) = true := by kernel_rfl
theorem kM : Tryz.pinned.checked.prog.mainIs = some (true, "9563dbb0a1cf37d8a81b6726c791800eb8aff2d57d5f4b0071b45085ff7d694a".toList) := by kernel_rfl
theorem kL : false = Tryz.pinned.checked.prog.looks [] := by kernel_rfl
theorem kG : false = Rows.takeNamesRow.goesBy Tryz.pinned.checked.prog := by kernel_rfl
end Go.Proofs.YtpggcoheldampaaGreatDoor
