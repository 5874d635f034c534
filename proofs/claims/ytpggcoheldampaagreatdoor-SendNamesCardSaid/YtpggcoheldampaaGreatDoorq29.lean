import Derived.Test.YtpggcoheldampaaGreatDoorn29
import Derived.Test.YtpggcoheldampaaGreatDoorK29
import Derived.Test.YtpggcoheldampaaGreatDoorTie
import Derived.Test.YtpggcoheldampaaGreatDoorCards
/-
  What is proved here: the tied card of SendNames: the statement is true of every input. No condition.
-/
namespace Go.Proofs.YtpggcoheldampaaGreatDoor
open Go
theorem sendNamesCard_holds : Rows.SendNamesCardSaid :=
  Claim7.holds_tied_plain_at .later [] [.data, .pinned] true (true, "9563dbb0a1cf37d8a81b6726c791800eb8aff2d57d5f4b0071b45085ff7d694a") false
    sendNames_holds (fun _ h => by cases h) kW (fun _ h => by cases h) sendNames_row_tie rfl ⟨rfl, rfl⟩ kM rfl
    (fun f fn hf hfn => by
      obtain rfl : f = 8 := Option.some.inj (namedJ.symm.trans hf) |>.symm
      obtain rfl : fn = Tryz.f8 := (Option.some.inj (Tryz.func8.symm.trans hfn)).symm
      exact ⟨kL, fun j t ht => by
        rw [Tryz.params8] at ht
        simp at ht⟩)
    kG
end Go.Proofs.YtpggcoheldampaaGreatDoor
