import Derived.Test.YtpggcoheldampaaGreatDoordn
import Derived.Test.YtpggcoheldampaaGreatDoorK20
import Derived.Test.YtpggcoheldampaaGreatDoorTie
import Derived.Test.YtpggcoheldampaaGreatDoorCards
/-
  What is proved here: the tied card of DataNames: the statement is true of every input. No condition.
-/
namespace Go.Proofs.YtpggcoheldampaaGreatDoor
open Go
theorem dataNamesCard_holds : Rows.DataNamesCardSaid :=
  Claim7.holds_tied_plain_at .later [] [.data, .pinned] true (true, "9563dbb0a1cf37d8a81b6726c791800eb8aff2d57d5f4b0071b45085ff7d694a") false
    dataNames_holds (fun _ h => by cases h) kW (fun _ h => by cases h) dataNames_row_tie rfl ⟨rfl, rfl⟩ kM rfl
    (fun f fn hf hfn => by
      obtain rfl : f = 4 := Option.some.inj (namedJ.symm.trans hf) |>.symm
      obtain rfl : fn = Tryz.f4 := (Option.some.inj (Tryz.func4.symm.trans hfn)).symm
      exact ⟨kL, fun j t ht => by
        rw [Tryz.params4] at ht
        simp at ht⟩)
    kG
end Go.Proofs.YtpggcoheldampaaGreatDoor
