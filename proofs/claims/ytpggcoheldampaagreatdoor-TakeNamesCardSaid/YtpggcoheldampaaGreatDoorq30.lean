import Derived.Test.YtpggcoheldampaaGreatDoorn30
import Derived.Test.YtpggcoheldampaaGreatDoorK30
import Derived.Test.YtpggcoheldampaaGreatDoorTie
import Derived.Test.YtpggcoheldampaaGreatDoorCards
/-
  What is proved here: the tied card of TakeNames: the statement is true of every input. No condition.
-/
namespace Go.Proofs.YtpggcoheldampaaGreatDoor
open Go
theorem takeNamesCard_holds : Rows.TakeNamesCardSaid :=
  Claim7.holds_tied_plain_at .later [] [.data, .pinned] true (true, "9563dbb0a1cf37d8a81b6726c791800eb8aff2d57d5f4b0071b45085ff7d694a") false
    takeNames_holds (fun _ h => by cases h) kW (fun _ h => by cases h) takeNames_row_tie rfl ⟨rfl, rfl⟩ kM rfl
    (fun f fn hf hfn => by
      obtain rfl : f = 9 := Option.some.inj (namedJ.symm.trans hf) |>.symm
      obtain rfl : fn = Tryz.f9 := (Option.some.inj (Tryz.func9.symm.trans hfn)).symm
      exact ⟨kL, fun j t ht => by
        rw [Tryz.params9] at ht
        simp at ht⟩)
    kG
end Go.Proofs.YtpggcoheldampaaGreatDoor
