import Derived.Test.YtgdchaoklfjcpaaGreatDoornScrubNames
import Derived.Test.YtgdchaoklfjcpaaGreatDoorKScrubNames
import Derived.Test.YtgdchaoklfjcpaaGreatDoorTie
import Derived.Test.YtgdchaoklfjcpaaGreatDoorCards
/- Proved: the tied card of ScrubNames: the statement is true of every input. No condition. -/
namespace Go.Proofs.YtgdchaoklfjcpaaGreatDoor
open Go
theorem scrubNamesCard_holds:Rows.ScrubNamesCardSaid:=
  Claim7.holds_tied_plain_at .later [] [.data, .pinned] true (true, "cbc32a87994b2491a86de5091877ef7212b7c34c95a1ce7e8205af2da2a116f6") false
    scrubNames_holds (λ_ h=>by cases h) kW (λ_ h=>by cases h) scrubNames_row_tie rfl ⟨rfl,rfl⟩ kM rfl
    (λf fn hf hfn=>by
      obtain rfl:f=3:=TB (namedJ.symm.trans hf) |>.symm;obtain rfl:fn=Tryz.f3:=(TB<|Tryz.func3.symm.trans hfn).symm;exact⟨kL,λj t ht=>by
        rw[Tryz.params3]at ht;simp at ht⟩)
    kG
end Go.Proofs.YtgdchaoklfjcpaaGreatDoor
