/-
  DERIVED. GIVEN WITH THE SEED: THE CARDS: each row of YtgdchaoklfjcpaaGreatDoorRows.lean that lists a variable, with what it lists TIED to the program's text (the seventh form; the later family's looks); each row that meets fmt, with fmt's text TOLD by the authors' own Lean function (tested against real Go, not proved from fmt's source: count such statements apart). THE CARD IS WHAT COUNTS. Prove the row's statement (the work); the ties are given (YtgdchaoklfjcpaaGreatDoorTie.lean); close each card by the builder's one call (the guide's Derived/Test/ToyasCard.lean, 'card_holds'). Laid BY PROGRAM, IN A SANDBOX (cutbox-door.mjs). By AI agents, Wed Nov 11 2026. No macro, syntax, notation, axiom, sorry.
-/
import Derived.Test.YtgdchaoklfjcpaaGreatDoorRows
import GoSem.ClaimSeven
namespace Go.Proofs.YtgdchaoklfjcpaaGreatDoor
namespace Rows

/-- THE TIED CARD OF 'charterhouselaw28.ScrubNames'. -/
def scrubNamesCard : Claim7 := { stood := { row := scrubNamesRow, standIns := [], harness := (true, "cbc32a87994b2491a86de5091877ef7212b7c34c95a1ce7e8205af2da2a116f6"), looks := false }, kinds := [], alts := [], laidByText := true, laidKinds := [.data, .pinned], laidTests := true, laidLooks := .later }
def ScrubNamesCardSaid : Prop := Claim7.holds Tryz.pinned (.plain (OpenSpec.ofChange scrubNamesSpec)) scrubNamesCard

/-- THE TIED CARD OF 'charterhouselaw28.ScrubAll'. -/
def scrubAllCard : Claim7 := { stood := { row := scrubAllRow, standIns := [], harness := (true, "cbc32a87994b2491a86de5091877ef7212b7c34c95a1ce7e8205af2da2a116f6"), looks := false }, kinds := [], alts := [], laidByText := true, laidKinds := [.data, .pinned], laidTests := true, laidLooks := .later }
def ScrubAllCardSaid : Prop := Claim7.holds Tryz.pinned (.plain (OpenSpec.ofChange scrubAllSpec)) scrubAllCard

/-- THE TIED CARD OF 'charterhouselaw28.ScrubFinds'. -/
def scrubFindsCard : Claim7 := { stood := { row := scrubFindsRow, standIns := [], harness := (true, "cbc32a87994b2491a86de5091877ef7212b7c34c95a1ce7e8205af2da2a116f6"), looks := false }, kinds := [], alts := [], laidByText := true, laidKinds := [.data, .pinned], laidTests := true, laidLooks := .later }
def ScrubFindsCardSaid : Prop := Claim7.holds Tryz.pinned (.plain (OpenSpec.ofChange scrubFindsSpec)) scrubFindsCard

/-- THE SECOND FORM's CARD OF 'charterhouselaw28.ScrubNames'. -/
def scrubNamesUptoCard : Claim7 := { stood := { row := scrubNamesUptoRow, standIns := [], harness := (true, "cbc32a87994b2491a86de5091877ef7212b7c34c95a1ce7e8205af2da2a116f6"), looks := false }, kinds := [], alts := [], laidByText := true, laidKinds := [.data, .pinned], laidTests := true, laidLooks := .later }
def ScrubNamesUptoCardSaid : Prop := Claim7.holds Tryz.pinned (.plain (OpenSpec.upto scrubNamesSpec)) scrubNamesUptoCard

/-- THE SECOND FORM's CARD OF 'charterhouselaw28.ScrubAll'. -/
def scrubAllUptoCard : Claim7 := { stood := { row := scrubAllUptoRow, standIns := [], harness := (true, "cbc32a87994b2491a86de5091877ef7212b7c34c95a1ce7e8205af2da2a116f6"), looks := false }, kinds := [], alts := [], laidByText := true, laidKinds := [.data, .pinned], laidTests := true, laidLooks := .later }
def ScrubAllUptoCardSaid : Prop := Claim7.holds Tryz.pinned (.plain (OpenSpec.upto scrubAllSpec)) scrubAllUptoCard

/-- THE SECOND FORM's CARD OF 'charterhouselaw28.ScrubFinds'. -/
def scrubFindsUptoCard : Claim7 := { stood := { row := scrubFindsUptoRow, standIns := [], harness := (true, "cbc32a87994b2491a86de5091877ef7212b7c34c95a1ce7e8205af2da2a116f6"), looks := false }, kinds := [], alts := [], laidByText := true, laidKinds := [.data, .pinned], laidTests := true, laidLooks := .later }
def ScrubFindsUptoCardSaid : Prop := Claim7.holds Tryz.pinned (.plain (OpenSpec.upto scrubFindsSpec)) scrubFindsUptoCard
end Rows
end Go.Proofs.YtgdchaoklfjcpaaGreatDoor
