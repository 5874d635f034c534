/-
  DERIVED. GIVEN WITH THE SEED: THE CARDS: each row of YtpggcoheldampaaGreatDoorRows.lean that lists a variable, with what it lists TIED to the program's text (the seventh form; the later family's looks); each row that meets fmt, with fmt's text TOLD by the authors' own Lean function (tested against real Go, not proved from fmt's source: count such statements apart). THE CARD IS WHAT COUNTS. Prove the row's statement (the work); the ties are given (YtpggcoheldampaaGreatDoorTie.lean); close each card by the builder's one call (the guide's Derived/Test/ToyasCard.lean, 'card_holds'). Laid BY PROGRAM, IN A SANDBOX (cutbox-door.mjs). By AI agents, Wed Nov 11 2026. No macro, syntax, notation, axiom, sorry.
-/
import Derived.Test.YtpggcoheldampaaGreatDoorRows
import GoSem.ClaimSeven
namespace Go.Proofs.YtpggcoheldampaaGreatDoor
namespace Rows

/-- THE TIED CARD OF 'charterhouselaw21.SnapNames'. -/
def snapNamesCard : Claim7 := { stood := { row := snapNamesRow, standIns := [], harness := (true, "9563dbb0a1cf37d8a81b6726c791800eb8aff2d57d5f4b0071b45085ff7d694a"), looks := false }, kinds := [], alts := [], laidByText := true, laidKinds := [.data, .pinned], laidTests := true, laidLooks := .later }
def SnapNamesCardSaid : Prop := Claim7.holds Tryz.pinned (.plain (OpenSpec.ofChange snapNamesSpec)) snapNamesCard

/-- THE TIED CARD OF 'charterhouselaw20.DataNames'. -/
def dataNamesCard : Claim7 := { stood := { row := dataNamesRow, standIns := [], harness := (true, "9563dbb0a1cf37d8a81b6726c791800eb8aff2d57d5f4b0071b45085ff7d694a"), looks := false }, kinds := [], alts := [], laidByText := true, laidKinds := [.data, .pinned], laidTests := true, laidLooks := .later }
def DataNamesCardSaid : Prop := Claim7.holds Tryz.pinned (.plain (OpenSpec.ofChange dataNamesSpec)) dataNamesCard

/-- THE TIED CARD OF 'charterhouselaw22.CloneNames'. -/
def cloneNamesCard : Claim7 := { stood := { row := cloneNamesRow, standIns := [], harness := (true, "9563dbb0a1cf37d8a81b6726c791800eb8aff2d57d5f4b0071b45085ff7d694a"), looks := false }, kinds := [], alts := [], laidByText := true, laidKinds := [.data, .pinned], laidTests := true, laidLooks := .later }
def CloneNamesCardSaid : Prop := Claim7.holds Tryz.pinned (.plain (OpenSpec.ofChange cloneNamesSpec)) cloneNamesCard

/-- THE TIED CARD OF 'charterhouselaw28.ScrubNames'. -/
def scrubNamesCard : Claim7 := { stood := { row := scrubNamesRow, standIns := [], harness := (true, "9563dbb0a1cf37d8a81b6726c791800eb8aff2d57d5f4b0071b45085ff7d694a"), looks := false }, kinds := [], alts := [], laidByText := true, laidKinds := [.data, .pinned], laidTests := true, laidLooks := .later }
def ScrubNamesCardSaid : Prop := Claim7.holds Tryz.pinned (.plain (OpenSpec.ofChange scrubNamesSpec)) scrubNamesCard

/-- THE TIED CARD OF 'charterhouselaw23.RollNames'. -/
def rollNamesCard : Claim7 := { stood := { row := rollNamesRow, standIns := [], harness := (true, "9563dbb0a1cf37d8a81b6726c791800eb8aff2d57d5f4b0071b45085ff7d694a"), looks := false }, kinds := [], alts := [], laidByText := true, laidKinds := [.data, .pinned], laidTests := true, laidLooks := .later }
def RollNamesCardSaid : Prop := Claim7.holds Tryz.pinned (.plain (OpenSpec.ofChange rollNamesSpec)) rollNamesCard

/-- THE TIED CARD OF 'charterhouselaw29.SendNames'. -/
def sendNamesCard : Claim7 := { stood := { row := sendNamesRow, standIns := [], harness := (true, "9563dbb0a1cf37d8a81b6726c791800eb8aff2d57d5f4b0071b45085ff7d694a"), looks := false }, kinds := [], alts := [], laidByText := true, laidKinds := [.data, .pinned], laidTests := true, laidLooks := .later }
def SendNamesCardSaid : Prop := Claim7.holds Tryz.pinned (.plain (OpenSpec.ofChange sendNamesSpec)) sendNamesCard

/-- THE TIED CARD OF 'charterhouselaw30.TakeNames'. -/
def takeNamesCard : Claim7 := { stood := { row := takeNamesRow, standIns := [], harness := (true, "9563dbb0a1cf37d8a81b6726c791800eb8aff2d57d5f4b0071b45085ff7d694a"), looks := false }, kinds := [], alts := [], laidByText := true, laidKinds := [.data, .pinned], laidTests := true, laidLooks := .later }
def TakeNamesCardSaid : Prop := Claim7.holds Tryz.pinned (.plain (OpenSpec.ofChange takeNamesSpec)) takeNamesCard

/-- THE SECOND FORM's CARD OF 'charterhouselaw21.SnapNames'. -/
def snapNamesUptoCard : Claim7 := { stood := { row := snapNamesUptoRow, standIns := [], harness := (true, "9563dbb0a1cf37d8a81b6726c791800eb8aff2d57d5f4b0071b45085ff7d694a"), looks := false }, kinds := [], alts := [], laidByText := true, laidKinds := [.data, .pinned], laidTests := true, laidLooks := .later }
def SnapNamesUptoCardSaid : Prop := Claim7.holds Tryz.pinned (.plain (OpenSpec.upto snapNamesSpec)) snapNamesUptoCard

/-- THE SECOND FORM's CARD OF 'charterhouselaw20.DataNames'. -/
def dataNamesUptoCard : Claim7 := { stood := { row := dataNamesUptoRow, standIns := [], harness := (true, "9563dbb0a1cf37d8a81b6726c791800eb8aff2d57d5f4b0071b45085ff7d694a"), looks := false }, kinds := [], alts := [], laidByText := true, laidKinds := [.data, .pinned], laidTests := true, laidLooks := .later }
def DataNamesUptoCardSaid : Prop := Claim7.holds Tryz.pinned (.plain (OpenSpec.upto dataNamesSpec)) dataNamesUptoCard

/-- THE SECOND FORM's CARD OF 'charterhouselaw22.CloneNames'. -/
def cloneNamesUptoCard : Claim7 := { stood := { row := cloneNamesUptoRow, standIns := [], harness := (true, "9563dbb0a1cf37d8a81b6726c791800eb8aff2d57d5f4b0071b45085ff7d694a"), looks := false }, kinds := [], alts := [], laidByText := true, laidKinds := [.data, .pinned], laidTests := true, laidLooks := .later }
def CloneNamesUptoCardSaid : Prop := Claim7.holds Tryz.pinned (.plain (OpenSpec.upto cloneNamesSpec)) cloneNamesUptoCard

/-- THE SECOND FORM's CARD OF 'charterhouselaw28.ScrubNames'. -/
def scrubNamesUptoCard : Claim7 := { stood := { row := scrubNamesUptoRow, standIns := [], harness := (true, "9563dbb0a1cf37d8a81b6726c791800eb8aff2d57d5f4b0071b45085ff7d694a"), looks := false }, kinds := [], alts := [], laidByText := true, laidKinds := [.data, .pinned], laidTests := true, laidLooks := .later }
def ScrubNamesUptoCardSaid : Prop := Claim7.holds Tryz.pinned (.plain (OpenSpec.upto scrubNamesSpec)) scrubNamesUptoCard

/-- THE SECOND FORM's CARD OF 'charterhouselaw23.RollNames'. -/
def rollNamesUptoCard : Claim7 := { stood := { row := rollNamesUptoRow, standIns := [], harness := (true, "9563dbb0a1cf37d8a81b6726c791800eb8aff2d57d5f4b0071b45085ff7d694a"), looks := false }, kinds := [], alts := [], laidByText := true, laidKinds := [.data, .pinned], laidTests := true, laidLooks := .later }
def RollNamesUptoCardSaid : Prop := Claim7.holds Tryz.pinned (.plain (OpenSpec.upto rollNamesSpec)) rollNamesUptoCard

/-- THE SECOND FORM's CARD OF 'charterhouselaw29.SendNames'. -/
def sendNamesUptoCard : Claim7 := { stood := { row := sendNamesUptoRow, standIns := [], harness := (true, "9563dbb0a1cf37d8a81b6726c791800eb8aff2d57d5f4b0071b45085ff7d694a"), looks := false }, kinds := [], alts := [], laidByText := true, laidKinds := [.data, .pinned], laidTests := true, laidLooks := .later }
def SendNamesUptoCardSaid : Prop := Claim7.holds Tryz.pinned (.plain (OpenSpec.upto sendNamesSpec)) sendNamesUptoCard

/-- THE SECOND FORM's CARD OF 'charterhouselaw30.TakeNames'. -/
def takeNamesUptoCard : Claim7 := { stood := { row := takeNamesUptoRow, standIns := [], harness := (true, "9563dbb0a1cf37d8a81b6726c791800eb8aff2d57d5f4b0071b45085ff7d694a"), looks := false }, kinds := [], alts := [], laidByText := true, laidKinds := [.data, .pinned], laidTests := true, laidLooks := .later }
def TakeNamesUptoCardSaid : Prop := Claim7.holds Tryz.pinned (.plain (OpenSpec.upto takeNamesSpec)) takeNamesUptoCard
end Rows
end Go.Proofs.YtpggcoheldampaaGreatDoor
