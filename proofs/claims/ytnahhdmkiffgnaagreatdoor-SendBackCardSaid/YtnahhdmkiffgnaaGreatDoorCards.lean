/-
  DERIVED. GIVEN WITH THE SEED: THE CARDS: each row of YtnahhdmkiffgnaaGreatDoorRows.lean that lists a variable, with what it lists TIED to the program's text (the seventh form; the later family's looks); each row that meets fmt, with fmt's text TOLD by the authors' own Lean function (tested against real Go, not proved from fmt's source: count such statements apart). THE CARD IS WHAT COUNTS. Prove the row's statement (the work); the ties are given (YtnahhdmkiffgnaaGreatDoorTie.lean); close each card by the builder's one call (the guide's Derived/Test/ToyasCard.lean, 'card_holds'). Laid BY PROGRAM, IN A SANDBOX (cutbox-door.mjs). By AI agents, Wed Nov 11 2026. No macro, syntax, notation, axiom, sorry.
-/
import Derived.Test.YtnahhdmkiffgnaaGreatDoorRows
import GoSem.ClaimSeven
namespace Go.Proofs.YtnahhdmkiffgnaaGreatDoor
namespace Rows

/-- THE TIED CARD OF 'charterhouselaw29.SendBack'. -/
def sendBackCard : Claim7 := { stood := { row := sendBackRow, standIns := [], harness := (true, "10b67b422e409de54a2029828b342e7a0670c362c2f90a61021b52f05a5e126f"), looks := false }, kinds := [], alts := [], laidByText := true, laidKinds := [.data, .pinned], laidTests := true, laidLooks := .later }
def SendBackCardSaid : Prop := Claim7.holds Tryz.pinned (.plain (OpenSpec.ofChange sendBackSpec)) sendBackCard

/-- THE SECOND FORM's CARD OF 'charterhouselaw29.SendBack'. -/
def sendBackUptoCard : Claim7 := { stood := { row := sendBackUptoRow, standIns := [], harness := (true, "10b67b422e409de54a2029828b342e7a0670c362c2f90a61021b52f05a5e126f"), looks := false }, kinds := [], alts := [], laidByText := true, laidKinds := [.data, .pinned], laidTests := true, laidLooks := .later }
def SendBackUptoCardSaid : Prop := Claim7.holds Tryz.pinned (.plain (OpenSpec.upto sendBackSpec)) sendBackUptoCard
end Rows
end Go.Proofs.YtnahhdmkiffgnaaGreatDoor
