/-
  DERIVED. GIVEN WITH THE SEED: THE CARDS: each row of YtfpffkecbhkbkaaGreatDoorRows.lean that lists a variable, with what it lists TIED to the program's text (the seventh form; the later family's looks); each row that meets fmt, with fmt's text TOLD by the authors' own Lean function (tested against real Go, not proved from fmt's source: count such statements apart). THE CARD IS WHAT COUNTS. Prove the row's statement (the work); the ties are given (YtfpffkecbhkbkaaGreatDoorTie.lean); close each card by the builder's one call (the guide's Derived/Test/ToyasCard.lean, 'card_holds'). Laid BY PROGRAM, IN A SANDBOX (cutbox-door.mjs). By AI agents, Wed Nov 11 2026. No macro, syntax, notation, axiom, sorry.
-/
import Derived.Test.YtfpffkecbhkbkaaGreatDoorRows
import GoSem.ClaimSeven
namespace Go.Proofs.YtfpffkecbhkbkaaGreatDoor
namespace Rows

/-- THE TIED CARD OF 'charterhouselaw20.DataFrozen'. -/
def dataFrozenCard : Claim7 := { stood := { row := dataFrozenRow, standIns := [], harness := (true, "af6ca35b5678703c5542c6193a262a950510be07770eef9caf49b610a83f8092"), looks := false }, kinds := [], alts := [], laidByText := true, laidKinds := [.data, .pinned], laidTests := true, laidLooks := .later }
def DataFrozenCardSaid : Prop := Claim7.holds Tryz.pinned (.plain (OpenSpec.ofChange dataFrozenSpec)) dataFrozenCard

/-- THE SECOND FORM's CARD OF 'charterhouselaw20.DataFrozen'. -/
def dataFrozenUptoCard : Claim7 := { stood := { row := dataFrozenUptoRow, standIns := [], harness := (true, "af6ca35b5678703c5542c6193a262a950510be07770eef9caf49b610a83f8092"), looks := false }, kinds := [], alts := [], laidByText := true, laidKinds := [.data, .pinned], laidTests := true, laidLooks := .later }
def DataFrozenUptoCardSaid : Prop := Claim7.holds Tryz.pinned (.plain (OpenSpec.upto dataFrozenSpec)) dataFrozenUptoCard
end Rows
end Go.Proofs.YtfpffkecbhkbkaaGreatDoor
