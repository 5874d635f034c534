/-
  DERIVED. GIVEN WITH THE SEED: THE CARDS: each row of YtooeopogefefiaaGreatDoorRows.lean that lists a variable, with what it lists TIED to the program's text (the seventh form; the later family's looks); each row that meets fmt, with fmt's text TOLD by the authors' own Lean function (tested against real Go, not proved from fmt's source: count such statements apart). THE CARD IS WHAT COUNTS. Prove the row's statement (the work); the ties are given (YtooeopogefefiaaGreatDoorTie.lean); close each card by the builder's one call (the guide's Derived/Test/ToyasCard.lean, 'card_holds'). Laid BY PROGRAM, IN A SANDBOX (cutbox-door.mjs). By AI agents, Wed Nov 11 2026. No macro, syntax, notation, axiom, sorry.
-/
import Derived.Test.YtooeopogefefiaaGreatDoorRows
import GoSem.ClaimSeven
namespace Go.Proofs.YtooeopogefefiaaGreatDoor
namespace Rows

/-- THE TIED CARD OF 'charterhouselaw21.SnapRefuses'. -/
def snapRefusesCard : Claim7 := { stood := { row := snapRefusesRow, standIns := [], harness := (true, "4aff0288b791b317c6b5a8e40bb2c921b77f0e9b2200fbdeb263fa8c092f6c82"), looks := false }, kinds := [], alts := [], laidByText := true, laidKinds := [.data, .pinned], laidTests := true, laidLooks := .later }
def SnapRefusesCardSaid : Prop := Claim7.holds Tryz.pinned (.plain (OpenSpec.ofChange snapRefusesSpec)) snapRefusesCard

/-- THE SECOND FORM's CARD OF 'charterhouselaw21.SnapRefuses'. -/
def snapRefusesUptoCard : Claim7 := { stood := { row := snapRefusesUptoRow, standIns := [], harness := (true, "4aff0288b791b317c6b5a8e40bb2c921b77f0e9b2200fbdeb263fa8c092f6c82"), looks := false }, kinds := [], alts := [], laidByText := true, laidKinds := [.data, .pinned], laidTests := true, laidLooks := .later }
def SnapRefusesUptoCardSaid : Prop := Claim7.holds Tryz.pinned (.plain (OpenSpec.upto snapRefusesSpec)) snapRefusesUptoCard
end Rows
end Go.Proofs.YtooeopogefefiaaGreatDoor
