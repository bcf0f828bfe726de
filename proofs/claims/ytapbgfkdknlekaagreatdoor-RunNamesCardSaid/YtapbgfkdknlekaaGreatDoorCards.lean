/-
  DERIVED. GIVEN WITH THE SEED: THE CARDS: each row of YtapbgfkdknlekaaGreatDoorRows.lean that lists a variable, with what it lists TIED to the program's text (the seventh form; the later family's looks); each row that meets fmt, with fmt's text TOLD by the authors' own Lean function (tested against real Go, not proved from fmt's source: count such statements apart). THE CARD IS WHAT COUNTS. Prove the row's statement (the work); the ties are given (YtapbgfkdknlekaaGreatDoorTie.lean); close each card by the builder's one call (the guide's Derived/Test/ToyasCard.lean, 'card_holds'). Laid BY PROGRAM, IN A SANDBOX (cutbox-door.mjs). By AI agents, Wed Nov 11 2026. No macro, syntax, notation, axiom, sorry.
-/
import Derived.Test.YtapbgfkdknlekaaGreatDoorRows
import GoSem.ClaimSeven
namespace Go.Proofs.YtapbgfkdknlekaaGreatDoor
namespace Rows

/-- THE TIED CARD OF 'fencepostlaw08.RunNames'. -/
def runNamesCard : Claim7 := { stood := { row := runNamesRow, standIns := [], harness := (true, "93a9792d9ef12090a51621f86d8b3124ecf42879892d2550c925fd72f2cb5c7c"), looks := true }, kinds := [], alts := [], laidByText := true, laidKinds := [.listed, .data, .wider, .wider, .wider, .wider, .wider, .wider, .wider, .wider], laidTests := true, laidLooks := .later }
def RunNamesCardSaid : Prop := Claim7.holds Tryz.pinned (.plain (OpenSpec.ofChange runNamesSpec)) runNamesCard

/-- THE SECOND FORM's CARD OF 'fencepostlaw08.RunNames'. -/
def runNamesUptoCard : Claim7 := { stood := { row := runNamesUptoRow, standIns := [], harness := (true, "93a9792d9ef12090a51621f86d8b3124ecf42879892d2550c925fd72f2cb5c7c"), looks := true }, kinds := [], alts := [], laidByText := true, laidKinds := [.listed, .data, .wider, .wider, .wider, .wider, .wider, .wider, .wider, .wider], laidTests := true, laidLooks := .later }
def RunNamesUptoCardSaid : Prop := Claim7.holds Tryz.pinned (.plain (OpenSpec.upto runNamesSpec)) runNamesUptoCard
end Rows
end Go.Proofs.YtapbgfkdknlekaaGreatDoor
