/-
  DERIVED. GIVEN WITH THE SEED: THE CARDS: each row of YthcadcdfoenclaaGreatDoorRows.lean that lists a variable, with what it lists TIED to the program's text (the seventh form; the later family's looks); each row that meets fmt, with fmt's text TOLD by the authors' own Lean function (tested against real Go, not proved from fmt's source: count such statements apart). THE CARD IS WHAT COUNTS. Prove the row's statement (the work); the ties are given (YthcadcdfoenclaaGreatDoorTie.lean); close each card by the builder's one call (the guide's Derived/Test/ToyasCard.lean, 'card_holds'). Laid BY PROGRAM, IN A SANDBOX (cutbox-door.mjs). By AI agents, Wed Nov 11 2026. No macro, syntax, notation, axiom, sorry.
-/
import Derived.Test.YthcadcdfoenclaaGreatDoorRows
import GoSem.ClaimSeven
namespace Go.Proofs.YthcadcdfoenclaaGreatDoor
namespace Rows

/-- THE TIED CARD OF 'fencepostlaw13.LitmusNames'. -/
def litmusNamesCard : Claim7 := { stood := { row := litmusNamesRow, standIns := [], harness := (true, "45e4b3a7b029da35ebeee530ecc7fe36f747cd28c9714a549e165c12ab124812"), looks := true }, kinds := [], alts := [], laidByText := true, laidKinds := [.listed, .data, .wider, .wider, .wider, .wider, .wider, .wider, .wider, .wider], laidTests := true, laidLooks := .later }
def LitmusNamesCardSaid : Prop := Claim7.holds Tryz.pinned (.plain (OpenSpec.ofChange litmusNamesSpec)) litmusNamesCard

/-- THE SECOND FORM's CARD OF 'fencepostlaw13.LitmusNames'. -/
def litmusNamesUptoCard : Claim7 := { stood := { row := litmusNamesUptoRow, standIns := [], harness := (true, "45e4b3a7b029da35ebeee530ecc7fe36f747cd28c9714a549e165c12ab124812"), looks := true }, kinds := [], alts := [], laidByText := true, laidKinds := [.listed, .data, .wider, .wider, .wider, .wider, .wider, .wider, .wider, .wider], laidTests := true, laidLooks := .later }
def LitmusNamesUptoCardSaid : Prop := Claim7.holds Tryz.pinned (.plain (OpenSpec.upto litmusNamesSpec)) litmusNamesUptoCard
end Rows
end Go.Proofs.YthcadcdfoenclaaGreatDoor
