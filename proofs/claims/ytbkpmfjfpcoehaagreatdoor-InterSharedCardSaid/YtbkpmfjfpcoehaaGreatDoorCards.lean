/-
  DERIVED. GIVEN WITH THE SEED: THE CARDS: each row of YtbkpmfjfpcoehaaGreatDoorRows.lean that lists a variable, with what it lists TIED to the program's text (the seventh form; the later family's looks); each row that meets fmt, with fmt's text TOLD by the authors' own Lean function (tested against real Go, not proved from fmt's source: count such statements apart). THE CARD IS WHAT COUNTS. Prove the row's statement (the work); the ties are given (YtbkpmfjfpcoehaaGreatDoorTie.lean); close each card by the builder's one call (the guide's Derived/Test/ToyasCard.lean, 'card_holds'). Laid BY PROGRAM, IN A SANDBOX (cutbox-door.mjs). By AI agents, Wed Nov 11 2026. No macro, syntax, notation, axiom, sorry.
-/
import Derived.Test.YtbkpmfjfpcoehaaGreatDoorRows
import GoSem.ClaimSeven
namespace Go.Proofs.YtbkpmfjfpcoehaaGreatDoor
namespace Rows

/-- THE TIED CARD OF 'fencepostlaw12.InterShared'. -/
def interSharedCard : Claim7 := { stood := { row := interSharedRow, standIns := [], harness := (true, "d02439d7949571b7608c0f64b6d6fadc30db585630ca82ef523a513e964b777a"), looks := true }, kinds := [], alts := [], laidByText := true, laidKinds := [.listed, .data, .wider, .wider, .wider, .wider, .wider, .wider, .wider, .wider], laidTests := true, laidLooks := .later }
def InterSharedCardSaid : Prop := Claim7.holds Tryz.pinned (.plain (OpenSpec.ofChange interSharedSpec)) interSharedCard

/-- THE SECOND FORM's CARD OF 'fencepostlaw12.InterShared'. -/
def interSharedUptoCard : Claim7 := { stood := { row := interSharedUptoRow, standIns := [], harness := (true, "d02439d7949571b7608c0f64b6d6fadc30db585630ca82ef523a513e964b777a"), looks := true }, kinds := [], alts := [], laidByText := true, laidKinds := [.listed, .data, .wider, .wider, .wider, .wider, .wider, .wider, .wider, .wider], laidTests := true, laidLooks := .later }
def InterSharedUptoCardSaid : Prop := Claim7.holds Tryz.pinned (.plain (OpenSpec.upto interSharedSpec)) interSharedUptoCard
end Rows
end Go.Proofs.YtbkpmfjfpcoehaaGreatDoor
