/-
  DERIVED. GIVEN WITH THE SEED: THE CARDS: each row of YtfaoaodhfhdepaaGreatDoorRows.lean that lists a variable, with what it lists TIED to the program's text (the seventh form; the later family's looks); each row that meets fmt, with fmt's text TOLD by the authors' own Lean function (tested against real Go, not proved from fmt's source: count such statements apart). THE CARD IS WHAT COUNTS. Prove the row's statement (the work); the ties are given (YtfaoaodhfhdepaaGreatDoorTie.lean); close each card by the builder's one call (the guide's Derived/Test/ToyasCard.lean, 'card_holds'). Laid BY PROGRAM, IN A SANDBOX (cutbox-door.mjs). By AI agents, Wed Nov 11 2026. No macro, syntax, notation, axiom, sorry.
-/
import Derived.Test.YtfaoaodhfhdepaaGreatDoorRows
import GoSem.ClaimSeven
namespace Go.Proofs.YtfaoaodhfhdepaaGreatDoor
namespace Rows

/-- THE TIED CARD OF 'fencepostlaw12.InterNames'. -/
def interNamesCard : Claim7 := { stood := { row := interNamesRow, standIns := [], harness := (true, "bef2150bca6737cc968f117ed116017124e42e2b9afb4d641468db2ec25d334e"), looks := true }, kinds := [], alts := [], laidByText := true, laidKinds := [.listed, .data, .wider, .wider, .wider, .wider, .wider, .wider, .wider, .wider], laidTests := true, laidLooks := .later }
def InterNamesCardSaid : Prop := Claim7.holds Tryz.pinned (.plain (OpenSpec.ofChange interNamesSpec)) interNamesCard

/-- THE SECOND FORM's CARD OF 'fencepostlaw12.InterNames'. -/
def interNamesUptoCard : Claim7 := { stood := { row := interNamesUptoRow, standIns := [], harness := (true, "bef2150bca6737cc968f117ed116017124e42e2b9afb4d641468db2ec25d334e"), looks := true }, kinds := [], alts := [], laidByText := true, laidKinds := [.listed, .data, .wider, .wider, .wider, .wider, .wider, .wider, .wider, .wider], laidTests := true, laidLooks := .later }
def InterNamesUptoCardSaid : Prop := Claim7.holds Tryz.pinned (.plain (OpenSpec.upto interNamesSpec)) interNamesUptoCard
end Rows
end Go.Proofs.YtfaoaodhfhdepaaGreatDoor
