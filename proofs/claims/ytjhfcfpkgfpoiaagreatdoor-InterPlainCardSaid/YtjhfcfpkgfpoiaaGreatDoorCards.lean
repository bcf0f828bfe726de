/-
  DERIVED. GIVEN WITH THE SEED: THE CARDS: each row of YtjhfcfpkgfpoiaaGreatDoorRows.lean that lists a variable, with what it lists TIED to the program's text (the seventh form; the later family's looks); each row that meets fmt, with fmt's text TOLD by the authors' own Lean function (tested against real Go, not proved from fmt's source: count such statements apart). THE CARD IS WHAT COUNTS. Prove the row's statement (the work); the ties are given (YtjhfcfpkgfpoiaaGreatDoorTie.lean); close each card by the builder's one call (the guide's Derived/Test/ToyasCard.lean, 'card_holds'). Laid BY PROGRAM, IN A SANDBOX (cutbox-door.mjs). By AI agents, Wed Nov 11 2026. No macro, syntax, notation, axiom, sorry.
-/
import Derived.Test.YtjhfcfpkgfpoiaaGreatDoorRows
import GoSem.ClaimSeven
namespace Go.Proofs.YtjhfcfpkgfpoiaaGreatDoor
namespace Rows

/-- THE TIED CARD OF 'fencepostlaw12.InterPlain'. -/
def interPlainCard : Claim7 := { stood := { row := interPlainRow, standIns := [], harness := (true, "88e825b0ce22a6b112687c4d050b3b2f2f25def70d47f073fb5245e48358620d"), looks := true }, kinds := [], alts := [], laidByText := true, laidKinds := [.listed, .data, .wider, .wider, .wider, .wider, .wider, .wider, .wider, .wider], laidTests := true, laidLooks := .later }
def InterPlainCardSaid : Prop := Claim7.holds Tryz.pinned (.plain (OpenSpec.ofChange interPlainSpec)) interPlainCard

/-- THE SECOND FORM's CARD OF 'fencepostlaw12.InterPlain'. -/
def interPlainUptoCard : Claim7 := { stood := { row := interPlainUptoRow, standIns := [], harness := (true, "88e825b0ce22a6b112687c4d050b3b2f2f25def70d47f073fb5245e48358620d"), looks := true }, kinds := [], alts := [], laidByText := true, laidKinds := [.listed, .data, .wider, .wider, .wider, .wider, .wider, .wider, .wider, .wider], laidTests := true, laidLooks := .later }
def InterPlainUptoCardSaid : Prop := Claim7.holds Tryz.pinned (.plain (OpenSpec.upto interPlainSpec)) interPlainUptoCard
end Rows
end Go.Proofs.YtjhfcfpkgfpoiaaGreatDoor
