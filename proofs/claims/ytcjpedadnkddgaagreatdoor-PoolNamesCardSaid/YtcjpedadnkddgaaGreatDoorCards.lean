/-
  DERIVED. GIVEN WITH THE SEED: THE CARDS: each row of YtcjpedadnkddgaaGreatDoorRows.lean that lists a variable, with what it lists TIED to the program's text (the seventh form; the later family's looks); each row that meets fmt, with fmt's text TOLD by the authors' own Lean function (tested against real Go, not proved from fmt's source: count such statements apart). THE CARD IS WHAT COUNTS. Prove the row's statement (the work); the ties are given (YtcjpedadnkddgaaGreatDoorTie.lean); close each card by the builder's one call (the guide's Derived/Test/ToyasCard.lean, 'card_holds'). Laid BY PROGRAM, IN A SANDBOX (cutbox-door.mjs). By AI agents, Wed Nov 11 2026. No macro, syntax, notation, axiom, sorry.
-/
import Derived.Test.YtcjpedadnkddgaaGreatDoorRows
import GoSem.ClaimSeven
namespace Go.Proofs.YtcjpedadnkddgaaGreatDoor
namespace Rows

/-- THE TIED CARD OF 'fencepostlaw23.PoolNames'. -/
def poolNamesCard : Claim7 := { stood := { row := poolNamesRow, standIns := [], harness := (true, "ae503525f5df312b74d6147f1a654f509a37641fc7eb0f9215c91d23a6e9ad24"), looks := true }, kinds := [], alts := [], laidByText := true, laidKinds := [.data, .data, .data, .data, .sentinel, .sentinel, .listed, .data, .pinned], laidTests := true, laidLooks := .later }
def PoolNamesCardSaid : Prop := Claim7.holds Tryz.pinned (.plain (OpenSpec.ofChange poolNamesSpec)) poolNamesCard

/-- THE SECOND FORM's CARD OF 'fencepostlaw23.PoolNames'. -/
def poolNamesUptoCard : Claim7 := { stood := { row := poolNamesUptoRow, standIns := [], harness := (true, "ae503525f5df312b74d6147f1a654f509a37641fc7eb0f9215c91d23a6e9ad24"), looks := true }, kinds := [], alts := [], laidByText := true, laidKinds := [.data, .data, .data, .data, .sentinel, .sentinel, .listed, .data, .pinned], laidTests := true, laidLooks := .later }
def PoolNamesUptoCardSaid : Prop := Claim7.holds Tryz.pinned (.plain (OpenSpec.upto poolNamesSpec)) poolNamesUptoCard
end Rows
end Go.Proofs.YtcjpedadnkddgaaGreatDoor
