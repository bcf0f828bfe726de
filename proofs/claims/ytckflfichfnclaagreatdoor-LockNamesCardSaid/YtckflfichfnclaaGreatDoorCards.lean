/-
  DERIVED. GIVEN WITH THE SEED: THE CARDS: each row of YtckflfichfnclaaGreatDoorRows.lean that lists a variable, with what it lists TIED to the program's text (the seventh form; the later family's looks); each row that meets fmt, with fmt's text TOLD by the authors' own Lean function (tested against real Go, not proved from fmt's source: count such statements apart). THE CARD IS WHAT COUNTS. Prove the row's statement (the work); the ties are given (YtckflfichfnclaaGreatDoorTie.lean); close each card by the builder's one call (the guide's Derived/Test/ToyasCard.lean, 'card_holds'). Laid BY PROGRAM, IN A SANDBOX (cutbox-door.mjs). By AI agents, Wed Nov 11 2026. No macro, syntax, notation, axiom, sorry.
-/
import Derived.Test.YtckflfichfnclaaGreatDoorRows
import GoSem.ClaimSeven
namespace Go.Proofs.YtckflfichfnclaaGreatDoor
namespace Rows

/-- THE TIED CARD OF 'fencepostlaw24.LockNames'. -/
def lockNamesCard : Claim7 := { stood := { row := lockNamesRow, standIns := [], harness := (true, "52251c0a69e99b2a7db3f03ac7d8293498290852f4e7041762544f320c3fae19"), looks := true }, kinds := [], alts := [], laidByText := true, laidKinds := [.data, .data, .data, .data, .sentinel, .sentinel, .listed, .data, .pinned], laidTests := true, laidLooks := .later }
def LockNamesCardSaid : Prop := Claim7.holds Tryz.pinned (.plain (OpenSpec.ofChange lockNamesSpec)) lockNamesCard

/-- THE SECOND FORM's CARD OF 'fencepostlaw24.LockNames'. -/
def lockNamesUptoCard : Claim7 := { stood := { row := lockNamesUptoRow, standIns := [], harness := (true, "52251c0a69e99b2a7db3f03ac7d8293498290852f4e7041762544f320c3fae19"), looks := true }, kinds := [], alts := [], laidByText := true, laidKinds := [.data, .data, .data, .data, .sentinel, .sentinel, .listed, .data, .pinned], laidTests := true, laidLooks := .later }
def LockNamesUptoCardSaid : Prop := Claim7.holds Tryz.pinned (.plain (OpenSpec.upto lockNamesSpec)) lockNamesUptoCard
end Rows
end Go.Proofs.YtckflfichfnclaaGreatDoor
