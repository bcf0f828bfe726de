/-
  Closed facts of the row of fencepostlaw25.LowerNames (second part): its name, and what the card asks of the program. No conditions.
-/
import Derived.Test.YtnolnidldipfpaaGreatDoorRows
import Derived.JoinedOf
import Derived.SevenTiedAt
import Derived.KernelRfl
set_option maxRecDepth 100000
namespace Go.Proofs.YtnolnidldipfpaaGreatDoor
open Go
theorem hfn3 : Tryz.pinned.checked.prog.funcNamed Rows.lowerNamesRow.func = some 3 := by kernel_rfl
theorem hwf3 : Rows.lowerNamesRow.wfByText (OpenSpec.ofChange Rows.lowerNamesSpec) = true := by kernel_rfl
theorem hmain3 : Tryz.pinned.checked.prog.mainIs = some (true, "79796743083fd3918f141a1f371cc38d8ba416d8b634c9278e66336ce0ca93b7".toList) := by kernel_rfl
theorem hlook3 : true = Tryz.pinned.checked.prog.looks [] := by kernel_rfl
theorem hgoes3 : false = Rows.lowerNamesRow.goesBy Tryz.pinned.checked.prog := by kernel_rfl
end Go.Proofs.YtnolnidldipfpaaGreatDoor
