/-
  Closed facts of the row lockNamesRow (second part): its name, and what the card asks of the program. No conditions.
-/
import Derived.Test.YtckflfichfnclaaGreatDoorRows
import Derived.JoinedOf
import Derived.SevenTiedAt
import Derived.KernelRfl
set_option maxRecDepth 100000
namespace Go.Proofs.YtckflfichfnclaaGreatDoor
open Go
theorem hfn3 : Tryz.pinned.checked.prog.funcNamed Rows.lockNamesRow.func = some 3 := by kernel_rfl
theorem hwf3 : Rows.lockNamesRow.wfByText (OpenSpec.ofChange Rows.lockNamesSpec) = true := by kernel_rfl
theorem hmain3 : Tryz.pinned.checked.prog.mainIs = some (true, "52251c0a69e99b2a7db3f03ac7d8293498290852f4e7041762544f320c3fae19".toList) := by kernel_rfl
theorem hlook3 : true = Tryz.pinned.checked.prog.looks [] := by kernel_rfl
theorem hgoes3 : false = Rows.lockNamesRow.goesBy Tryz.pinned.checked.prog := by kernel_rfl
end Go.Proofs.YtckflfichfnclaaGreatDoor
