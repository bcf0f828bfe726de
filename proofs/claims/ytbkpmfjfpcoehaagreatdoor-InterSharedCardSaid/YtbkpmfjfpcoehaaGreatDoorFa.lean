/- Closed facts of the row interSharedRow: what the given statement's form and the card ask of the program. No condition. -/
import Derived.Test.YtbkpmfjfpcoehaaGreatDoorRows
import Derived.JoinedOf
import Derived.SevenTiedAt
import Derived.KernelRfl
set_option maxRecDepth 100000
namespace Go.Proofs.YtbkpmfjfpcoehaaGreatDoor
open Go
theorem SV : joinedFacts Tryz.pinned.checked.prog 3 Tryz.f3 Rows.interSharedSpec Rows.interSharedRow = true := by kernel_rfl
theorem qU : Tryz.pinned.checked.prog.funcNamed Rows.interSharedRow.func = some 3 := by kernel_rfl
theorem tD : Rows.interSharedRow.wfByText (OpenSpec.ofChange Rows.interSharedSpec) = true := by kernel_rfl
theorem dU : Tryz.pinned.checked.prog.mainIs = some (true, "d02439d7949571b7608c0f64b6d6fadc30db585630ca82ef523a513e964b777a".toList) := by kernel_rfl
theorem dV : true = Tryz.pinned.checked.prog.looks [] := by kernel_rfl
theorem dW : false = Rows.interSharedRow.goesBy Tryz.pinned.checked.prog := by kernel_rfl
theorem SD : Tryz.prog.inits.idxOf? 3 = none := by kernel_rfl
end Go.Proofs.YtbkpmfjfpcoehaaGreatDoor
