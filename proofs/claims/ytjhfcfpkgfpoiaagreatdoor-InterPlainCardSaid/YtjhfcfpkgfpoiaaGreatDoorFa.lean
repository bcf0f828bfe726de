/- Closed facts of the row interPlainRow: what the given statement's form and the card ask of the program. No condition. -/
import Derived.Test.YtjhfcfpkgfpoiaaGreatDoorRows
import Derived.JoinedOf
import Derived.SevenTiedAt
import Derived.KernelRfl
set_option maxRecDepth 100000
namespace Go.Proofs.YtjhfcfpkgfpoiaaGreatDoor
open Go
theorem joined3 : joinedFacts Tryz.pinned.checked.prog 3 Tryz.f3 Rows.interPlainSpec Rows.interPlainRow = true := by kernel_rfl
theorem hfn3 : Tryz.pinned.checked.prog.funcNamed Rows.interPlainRow.func = some 3 := by kernel_rfl
theorem hwf3 : Rows.interPlainRow.wfByText (OpenSpec.ofChange Rows.interPlainSpec) = true := by kernel_rfl
theorem hmain3 : Tryz.pinned.checked.prog.mainIs = some (true, "88e825b0ce22a6b112687c4d050b3b2f2f25def70d47f073fb5245e48358620d".toList) := by kernel_rfl
theorem hlook3 : true = Tryz.pinned.checked.prog.looks [] := by kernel_rfl
theorem hgoes3 : false = Rows.interPlainRow.goesBy Tryz.pinned.checked.prog := by kernel_rfl
theorem noInit3 : Tryz.prog.inits.idxOf? 3 = none := by kernel_rfl
end Go.Proofs.YtjhfcfpkgfpoiaaGreatDoor
