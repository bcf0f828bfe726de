/-
  Closed facts of the row litmusNamesRow (second part): its name, and what the card asks of the program. No conditions.
-/
import Derived.Test.YthcadcdfoenclaaGreatDoorRows
import Derived.JoinedOf
import Derived.SevenTiedAt
import Derived.KernelRfl
set_option maxRecDepth 100000
namespace Go.Proofs.YthcadcdfoenclaaGreatDoor
open Go
theorem hfn3 : Tryz.pinned.checked.prog.funcNamed Rows.litmusNamesRow.func = some 3 := by kernel_rfl
theorem hwf3 : Rows.litmusNamesRow.wfByText (OpenSpec.ofChange Rows.litmusNamesSpec) = true := by kernel_rfl
theorem hmain3 : Tryz.pinned.checked.prog.mainIs = some (true, "45e4b3a7b029da35ebeee530ecc7fe36f747cd28c9714a549e165c12ab124812".toList) := by kernel_rfl
theorem hlook3 : true = Tryz.pinned.checked.prog.looks [] := by kernel_rfl
theorem hgoes3 : false = Rows.litmusNamesRow.goesBy Tryz.pinned.checked.prog := by kernel_rfl
end Go.Proofs.YthcadcdfoenclaaGreatDoor
