/- The run of the law, from state 32 to state 36. No condition. -/
import Derived.Test.YthcadcdfoenclaaGreatDoorLiSt0
import Derived.Test.YthcadcdfoenclaaGreatDoorLiMd
import Derived.KernelRfl
set_option maxRecDepth 100000
namespace Go.Proofs.YthcadcdfoenclaaGreatDoor.Sim
open Go Go.RowKit
theorem ze33 : gcS (keys zh33) (keys zg33) 367277 (aruns tab [1,7,8,11,13] zs32) = zs33 := by kernel_rfl
theorem ze34 : gcS (keys zh34) (keys zg34) 371840 (aruns tab [9,10,11,13] zs33) = zs34 := by kernel_rfl
theorem ze35 : gcS (keys zh35) (keys zg35) 376189 (aruns tab [1,2,3,4,5,7,8,10,11,13] zs34) = zs35 := by kernel_rfl
theorem zm36 : Meets tab zs36 zs35 :=
 (.nodes [] 2 (by kernel_rfl) ⟨(.nodes [2,3] 1 (by kernel_rfl) ⟨(.same (keys zh36) (keys zg36) 376380 [1,3,5,8] (by kernel_rfl)),(.same (keys zh36) (keys zg36) 376380 [1,2,4,6,8] (by kernel_rfl)),trivial⟩),(.nodes [2,3] 1 (by kernel_rfl) ⟨(.same (keys zh36) (keys zg36) 376380 [0,4,5,8] (by kernel_rfl)),(.same (keys zh36) (keys zg36) 376380 [0,2,3,4,6,8] (by kernel_rfl)),trivial⟩),(.nodes [2,3] 1 (by kernel_rfl) ⟨(.same (keys zh36) (keys zg36) 376380 [0,2,3,4,6,8] (by kernel_rfl)),(.same (keys zh36) (keys zg36) 376380 [2,5,6,8] (by kernel_rfl)),trivial⟩),trivial⟩)
theorem run8 (f : FuncId) (v : Value) (k : Fin tab f v zs36) : Fin tab f v zs32 := .runs _ _ _ _ ze33 (.runs _ _ _ _ ze34 (.runs _ _ _ _ ze35 ((zm36).fin (fun _ => rfl) (k))))
end Go.Proofs.YthcadcdfoenclaaGreatDoor.Sim
