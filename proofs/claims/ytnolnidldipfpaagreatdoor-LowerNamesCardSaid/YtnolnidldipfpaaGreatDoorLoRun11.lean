/- The run of the law, from state 44 to state 48. No condition. -/
import Derived.Test.YtnolnidldipfpaaGreatDoorLoSt1
import Derived.KernelRfl
set_option maxRecDepth 100000
namespace Go.Proofs.YtnolnidldipfpaaGreatDoor.Sim
open Go Go.RowKit
theorem ze45 : gcS (keys zh45) (keys zg45) 76532 (arun tab 14 zs44) = zs45 := by kernel_rfl
theorem ze46 : gcS (keys zh46) (keys zg46) 77265 (arun tab 14 zs45) = zs46 := by kernel_rfl
theorem ze47 : gcS (keys zh47) (keys zg47) 77768 (arun tab 14 zs46) = zs47 := by kernel_rfl
theorem ze48 : gcS (keys zh48) (keys zg48) 78755 (arun tab 14 zs47) = zs48 := by kernel_rfl
theorem run11 (f : FuncId) (v : Value) (k : Fin tab f v zs48) : Fin tab f v zs44 := .run 14 _ _ _ ze45 (.run 14 _ _ _ ze46 (.run 14 _ _ _ ze47 (.run 14 _ _ _ ze48 (k))))
end Go.Proofs.YtnolnidldipfpaaGreatDoor.Sim
