/- The run of the law, from state 40 to state 44. No condition. -/
import Derived.Test.YtnolnidldipfpaaGreatDoorLoSt1
import Derived.KernelRfl
set_option maxRecDepth 100000
namespace Go.Proofs.YtnolnidldipfpaaGreatDoor.Sim
open Go Go.RowKit
theorem ze41 : gcS (keys zh41) (keys zg41) 73540 (arun tab 14 zs40) = zs41 := by kernel_rfl
theorem ze42 : gcS (keys zh42) (keys zg42) 74501 (arun tab 14 zs41) = zs42 := by kernel_rfl
theorem ze43 : gcS (keys zh43) (keys zg43) 75187 (arun tab 14 zs42) = zs43 := by kernel_rfl
theorem ze44 : gcS (keys zh44) (keys zg44) 75563 (arun tab 14 zs43) = zs44 := by kernel_rfl
theorem run10 (f : FuncId) (v : Value) (k : Fin tab f v zs44) : Fin tab f v zs40 := .run 14 _ _ _ ze41 (.run 14 _ _ _ ze42 (.run 14 _ _ _ ze43 (.run 14 _ _ _ ze44 (k))))
end Go.Proofs.YtnolnidldipfpaaGreatDoor.Sim
