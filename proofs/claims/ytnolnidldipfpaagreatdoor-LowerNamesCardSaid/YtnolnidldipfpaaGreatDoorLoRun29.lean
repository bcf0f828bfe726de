/- The run of the law, from state 116 to state 120. No condition. -/
import Derived.Test.YtnolnidldipfpaaGreatDoorLoSt1
import Derived.KernelRfl
set_option maxRecDepth 100000
namespace Go.Proofs.YtnolnidldipfpaaGreatDoor.Sim
open Go Go.RowKit
theorem ze117 : gcS (keys zh117) (keys zg117) 162121 (arun tab 14 zs116) = zs117 := by kernel_rfl
theorem ze118 : gcS (keys zh118) (keys zg118) 163365 (arun tab 14 zs117) = zs118 := by kernel_rfl
theorem ze119 : gcS (keys zh119) (keys zg119) 170595 (arun tab 14 zs118) = zs119 := by kernel_rfl
theorem ze120 : gcS (keys zh120) (keys zg120) 175325 (arun tab 14 zs119) = zs120 := by kernel_rfl
theorem run29 (f : FuncId) (v : Value) (k : Fin tab f v zs120) : Fin tab f v zs116 := .run 14 _ _ _ ze117 (.run 14 _ _ _ ze118 (.run 14 _ _ _ ze119 (.run 14 _ _ _ ze120 (k))))
end Go.Proofs.YtnolnidldipfpaaGreatDoor.Sim
