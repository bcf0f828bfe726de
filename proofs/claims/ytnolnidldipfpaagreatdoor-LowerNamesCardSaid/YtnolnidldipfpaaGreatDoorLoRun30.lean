/- The run of the law, from state 120 to state 124. No condition. -/
import Derived.Test.YtnolnidldipfpaaGreatDoorLoSt1
import Derived.KernelRfl
set_option maxRecDepth 100000
namespace Go.Proofs.YtnolnidldipfpaaGreatDoor.Sim
open Go Go.RowKit
theorem ze121 : gcS (keys zh121) (keys zg121) 176332 (arun tab 14 zs120) = zs121 := by kernel_rfl
theorem ze122 : gcS (keys zh122) (keys zg122) 177328 (arun tab 14 zs121) = zs122 := by kernel_rfl
theorem ze123 : gcS (keys zh123) (keys zg123) 178809 (arun tab 14 zs122) = zs123 := by kernel_rfl
theorem ze124 : gcS (keys zh124) (keys zg124) 179827 (arun tab 14 zs123) = zs124 := by kernel_rfl
theorem run30 (f : FuncId) (v : Value) (k : Fin tab f v zs124) : Fin tab f v zs120 := .run 14 _ _ _ ze121 (.run 14 _ _ _ ze122 (.run 14 _ _ _ ze123 (.run 14 _ _ _ ze124 (k))))
end Go.Proofs.YtnolnidldipfpaaGreatDoor.Sim
