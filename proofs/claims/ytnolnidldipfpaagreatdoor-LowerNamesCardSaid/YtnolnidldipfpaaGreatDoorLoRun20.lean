/- The run of the law, from state 80 to state 84. No condition. -/
import Derived.Test.YtnolnidldipfpaaGreatDoorLoSt1
import Derived.KernelRfl
set_option maxRecDepth 100000
namespace Go.Proofs.YtnolnidldipfpaaGreatDoor.Sim
open Go Go.RowKit
theorem ze81 : gcS (keys zh81) (keys zg81) 90965 (arun tab 14 zs80) = zs81 := by kernel_rfl
theorem ze82 : gcS (keys zh82) (keys zg82) 91129 (arun tab 14 zs81) = zs82 := by kernel_rfl
theorem ze83 : gcS (keys zh83) (keys zg83) 91294 (arun tab 14 zs82) = zs83 := by kernel_rfl
theorem ze84 : gcS (keys zh84) (keys zg84) 91523 (arun tab 14 zs83) = zs84 := by kernel_rfl
theorem run20 (f : FuncId) (v : Value) (k : Fin tab f v zs84) : Fin tab f v zs80 := .run 14 _ _ _ ze81 (.run 14 _ _ _ ze82 (.run 14 _ _ _ ze83 (.run 14 _ _ _ ze84 (k))))
end Go.Proofs.YtnolnidldipfpaaGreatDoor.Sim
