/- The run of the law, from state 112 to state 116. No condition. -/
import Derived.Test.YtnolnidldipfpaaGreatDoorLoSt1
import Derived.KernelRfl
set_option maxRecDepth 100000
namespace Go.Proofs.YtnolnidldipfpaaGreatDoor.Sim
open Go Go.RowKit
theorem ze113 : gcS (keys zh113) (keys zg113) 154459 (arun tab 14 zs112) = zs113 := by kernel_rfl
theorem ze114 : gcS (keys zh114) (keys zg114) 159211 (arun tab 14 zs113) = zs114 := by kernel_rfl
theorem ze115 : gcS (keys zh115) (keys zg115) 160671 (arun tab 14 zs114) = zs115 := by kernel_rfl
theorem ze116 : gcS (keys zh116) (keys zg116) 161392 (arun tab 14 zs115) = zs116 := by kernel_rfl
theorem run28 (f : FuncId) (v : Value) (k : Fin tab f v zs116) : Fin tab f v zs112 := .run 14 _ _ _ ze113 (.run 14 _ _ _ ze114 (.run 14 _ _ _ ze115 (.run 14 _ _ _ ze116 (k))))
end Go.Proofs.YtnolnidldipfpaaGreatDoor.Sim
