/- The run of the law, from state 132 to state 134. No condition. -/
import Derived.Test.YtnolnidldipfpaaGreatDoorLoSt1
import Derived.KernelRfl
set_option maxRecDepth 100000
namespace Go.Proofs.YtnolnidldipfpaaGreatDoor.Sim
open Go Go.RowKit
theorem ze133 : gcS (keys zh133) (keys zg133) 190279 (arun tab 14 zs132) = zs133 := by kernel_rfl
theorem ze134 : gcS (keys zh134) (keys zg134) 191145 (arun tab 14 zs133) = zs134 := by kernel_rfl
theorem run33 (f : FuncId) (v : Value) (k : Fin tab f v zs134) : Fin tab f v zs132 := .run 14 _ _ _ ze133 (.run 14 _ _ _ ze134 (k))
end Go.Proofs.YtnolnidldipfpaaGreatDoor.Sim
