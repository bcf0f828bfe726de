/- The run of the law, from state 108 to state 112. No condition. -/
import Derived.Test.YtnolnidldipfpaaGreatDoorLoSt1
import Derived.KernelRfl
set_option maxRecDepth 100000
namespace Go.Proofs.YtnolnidldipfpaaGreatDoor.Sim
open Go Go.RowKit
theorem ze109 : gcS (keys zh109) (keys zg109) 103395 (arun tab 14 zs108) = zs109 := by kernel_rfl
theorem ze110 : gcS (keys zh110) (keys zg110) 106220 (arun tab 14 zs109) = zs110 := by kernel_rfl
theorem ze111 : gcS (keys zh111) (keys zg111) 139449 (arun tab 14 zs110) = zs111 := by kernel_rfl
theorem ze112 : gcS (keys zh112) (keys zg112) 151680 (arun tab 14 zs111) = zs112 := by kernel_rfl
theorem run27 (f : FuncId) (v : Value) (k : Fin tab f v zs112) : Fin tab f v zs108 := .run 14 _ _ _ ze109 (.run 14 _ _ _ ze110 (.run 14 _ _ _ ze111 (.run 14 _ _ _ ze112 (k))))
end Go.Proofs.YtnolnidldipfpaaGreatDoor.Sim
