/- The run of the law, from state 128 to state 132. No condition. -/
import Derived.Test.YtnolnidldipfpaaGreatDoorLoSt1
import Derived.KernelRfl
set_option maxRecDepth 100000
namespace Go.Proofs.YtnolnidldipfpaaGreatDoor.Sim
open Go Go.RowKit
theorem ze129 : gcS (keys zh129) (keys zg129) 185814 (arun tab 14 zs128) = zs129 := by kernel_rfl
theorem ze130 : gcS (keys zh130) (keys zg130) 186790 (arun tab 14 zs129) = zs130 := by kernel_rfl
theorem ze131 : gcS (keys zh131) (keys zg131) 187804 (arun tab 14 zs130) = zs131 := by kernel_rfl
theorem ze132 : gcS (keys zh132) (keys zg132) 188800 (arun tab 14 zs131) = zs132 := by kernel_rfl
theorem run32 (f : FuncId) (v : Value) (k : Fin tab f v zs132) : Fin tab f v zs128 := .run 14 _ _ _ ze129 (.run 14 _ _ _ ze130 (.run 14 _ _ _ ze131 (.run 14 _ _ _ ze132 (k))))
end Go.Proofs.YtnolnidldipfpaaGreatDoor.Sim
