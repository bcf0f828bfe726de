/- The run of the law, from state 16 to state 20. No condition. -/
import Derived.Test.YtnolnidldipfpaaGreatDoorLoSt1
import Derived.KernelRfl
set_option maxRecDepth 100000
namespace Go.Proofs.YtnolnidldipfpaaGreatDoor.Sim
open Go Go.RowKit
theorem ze17 : gcS (keys zh17) (keys zg17) 13358 (arun tab 14 zs16) = zs17 := by kernel_rfl
theorem ze18 : gcS (keys zh18) (keys zg18) 13523 (arun tab 14 zs17) = zs18 := by kernel_rfl
theorem ze19 : gcS (keys zh19) (keys zg19) 13752 (arun tab 14 zs18) = zs19 := by kernel_rfl
theorem ze20 : gcS (keys zh20) (keys zg20) 15526 (arun tab 14 zs19) = zs20 := by kernel_rfl
theorem run4 (f : FuncId) (v : Value) (k : Fin tab f v zs20) : Fin tab f v zs16 := .run 14 _ _ _ ze17 (.run 14 _ _ _ ze18 (.run 14 _ _ _ ze19 (.run 14 _ _ _ ze20 (k))))
end Go.Proofs.YtnolnidldipfpaaGreatDoor.Sim
