/- The run of the law, from state 0 to state 4. No condition. -/
import Derived.Test.YtnolnidldipfpaaGreatDoorLoSt1
import Derived.KernelRfl
set_option maxRecDepth 100000
namespace Go.Proofs.YtnolnidldipfpaaGreatDoor.Sim
open Go Go.RowKit
theorem ze1 : gcS (keys zh1) (keys zg1) 9056 (arun tab 14 zs0) = zs1 := by kernel_rfl
theorem ze2 : gcS (keys zh2) (keys zg2) 9564 (arun tab 14 zs1) = zs2 := by kernel_rfl
theorem ze3 : gcS (keys zh3) (keys zg3) 10687 (arun tab 14 zs2) = zs3 := by kernel_rfl
theorem ze4 : gcS (keys zh4) (keys zg4) 11396 (arun tab 14 zs3) = zs4 := by kernel_rfl
theorem run0 (f : FuncId) (v : Value) (k : Fin tab f v zs4) : Fin tab f v zs0 := .run 14 _ _ _ ze1 (.run 14 _ _ _ ze2 (.run 14 _ _ _ ze3 (.run 14 _ _ _ ze4 (k))))
end Go.Proofs.YtnolnidldipfpaaGreatDoor.Sim
