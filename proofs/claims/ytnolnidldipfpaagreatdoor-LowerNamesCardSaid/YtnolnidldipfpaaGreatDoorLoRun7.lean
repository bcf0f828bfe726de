/- The run of the law, from state 28 to state 32. No condition. -/
import Derived.Test.YtnolnidldipfpaaGreatDoorLoSt1
import Derived.KernelRfl
set_option maxRecDepth 100000
namespace Go.Proofs.YtnolnidldipfpaaGreatDoor.Sim
open Go Go.RowKit
theorem ze29 : gcS (keys zh29) (keys zg29) 24430 (arun tab 14 zs28) = zs29 := by kernel_rfl
theorem ze30 : gcS (keys zh30) (keys zg30) 35593 (arun tab 14 zs29) = zs30 := by kernel_rfl
theorem ze31 : gcS (keys zh31) (keys zg31) 40111 (arun tab 14 zs30) = zs31 := by kernel_rfl
theorem ze32 : gcS (keys zh32) (keys zg32) 41022 (arun tab 14 zs31) = zs32 := by kernel_rfl
theorem run7 (f : FuncId) (v : Value) (k : Fin tab f v zs32) : Fin tab f v zs28 := .run 14 _ _ _ ze29 (.run 14 _ _ _ ze30 (.run 14 _ _ _ ze31 (.run 14 _ _ _ ze32 (k))))
end Go.Proofs.YtnolnidldipfpaaGreatDoor.Sim
