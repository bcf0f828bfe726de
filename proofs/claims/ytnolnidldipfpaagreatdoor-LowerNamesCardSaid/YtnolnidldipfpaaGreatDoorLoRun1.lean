/- The run of the law, from state 4 to state 8. No condition. -/
import Derived.Test.YtnolnidldipfpaaGreatDoorLoSt1
import Derived.KernelRfl
set_option maxRecDepth 100000
namespace Go.Proofs.YtnolnidldipfpaaGreatDoor.Sim
open Go Go.RowKit
theorem ze5 : gcS (keys zh5) (keys zg5) 11891 (arun tab 14 zs4) = zs5 := by kernel_rfl
theorem ze6 : gcS (keys zh6) (keys zg6) 12043 (arun tab 14 zs5) = zs6 := by kernel_rfl
theorem ze7 : gcS (keys zh7) (keys zg7) 12166 (arun tab 14 zs6) = zs7 := by kernel_rfl
theorem ze8 : canS (keys zh8) (keys zg8) 12166 [(12161, [(vs [70,82,69,69,67,79,85,78,84]),(vs [70,82,69,69]),(vs [82,69,84,73,82,69,68]),(vs [82,69,84,67,79,85,78,84]),(vs [83,69,69,78])])] [(8, 0),(9, 0)] (aruns tab [] zs7) = zs8 := by kernel_rfl
theorem run1 (f : FuncId) (v : Value) (k : Fin tab f v zs8) : Fin tab f v zs4 := .run 14 _ _ _ ze5 (.run 14 _ _ _ ze6 (.run 14 _ _ _ ze7 (.runw [] _ _ _ [(12161, [(vs [70,82,69,69,67,79,85,78,84]),(vs [70,82,69,69]),(vs [82,69,84,73,82,69,68]),(vs [82,69,84,67,79,85,78,84]),(vs [83,69,69,78])])] [(8, 0),(9, 0)] ze8 (k))))
end Go.Proofs.YtnolnidldipfpaaGreatDoor.Sim
