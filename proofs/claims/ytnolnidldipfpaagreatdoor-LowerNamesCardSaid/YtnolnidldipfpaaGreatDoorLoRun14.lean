/- The run of the law, from state 56 to state 60. No condition. -/
import Derived.Test.YtnolnidldipfpaaGreatDoorLoSt1
import Derived.KernelRfl
set_option maxRecDepth 100000
namespace Go.Proofs.YtnolnidldipfpaaGreatDoor.Sim
open Go Go.RowKit
theorem ze57 : gcS (keys zh57) (keys zg57) 85625 (arun tab 14 zs56) = zs57 := by kernel_rfl
theorem ze58 : gcS (keys zh58) (keys zg58) 86757 (arun tab 14 zs57) = zs58 := by kernel_rfl
theorem ze59 : gcS (keys zh59) (keys zg59) 87141 (arun tab 14 zs58) = zs59 := by kernel_rfl
theorem ze60 : canS (keys zh60) (keys zg60) 87141 [(87134, [(vs [112]),(vs [99]),(vs [109]),(vs [102])])] [(7, 0),(8, 0)] (aruns tab [] zs59) = zs60 := by kernel_rfl
theorem run14 (f : FuncId) (v : Value) (k : Fin tab f v zs60) : Fin tab f v zs56 := .run 14 _ _ _ ze57 (.run 14 _ _ _ ze58 (.run 14 _ _ _ ze59 (.runw [] _ _ _ [(87134, [(vs [112]),(vs [99]),(vs [109]),(vs [102])])] [(7, 0),(8, 0)] ze60 (k))))
end Go.Proofs.YtnolnidldipfpaaGreatDoor.Sim
