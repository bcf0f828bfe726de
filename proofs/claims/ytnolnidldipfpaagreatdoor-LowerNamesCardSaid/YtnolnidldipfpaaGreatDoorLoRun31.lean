/- The run of the law, from state 124 to state 128. No condition. -/
import Derived.Test.YtnolnidldipfpaaGreatDoorLoSt1
import Derived.KernelRfl
set_option maxRecDepth 100000
namespace Go.Proofs.YtnolnidldipfpaaGreatDoor.Sim
open Go Go.RowKit
theorem ze125 : gcS (keys zh125) (keys zg125) 180823 (arun tab 14 zs124) = zs125 := by kernel_rfl
theorem ze126 : gcS (keys zh126) (keys zg126) 182304 (arun tab 14 zs125) = zs126 := by kernel_rfl
theorem ze127 : gcS (keys zh127) (keys zg127) 183320 (arun tab 14 zs126) = zs127 := by kernel_rfl
theorem ze128 : gcS (keys zh128) (keys zg128) 184318 (arun tab 14 zs127) = zs128 := by kernel_rfl
theorem run31 (f : FuncId) (v : Value) (k : Fin tab f v zs128) : Fin tab f v zs124 := .run 14 _ _ _ ze125 (.run 14 _ _ _ ze126 (.run 14 _ _ _ ze127 (.run 14 _ _ _ ze128 (k))))
end Go.Proofs.YtnolnidldipfpaaGreatDoor.Sim
