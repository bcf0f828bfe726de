/- The run of the law, from state 36 to state 40. No condition. -/
import Derived.Test.YtnolnidldipfpaaGreatDoorLoSt1
import Derived.KernelRfl
set_option maxRecDepth 100000
namespace Go.Proofs.YtnolnidldipfpaaGreatDoor.Sim
open Go Go.RowKit
theorem ze37 : gcS (keys zh37) (keys zg37) 69000 (arun tab 14 zs36) = zs37 := by kernel_rfl
theorem ze38 : gcS (keys zh38) (keys zg38) 69996 (arun tab 14 zs37) = zs38 := by kernel_rfl
theorem ze39 : gcS (keys zh39) (keys zg39) 71494 (arun tab 14 zs38) = zs39 := by kernel_rfl
theorem ze40 : gcS (keys zh40) (keys zg40) 72471 (arun tab 14 zs39) = zs40 := by kernel_rfl
theorem run9 (f : FuncId) (v : Value) (k : Fin tab f v zs40) : Fin tab f v zs36 := .run 14 _ _ _ ze37 (.run 14 _ _ _ ze38 (.run 14 _ _ _ ze39 (.run 14 _ _ _ ze40 (k))))
end Go.Proofs.YtnolnidldipfpaaGreatDoor.Sim
