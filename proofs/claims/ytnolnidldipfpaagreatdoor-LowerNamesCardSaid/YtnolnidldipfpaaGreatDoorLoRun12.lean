/- The run of the law, from state 48 to state 52. No condition. -/
import Derived.Test.YtnolnidldipfpaaGreatDoorLoSt1
import Derived.KernelRfl
set_option maxRecDepth 100000
namespace Go.Proofs.YtnolnidldipfpaaGreatDoor.Sim
open Go Go.RowKit
theorem ze49 : gcS (keys zh49) (keys zg49) 79406 (arun tab 14 zs48) = zs49 := by kernel_rfl
theorem ze50 : gcS (keys zh50) (keys zg50) 79881 (arun tab 14 zs49) = zs50 := by kernel_rfl
theorem ze51 : gcS (keys zh51) (keys zg51) 80084 (arun tab 14 zs50) = zs51 := by kernel_rfl
theorem ze52 : canS (keys zh52) (keys zg52) 80084 [] [(5, 0),(6, 0),(7, 0)] (aruns tab [] zs51) = zs52 := by kernel_rfl
theorem run12 (f : FuncId) (v : Value) (k : Fin tab f v zs52) : Fin tab f v zs48 := .run 14 _ _ _ ze49 (.run 14 _ _ _ ze50 (.run 14 _ _ _ ze51 (.runw [] _ _ _ [] [(5, 0),(6, 0),(7, 0)] ze52 (k))))
end Go.Proofs.YtnolnidldipfpaaGreatDoor.Sim
