/- The run of the law, from state 32 to state 36. No condition. -/
import Derived.Test.YtnolnidldipfpaaGreatDoorLoSt1
import Derived.KernelRfl
set_option maxRecDepth 100000
namespace Go.Proofs.YtnolnidldipfpaaGreatDoor.Sim
open Go Go.RowKit
theorem ze33 : gcS (keys zh33) (keys zg33) 41922 (arun tab 14 zs32) = zs33 := by kernel_rfl
theorem ze34 : gcS (keys zh34) (keys zg34) 47645 (arun tab 14 zs33) = zs34 := by kernel_rfl
theorem ze35 : gcS (keys zh35) (keys zg35) 64153 (arun tab 14 zs34) = zs35 := by kernel_rfl
theorem ze36 : gcS (keys zh36) (keys zg36) 67986 (arun tab 14 zs35) = zs36 := by kernel_rfl
theorem run8 (f : FuncId) (v : Value) (k : Fin tab f v zs36) : Fin tab f v zs32 := .run 14 _ _ _ ze33 (.run 14 _ _ _ ze34 (.run 14 _ _ _ ze35 (.run 14 _ _ _ ze36 (k))))
end Go.Proofs.YtnolnidldipfpaaGreatDoor.Sim
