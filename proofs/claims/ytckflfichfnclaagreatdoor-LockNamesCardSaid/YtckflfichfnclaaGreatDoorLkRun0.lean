/- The run of the law, from state to state. No condition. -/
import Derived.Test.YtckflfichfnclaaGreatDoorLkSt0
import Derived.Test.YtckflfichfnclaaGreatDoorLkMd
import Derived.KernelRfl
set_option maxRecDepth 100000
namespace Go.Proofs.YtckflfichfnclaaGreatDoor.Sim
open Go Go.RowKit
theorem ze1 : Xq (Xb zh1) (Xb zg1) 6383 [] zd23 (Xc tab [0,1,3,6,8,12,13] zs0) = zs1 := by kernel_rfl
theorem ze2 : gcS (Xb zh2) (Xb zg2) 14301 (Xc tab [1,3,4,5,6,8,11,13] zs1) = zs2 := by kernel_rfl
theorem ze3 : gcS (Xb zh3) (Xb zg3) 22357 (Xc tab [0,5,7,8,11,13] zs2) = zs3 := by kernel_rfl
theorem ze4 : gcS (Xb zh4) (Xb zg4) 30413 (Xc tab [0,5,7,8,11,13] zs3) = zs4 := by kernel_rfl
end Go.Proofs.YtckflfichfnclaaGreatDoor.Sim
