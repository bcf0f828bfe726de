/- A part of the run. No condition. -/
import Derived.Test.YtckflfichfnclaaGreatDoorLkSt0
import Derived.Test.YtckflfichfnclaaGreatDoorLkMd
import Derived.KernelRfl
set_option maxRecDepth 100000
namespace Go.Proofs.YtckflfichfnclaaGreatDoor.Sim
open Go Go.RowKit
theorem ze34 : gcS (Xb zh34) (Xb zg34) 417707 (Xc tab [1,2,4,5,7,10,12] zs33) = zs34 := by kernel_rfl
theorem ze35 : gcS (Xb zh35) (Xb zg35) 421840 (Xc tab [3,5,7,8,11,12] zs34) = zs35 := by kernel_rfl
end Go.Proofs.YtckflfichfnclaaGreatDoor.Sim
