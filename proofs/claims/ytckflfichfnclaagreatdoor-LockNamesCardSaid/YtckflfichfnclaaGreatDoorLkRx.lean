/- A part of the run. No condition. -/
import Derived.Test.YtckflfichfnclaaGreatDoorLkSt0
import Derived.Test.YtckflfichfnclaaGreatDoorLkMd
import Derived.KernelRfl
set_option maxRecDepth 100000
namespace Go.Proofs.YtckflfichfnclaaGreatDoor.Sim
open Go Go.RowKit
theorem ze10 : gcS (Xb zh10) (Xb zg10) 356746 (Xc tab [1,2,3,4,6,7,8,9,11,13] zs9) = zs10 := by kernel_rfl
end Go.Proofs.YtckflfichfnclaaGreatDoor.Sim
