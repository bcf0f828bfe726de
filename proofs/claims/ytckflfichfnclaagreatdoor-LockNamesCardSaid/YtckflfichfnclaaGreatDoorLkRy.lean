/- A part of the run. No condition. -/
import Derived.Test.YtckflfichfnclaaGreatDoorLkSt0
import Derived.Test.YtckflfichfnclaaGreatDoorLkMd
import Derived.KernelRfl
set_option maxRecDepth 100000
namespace Go.Proofs.YtckflfichfnclaaGreatDoor.Sim
open Go Go.RowKit
theorem ze31 : gcS (Xb zh31) (Xb zg31) 413023 (Xc tab [0,2,4,6,7,9,10,11,12] zs30) = zs31 := by kernel_rfl
end Go.Proofs.YtckflfichfnclaaGreatDoor.Sim
