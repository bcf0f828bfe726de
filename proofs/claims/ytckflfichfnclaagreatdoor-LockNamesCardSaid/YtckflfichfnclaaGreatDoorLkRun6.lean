/- The run of the law, from state to state. No condition. -/
import Derived.Test.YtckflfichfnclaaGreatDoorLkSt0
import Derived.Test.YtckflfichfnclaaGreatDoorLkMd
import Derived.KernelRfl
set_option maxRecDepth 100000
namespace Go.Proofs.YtckflfichfnclaaGreatDoor.Sim
open Go Go.RowKit
theorem ze42 : gcS (Xb zh42) (Xb zg42) 1316117 (Xc tab [0,1,6,7,8,13] zs41) = zs42 := by kernel_rfl
theorem ze43 : Xq (Xb zh43) (Xb zg43) 1323777 [] zd23 (Xc tab [1,3,6,11,13] zs42) = zs43 := by kernel_rfl
theorem ze44 : Xq (Xb zh44) (Xb zg44) 1331358 [] zd23 (Xc tab [0,1,2,4,5,6,8,9,10,13] zs43) = zs44 := by kernel_rfl
theorem ze45 : Xq (Xb zh45) (Xb zg45) 1338939 [] zd23 (Xc tab [0,1,2,4,5,6,8,9,10,13] zs44) = zs45 := by kernel_rfl
theorem ze46 : gcS (Xb zh46) (Xb zg46) 1341918 (Xc tab [2,3,8,9,10,11] zs45) = zs46 := by kernel_rfl
end Go.Proofs.YtckflfichfnclaaGreatDoor.Sim
