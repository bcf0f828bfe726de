/- Calls that are run once, by the kernel. No condition. -/
import Derived.Test.YtckflfichfnclaaGreatDoorLkMs0
import Derived.KernelRfl
set_option maxRecDepth 100000
namespace Go.Proofs.YtckflfichfnclaaGreatDoor.Sim
open Go Go.RowKit
theorem y111e58 : ∀ ν, Xq (Xb y111h58) (Xb y111g58) 410760 [] zd2 (Xc (Xi.aT ν) [0,2,3,4,5,6,7,8,11,13] y111s57) = y111s58 := fun _ => by kernel_rfl
theorem y111e59 : ∀ ν, Xq (Xb y111h59) (Xb y111g59) 414269 [] zd18 (Xc (Xi.aT ν) [0,2,3,5,9,11,13] y111s58) = y111s59 := fun _ => by kernel_rfl
theorem y111e60 : ∀ ν, gcS (Xb y111h60) (Xb y111g60) 416498 (Xc (Xi.aT ν) [0,2,9,11,13] y111s59) = y111s60 := fun _ => by kernel_rfl
theorem y111e61 : ∀ ν, gcS (Xb y111h61) (Xb y111g61) 418037 (Xc (Xi.aT ν) [0,1,9,11,13] y111s60) = y111s61 := fun _ => by kernel_rfl
theorem y111e62 : ∀ ν, gcS (Xb y111h62) (Xb y111g62) 419701 (Xc (Xi.aT ν) [4,5,9,11,13] y111s61) = y111s62 := fun _ => by kernel_rfl
theorem y111e63 : ∀ ν, gcS (Xb y111h63) (Xb y111g63) 421385 (Xc (Xi.aT ν) [1,2,6,7,8,11,13] y111s62) = y111s63 := fun _ => by kernel_rfl
theorem y111e64 : ∀ ν, gcS (Xb y111h64) (Xb y111g64) 422984 (Xc (Xi.aT ν) [2,4,9,11,13] y111s63) = y111s64 := fun _ => by kernel_rfl
theorem y111e65 : ∀ ν, gcS (Xb y111h65) (Xb y111g65) 424726 (Xc (Xi.aT ν) [1,2,3,5,9,11,13] y111s64) = y111s65 := fun _ => by kernel_rfl
theorem y111e66 : ∀ ν, gcS (Xb y111h66) (Xb y111g66) 426402 (Xc (Xi.aT ν) [1,2,3,5,9,11,13] y111s65) = y111s66 := fun _ => by kernel_rfl
end Go.Proofs.YtckflfichfnclaaGreatDoor.Sim
