/- Calls that are run once, by the kernel. No condition. -/
import Derived.Test.YtckflfichfnclaaGreatDoorLkMs0
import Derived.KernelRfl
set_option maxRecDepth 100000
namespace Go.Proofs.YtckflfichfnclaaGreatDoor.Sim
open Go Go.RowKit
theorem y111e13 : ∀ ν, Xq (Xb y111h13) (Xb y111g13) 32532 [] zd10 (Xc (Xi.aT ν) [4,5,9,11,13] y111s12) = y111s13 := fun _ => by kernel_rfl
theorem y111e14 : ∀ ν, Xq (Xb y111h14) (Xb y111g14) 37385 [] zd7 (Xc (Xi.aT ν) [1,2,4,5,6,7,8,11,13] y111s13) = y111s14 := fun _ => by kernel_rfl
theorem y111e15 : ∀ ν, Xq (Xb y111h15) (Xb y111g15) 46075 [] zd11 (Xc (Xi.aT ν) [4,5,9,11,13] y111s14) = y111s15 := fun _ => by kernel_rfl
theorem y111e16 : ∀ ν, Xq (Xb y111h16) (Xb y111g16) 54999 [] zd4 (Xc (Xi.aT ν) [2,4,9,11,13] y111s15) = y111s16 := fun _ => by kernel_rfl
theorem y111e17 : ∀ ν, Xq (Xb y111h17) (Xb y111g17) 63658 [] zd4 (Xc (Xi.aT ν) [0,5,9,11,13] y111s16) = y111s17 := fun _ => by kernel_rfl
theorem y111e18 : ∀ ν, Xq (Xb y111h18) (Xb y111g18) 72555 [] zd5 (Xc (Xi.aT ν) [4,5,9,11,13] y111s17) = y111s18 := fun _ => by kernel_rfl
theorem y111e19 : ∀ ν, Xq (Xb y111h19) (Xb y111g19) 81442 [] zd4 (Xc (Xi.aT ν) [1,3,4,5,6,7,8,11,13] y111s18) = y111s19 := fun _ => by kernel_rfl
theorem y111e20 : ∀ ν, Xq (Xb y111h20) (Xb y111g20) 90116 [] zd4 (Xc (Xi.aT ν) [1,3,5,9,11,13] y111s19) = y111s20 := fun _ => by kernel_rfl
theorem y111e21 : ∀ ν, Xq (Xb y111h21) (Xb y111g21) 99030 [] zd12 (Xc (Xi.aT ν) [4,5,9,11,13] y111s20) = y111s21 := fun _ => by kernel_rfl
end Go.Proofs.YtckflfichfnclaaGreatDoor.Sim
