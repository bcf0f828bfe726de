/- Calls that are run once, by the kernel. No condition. -/
import Derived.Test.YtckflfichfnclaaGreatDoorLkMs0
import Derived.KernelRfl
set_option maxRecDepth 100000
namespace Go.Proofs.YtckflfichfnclaaGreatDoor.Sim
open Go Go.RowKit
theorem y111e49 : ∀ ν, Xq (Xb y111h49) (Xb y111g49) 333782 [] zd7 (Xc (Xi.aT ν) [1,2,3,5,9,11,13] y111s48) = y111s49 := fun _ => by kernel_rfl
theorem y111e50 : ∀ ν, Xq (Xb y111h50) (Xb y111g50) 342610 [] zd4 (Xc (Xi.aT ν) [0,1,5,9,11,13] y111s49) = y111s50 := fun _ => by kernel_rfl
theorem y111e51 : ∀ ν, Xq (Xb y111h51) (Xb y111g51) 351285 [] zd4 (Xc (Xi.aT ν) [4,5,9,11,13] y111s50) = y111s51 := fun _ => by kernel_rfl
theorem y111e52 : ∀ ν, Xq (Xb y111h52) (Xb y111g52) 360216 [] zd7 (Xc (Xi.aT ν) [1,4,5,6,7,8,11,13] y111s51) = y111s52 := fun _ => by kernel_rfl
theorem y111e53 : ∀ ν, Xq (Xb y111h53) (Xb y111g53) 368895 [] zd4 (Xc (Xi.aT ν) [4,6,7,8,11,13] y111s52) = y111s53 := fun _ => by kernel_rfl
theorem y111e54 : ∀ ν, Xq (Xb y111h54) (Xb y111g54) 377924 [] zd14 (Xc (Xi.aT ν) [4,5,9,11,13] y111s53) = y111s54 := fun _ => by kernel_rfl
theorem y111e55 : ∀ ν, Xq (Xb y111h55) (Xb y111g55) 386448 [] zd7 (Xc (Xi.aT ν) [0,1,5,9,11,13] y111s54) = y111s55 := fun _ => by kernel_rfl
theorem y111e56 : ∀ ν, Xq (Xb y111h56) (Xb y111g56) 395106 [] zd7 (Xc (Xi.aT ν) [1,3,9,11,13] y111s55) = y111s56 := fun _ => by kernel_rfl
theorem y111e57 : ∀ ν, Xq (Xb y111h57) (Xb y111g57) 404136 [] zd2 (Xc (Xi.aT ν) [1,3,9,11,13] y111s56) = y111s57 := fun _ => by kernel_rfl
end Go.Proofs.YtckflfichfnclaaGreatDoor.Sim
