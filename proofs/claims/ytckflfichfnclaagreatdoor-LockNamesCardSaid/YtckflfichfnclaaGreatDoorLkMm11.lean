/- Calls that are run once, by the kernel. No condition. -/
import Derived.Test.YtckflfichfnclaaGreatDoorLkMs0
import Derived.KernelRfl
set_option maxRecDepth 100000
namespace Go.Proofs.YtckflfichfnclaaGreatDoor.Sim
open Go Go.RowKit
theorem y111e31 : ∀ ν, Xq (Xb y111h31) (Xb y111g31) 184969 [] zd2 (Xc (Xi.aT ν) [0,1,2,3,5,6,7,8,11,13] y111s30) = y111s31 := fun _ => by kernel_rfl
theorem y111e32 : ∀ ν, Xq (Xb y111h32) (Xb y111g32) 188315 [] zd2 (Xc (Xi.aT ν) [1,9,11,13] y111s31) = y111s32 := fun _ => by kernel_rfl
theorem y111e33 : ∀ ν, Xq (Xb y111h33) (Xb y111g33) 193043 [] zd7 (Xc (Xi.aT ν) [2,4,5,6,7,8,11,13] y111s32) = y111s33 := fun _ => by kernel_rfl
theorem y111e34 : ∀ ν, Xq (Xb y111h34) (Xb y111g34) 202109 [] zd4 (Xc (Xi.aT ν) [2,3,5,9,11,13] y111s33) = y111s34 := fun _ => by kernel_rfl
theorem y111e35 : ∀ ν, Xq (Xb y111h35) (Xb y111g35) 210702 [] zd7 (Xc (Xi.aT ν) [1,2,4,5,6,7,8,11,13] y111s34) = y111s35 := fun _ => by kernel_rfl
theorem y111e36 : ∀ ν, Xq (Xb y111h36) (Xb y111g36) 219610 [] zd4 (Xc (Xi.aT ν) [1,9,11,13] y111s35) = y111s36 := fun _ => by kernel_rfl
theorem y111e37 : ∀ ν, Xq (Xb y111h37) (Xb y111g37) 228254 [] zd4 (Xc (Xi.aT ν) [3,4,9,11,13] y111s36) = y111s37 := fun _ => by kernel_rfl
theorem y111e38 : ∀ ν, Xq (Xb y111h38) (Xb y111g38) 237153 [] zd15 (Xc (Xi.aT ν) [4,5,9,11,13] y111s37) = y111s38 := fun _ => by kernel_rfl
theorem y111e39 : ∀ ν, Xq (Xb y111h39) (Xb y111g39) 246053 [] zd4 (Xc (Xi.aT ν) [0,1,9,11,13] y111s38) = y111s39 := fun _ => by kernel_rfl
end Go.Proofs.YtckflfichfnclaaGreatDoor.Sim
