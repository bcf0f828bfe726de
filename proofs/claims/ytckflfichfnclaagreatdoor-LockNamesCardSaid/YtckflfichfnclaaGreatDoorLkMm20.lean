/- Calls that are run once, by the kernel. No condition. -/
import Derived.Test.YtckflfichfnclaaGreatDoorLkMs0
import Derived.KernelRfl
set_option maxRecDepth 100000
namespace Go.Proofs.YtckflfichfnclaaGreatDoor.Sim
open Go Go.RowKit
theorem y191e31 : ∀ ν, Xq (Xb y191h31) (Xb y191g31) 170437 [] zd4 (Xc (Xi.aT ν) [0,2,3,4,5,6,7,8,11,13] y191s30) = y191s31 := fun _ => by kernel_rfl
theorem y191e32 : ∀ ν, Xq (Xb y191h32) (Xb y191g32) 177793 [] zd7 (Xc (Xi.aT ν) [1,2,3,5,9,11,13] y191s31) = y191s32 := fun _ => by kernel_rfl
theorem y191e33 : ∀ ν, Xq (Xb y191h33) (Xb y191g33) 184768 [] zd22 (Xc (Xi.aT ν) [4,5,9,11,13] y191s32) = y191s33 := fun _ => by kernel_rfl
theorem y191e34 : ∀ ν, Xq (Xb y191h34) (Xb y191g34) 189023 [] zd14 (Xc (Xi.aT ν) [4,5,9,11,13] y191s33) = y191s34 := fun _ => by kernel_rfl
theorem y191e35 : ∀ ν, Xq (Xb y191h35) (Xb y191g35) 196644 [] zd4 (Xc (Xi.aT ν) [0,2,4,6,7,8,11,13] y191s34) = y191s35 := fun _ => by kernel_rfl
theorem y191e36 : ∀ ν, Xq (Xb y191h36) (Xb y191g36) 204259 [] zd4 (Xc (Xi.aT ν) [0,1,2,3,5,9,11,13] y191s35) = y191s36 := fun _ => by kernel_rfl
theorem y191e37 : ∀ ν, Xq (Xb y191h37) (Xb y191g37) 211727 [] zd11 (Xc (Xi.aT ν) [0,1,3,5,9,11,13] y191s36) = y191s37 := fun _ => by kernel_rfl
theorem y191e38 : ∀ ν, Xq (Xb y191h38) (Xb y191g38) 219074 [] zd7 (Xc (Xi.aT ν) [9,11,13] y191s37) = y191s38 := fun _ => by kernel_rfl
theorem y191e39 : ∀ ν, Xq (Xb y191h39) (Xb y191g39) 226529 [] zd4 (Xc (Xi.aT ν) [0,1,2,3,4,5,6,7,8,11,13] y191s38) = y191s39 := fun _ => by kernel_rfl
end Go.Proofs.YtckflfichfnclaaGreatDoor.Sim
