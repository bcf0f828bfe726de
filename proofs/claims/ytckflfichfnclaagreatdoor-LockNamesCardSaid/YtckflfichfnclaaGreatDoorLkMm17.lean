/- Calls that are run once, by the kernel. No condition. -/
import Derived.Test.YtckflfichfnclaaGreatDoorLkMs0
import Derived.KernelRfl
set_option maxRecDepth 100000
namespace Go.Proofs.YtckflfichfnclaaGreatDoor.Sim
open Go Go.RowKit
theorem y191e4 : ∀ ν, Xq (Xb y191h4) (Xb y191g4) 5530 [] zd0 (Xc (Xi.aT ν) [0,2,3,5,9,11,13] y191s3) = y191s4 := fun _ => by kernel_rfl
theorem y191e5 : ∀ ν, Xq (Xb y191h5) (Xb y191g5) 7472 [] zd19 (Xc (Xi.aT ν) [0,2,3,5,9,11,13] y191s4) = y191s5 := fun _ => by kernel_rfl
theorem y191e6 : ∀ ν, Xq (Xb y191h6) (Xb y191g6) 10342 [] zd2 (Xc (Xi.aT ν) [0,1,5,6,7,8,11,13] y191s5) = y191s6 := fun _ => by kernel_rfl
theorem y191e7 : ∀ ν, Xq (Xb y191h7) (Xb y191g7) 13300 [] zd2 (Xc (Xi.aT ν) [1,2,4,5,6,7,8,11,13] y191s6) = y191s7 := fun _ => by kernel_rfl
theorem y191e8 : ∀ ν, Xq (Xb y191h8) (Xb y191g8) 16475 [] zd3 (Xc (Xi.aT ν) [2,3,9,11,13] y191s7) = y191s8 := fun _ => by kernel_rfl
theorem y191e9 : ∀ ν, Xq (Xb y191h9) (Xb y191g9) 21246 [] zd11 (Xc (Xi.aT ν) [4,5,9,11,13] y191s8) = y191s9 := fun _ => by kernel_rfl
theorem y191e10 : ∀ ν, Xq (Xb y191h10) (Xb y191g10) 28595 [] zd3 (Xc (Xi.aT ν) [0,1,3,9,11,13] y191s9) = y191s10 := fun _ => by kernel_rfl
theorem y191e11 : ∀ ν, Xq (Xb y191h11) (Xb y191g11) 34315 [] zd18 (Xc (Xi.aT ν) [1,3,5,9,11,13] y191s10) = y191s11 := fun _ => by kernel_rfl
theorem y191e12 : ∀ ν, Xq (Xb y191h12) (Xb y191g12) 38525 [] zd20 (Xc (Xi.aT ν) [4,5,9,11,13] y191s11) = y191s12 := fun _ => by kernel_rfl
end Go.Proofs.YtckflfichfnclaaGreatDoor.Sim
