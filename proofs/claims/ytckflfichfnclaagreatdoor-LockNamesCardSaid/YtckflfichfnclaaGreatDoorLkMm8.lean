/- Calls that are run once, by the kernel. No condition. -/
import Derived.Test.YtckflfichfnclaaGreatDoorLkMs0
import Derived.KernelRfl
set_option maxRecDepth 100000
namespace Go.Proofs.YtckflfichfnclaaGreatDoor.Sim
open Go Go.RowKit
theorem y111e4 : ∀ ν, Xq (Xb y111h4) (Xb y111g4) 5521 [] zd0 (Xc (Xi.aT ν) [1,3,4,5,6,7,8,11,13] y111s3) = y111s4 := fun _ => by kernel_rfl
theorem y111e5 : ∀ ν, Xq (Xb y111h5) (Xb y111g5) 6880 [] zd0 (Xc (Xi.aT ν) [0,1,2,4,5,6,7,8,11,13] y111s4) = y111s5 := fun _ => by kernel_rfl
theorem y111e7 : ∀ ν, Xq (Xb y111h7) (Xb y111g7) 10985 [] zd9 (Xc (Xi.aT ν) [4,5,9,11,13] y111s6) = y111s7 := fun _ => by kernel_rfl
theorem y111e8 : ∀ ν, Xq (Xb y111h8) (Xb y111g8) 13566 [] zd2 (Xc (Xi.aT ν) [0,1,2,3,9,11,13] y111s7) = y111s8 := fun _ => by kernel_rfl
theorem y111e9 : ∀ ν, Xq (Xb y111h9) (Xb y111g9) 16967 [] zd2 (Xc (Xi.aT ν) [0,3,4,9,11,13] y111s8) = y111s9 := fun _ => by kernel_rfl
theorem y111e10 : ∀ ν, Xq (Xb y111h10) (Xb y111g10) 20776 [] zd10 (Xc (Xi.aT ν) [4,5,9,11,13] y111s9) = y111s10 := fun _ => by kernel_rfl
theorem y111e11 : ∀ ν, Xq (Xb y111h11) (Xb y111g11) 24927 [] zd2 (Xc (Xi.aT ν) [2,3,5,9,11,13] y111s10) = y111s11 := fun _ => by kernel_rfl
theorem y111e12 : ∀ ν, Xq (Xb y111h12) (Xb y111g12) 28961 [] zd2 (Xc (Xi.aT ν) [9,11,13] y111s11) = y111s12 := fun _ => by kernel_rfl
end Go.Proofs.YtckflfichfnclaaGreatDoor.Sim
