/- Calls that are run once, by the kernel. No condition. -/
import Derived.Test.YtckflfichfnclaaGreatDoorLkMs0
import Derived.KernelRfl
set_option maxRecDepth 100000
namespace Go.Proofs.YtckflfichfnclaaGreatDoor.Sim
open Go Go.RowKit
theorem y111e22 : ∀ ν, Xq (Xb y111h22) (Xb y111g22) 107820 [] zd4 (Xc (Xi.aT ν) [0,2,5,9,11,13] y111s21) = y111s22 := fun _ => by kernel_rfl
theorem y111e23 : ∀ ν, Xq (Xb y111h23) (Xb y111g23) 116422 [] zd13 (Xc (Xi.aT ν) [4,5,9,11,13] y111s22) = y111s23 := fun _ => by kernel_rfl
theorem y111e24 : ∀ ν, Xq (Xb y111h24) (Xb y111g24) 125110 [] zd4 (Xc (Xi.aT ν) [0,1,3,5,6,7,8,11,13] y111s23) = y111s24 := fun _ => by kernel_rfl
theorem y111e25 : ∀ ν, Xq (Xb y111h25) (Xb y111g25) 134139 [] zd14 (Xc (Xi.aT ν) [4,5,9,11,13] y111s24) = y111s25 := fun _ => by kernel_rfl
theorem y111e26 : ∀ ν, Xq (Xb y111h26) (Xb y111g26) 142838 [] zd11 (Xc (Xi.aT ν) [0,2,3,5,9,11,13] y111s25) = y111s26 := fun _ => by kernel_rfl
theorem y111e27 : ∀ ν, Xq (Xb y111h27) (Xb y111g27) 151484 [] zd4 (Xc (Xi.aT ν) [4,5,9,11,13] y111s26) = y111s27 := fun _ => by kernel_rfl
theorem y111e28 : ∀ ν, Xq (Xb y111h28) (Xb y111g28) 160457 [] zd7 (Xc (Xi.aT ν) [0,9,11,13] y111s27) = y111s28 := fun _ => by kernel_rfl
theorem y111e29 : ∀ ν, Xq (Xb y111h29) (Xb y111g29) 169110 [] zd7 (Xc (Xi.aT ν) [1,4,9,11,13] y111s28) = y111s29 := fun _ => by kernel_rfl
theorem y111e30 : ∀ ν, Xq (Xb y111h30) (Xb y111g30) 178171 [] zd2 (Xc (Xi.aT ν) [1,4,9,11,13] y111s29) = y111s30 := fun _ => by kernel_rfl
end Go.Proofs.YtckflfichfnclaaGreatDoor.Sim
