/- Calls that are run once, by the kernel. No condition. -/
import Derived.Test.YtckflfichfnclaaGreatDoorLkMs0
import Derived.KernelRfl
set_option maxRecDepth 100000
namespace Go.Proofs.YtckflfichfnclaaGreatDoor.Sim
open Go Go.RowKit
theorem y111e40 : ∀ ν, Xq (Xb y111h40) (Xb y111g40) 254739 [] zd7 (Xc (Xi.aT ν) [1,5,9,11,13] y111s39) = y111s40 := fun _ => by kernel_rfl
theorem y111e41 : ∀ ν, Xq (Xb y111h41) (Xb y111g41) 263630 [] zd16 (Xc (Xi.aT ν) [4,5,9,11,13] y111s40) = y111s41 := fun _ => by kernel_rfl
theorem y111e42 : ∀ ν, Xq (Xb y111h42) (Xb y111g42) 272431 [] zd4 (Xc (Xi.aT ν) [0,2,3,5,9,11,13] y111s41) = y111s42 := fun _ => by kernel_rfl
theorem y111e43 : ∀ ν, Xq (Xb y111h43) (Xb y111g43) 280940 [] zd7 (Xc (Xi.aT ν) [0,3,9,11,13] y111s42) = y111s43 := fun _ => by kernel_rfl
theorem y111e44 : ∀ ν, Xq (Xb y111h44) (Xb y111g44) 289958 [] zd11 (Xc (Xi.aT ν) [2,3,5,9,11,13] y111s43) = y111s44 := fun _ => by kernel_rfl
theorem y111e45 : ∀ ν, Xq (Xb y111h45) (Xb y111g45) 298639 [] zd4 (Xc (Xi.aT ν) [0,1,2,3,5,6,7,8,11,13] y111s44) = y111s45 := fun _ => by kernel_rfl
theorem y111e46 : ∀ ν, Xq (Xb y111h46) (Xb y111g46) 307439 [] zd4 (Xc (Xi.aT ν) [0,4,9,11,13] y111s45) = y111s46 := fun _ => by kernel_rfl
theorem y111e47 : ∀ ν, Xq (Xb y111h47) (Xb y111g47) 316063 [] zd7 (Xc (Xi.aT ν) [1,3,4,5,6,7,8,11,13] y111s46) = y111s47 := fun _ => by kernel_rfl
theorem y111e48 : ∀ ν, Xq (Xb y111h48) (Xb y111g48) 324939 [] zd17 (Xc (Xi.aT ν) [0,1,4,5,6,7,8,11,13] y111s47) = y111s48 := fun _ => by kernel_rfl
end Go.Proofs.YtckflfichfnclaaGreatDoor.Sim
