/- Calls that are run once, by the kernel. No condition. -/
import Derived.Test.YtckflfichfnclaaGreatDoorLkMs0
import Derived.KernelRfl
set_option maxRecDepth 100000
namespace Go.Proofs.YtckflfichfnclaaGreatDoor.Sim
open Go Go.RowKit
theorem y191e22 : ∀ ν, Xq (Xb y191h22) (Xb y191g22) 107061 [] zd4 (Xc (Xi.aT ν) [0,1,2,3,5,9,11,13] y191s21) = y191s22 := fun _ => by kernel_rfl
theorem y191e23 : ∀ ν, Xq (Xb y191h23) (Xb y191g23) 114504 [] zd2 (Xc (Xi.aT ν) [0,1,2,3,5,9,11,13] y191s22) = y191s23 := fun _ => by kernel_rfl
theorem y191e24 : ∀ ν, Xq (Xb y191h24) (Xb y191g24) 120796 [] zd2 (Xc (Xi.aT ν) [1,2,4,9,11,13] y191s23) = y191s24 := fun _ => by kernel_rfl
theorem y191e25 : ∀ ν, Xq (Xb y191h25) (Xb y191g25) 125661 [] zd21 (Xc (Xi.aT ν) [4,5,9,11,13] y191s24) = y191s25 := fun _ => by kernel_rfl
theorem y191e26 : ∀ ν, Xq (Xb y191h26) (Xb y191g26) 133256 [] zd4 (Xc (Xi.aT ν) [2,3,5,9,11,13] y191s25) = y191s26 := fun _ => by kernel_rfl
theorem y191e27 : ∀ ν, Xq (Xb y191h27) (Xb y191g27) 140879 [] zd15 (Xc (Xi.aT ν) [4,5,9,11,13] y191s26) = y191s27 := fun _ => by kernel_rfl
theorem y191e28 : ∀ ν, Xq (Xb y191h28) (Xb y191g28) 148260 [] zd7 (Xc (Xi.aT ν) [0,2,3,4,9,11,13] y191s27) = y191s28 := fun _ => by kernel_rfl
theorem y191e29 : ∀ ν, Xq (Xb y191h29) (Xb y191g29) 155685 [] zd4 (Xc (Xi.aT ν) [0,2,3,5,6,7,8,11,13] y191s28) = y191s29 := fun _ => by kernel_rfl
theorem y191e30 : ∀ ν, Xq (Xb y191h30) (Xb y191g30) 162986 [] zd7 (Xc (Xi.aT ν) [0,1,5,9,11,13] y191s29) = y191s30 := fun _ => by kernel_rfl
end Go.Proofs.YtckflfichfnclaaGreatDoor.Sim
