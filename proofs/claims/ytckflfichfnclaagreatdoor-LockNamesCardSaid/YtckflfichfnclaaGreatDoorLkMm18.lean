/- Calls that are run once, by the kernel. No condition. -/
import Derived.Test.YtckflfichfnclaaGreatDoorLkMs0
import Derived.KernelRfl
set_option maxRecDepth 100000
namespace Go.Proofs.YtckflfichfnclaaGreatDoor.Sim
open Go Go.RowKit
theorem y191e13 : ∀ ν, Xq (Xb y191h13) (Xb y191g13) 46148 [] zd14 (Xc (Xi.aT ν) [4,5,9,11,13] y191s12) = y191s13 := fun _ => by kernel_rfl
theorem y191e14 : ∀ ν, Xq (Xb y191h14) (Xb y191g14) 53529 [] zd7 (Xc (Xi.aT ν) [1,2,3,4,9,11,13] y191s13) = y191s14 := fun _ => by kernel_rfl
theorem y191e15 : ∀ ν, Xq (Xb y191h15) (Xb y191g15) 60954 [] zd2 (Xc (Xi.aT ν) [0,2,3,5,6,7,8,11,13] y191s14) = y191s15 := fun _ => by kernel_rfl
theorem y191e16 : ∀ ν, Xq (Xb y191h16) (Xb y191g16) 66809 [] zd2 (Xc (Xi.aT ν) [0,2,4,5,6,7,8,11,13] y191s15) = y191s16 := fun _ => by kernel_rfl
theorem y191e17 : ∀ ν, Xq (Xb y191h17) (Xb y191g17) 70479 [] zd10 (Xc (Xi.aT ν) [4,5,9,11,13] y191s16) = y191s17 := fun _ => by kernel_rfl
theorem y191e18 : ∀ ν, Xq (Xb y191h18) (Xb y191g18) 77242 [] zd7 (Xc (Xi.aT ν) [3,9,11,13] y191s17) = y191s18 := fun _ => by kernel_rfl
theorem y191e19 : ∀ ν, Xq (Xb y191h19) (Xb y191g19) 84864 [] zd4 (Xc (Xi.aT ν) [3,4,5,6,7,8,11,13] y191s18) = y191s19 := fun _ => by kernel_rfl
theorem y191e20 : ∀ ν, Xq (Xb y191h20) (Xb y191g20) 92331 [] zd5 (Xc (Xi.aT ν) [4,5,9,11,13] y191s19) = y191s20 := fun _ => by kernel_rfl
theorem y191e21 : ∀ ν, Xq (Xb y191h21) (Xb y191g21) 99669 [] zd7 (Xc (Xi.aT ν) [0,9,11,13] y191s20) = y191s21 := fun _ => by kernel_rfl
end Go.Proofs.YtckflfichfnclaaGreatDoor.Sim
