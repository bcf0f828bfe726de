/- Calls that are run once, by the kernel. No condition. -/
import Derived.Test.YtckflfichfnclaaGreatDoorLkMs0
import Derived.KernelRfl
set_option maxRecDepth 100000
namespace Go.Proofs.YtckflfichfnclaaGreatDoor.Sim
open Go Go.RowKit
theorem y44e17 : ∀ ν, Xq (Xb y44h17) (Xb y44g17) 101368 [] zd7 (Xc (Xi.aT ν) [2,4,7,10,12,13] y44s16) = y44s17 := fun _ => by kernel_rfl
theorem y44e18 : ∀ ν, Xq (Xb y44h18) (Xb y44g18) 109791 [] zd4 (Xc (Xi.aT ν) [0,4,5,7,10,12,13] y44s17) = y44s18 := fun _ => by kernel_rfl
theorem y44e19 : ∀ ν, Xq (Xb y44h19) (Xb y44g19) 118181 [] zd4 (Xc (Xi.aT ν) [1,2,4,7,10,12,13] y44s18) = y44s19 := fun _ => by kernel_rfl
theorem y44e20 : ∀ ν, Xq (Xb y44h20) (Xb y44g20) 126539 [] zd7 (Xc (Xi.aT ν) [0,3,4,5,7,10,12,13] y44s19) = y44s20 := fun _ => by kernel_rfl
theorem y44e21 : ∀ ν, Xq (Xb y44h21) (Xb y44g21) 134878 [] zd4 (Xc (Xi.aT ν) [1,7,10,12,13] y44s20) = y44s21 := fun _ => by kernel_rfl
theorem y44e22 : ∀ ν, gcS (Xb y44h22) (Xb y44g22) 140073 (Xc (Xi.aT ν) [2,3,4,5,6,10,12,13] y44s21) = y44s22 := fun _ => by kernel_rfl
theorem y44e23 : ∀ ν, gcS (Xb y44h23) (Xb y44g23) 142119 (Xc (Xi.aT ν) [0,2,3,7,10,12,13] y44s22) = y44s23 := fun _ => by kernel_rfl
end Go.Proofs.YtckflfichfnclaaGreatDoor.Sim
