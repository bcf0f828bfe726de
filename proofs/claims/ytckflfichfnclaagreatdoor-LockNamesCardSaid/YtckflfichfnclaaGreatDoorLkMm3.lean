/- Calls that are run once, by the kernel. No condition. -/
import Derived.Test.YtckflfichfnclaaGreatDoorLkMs0
import Derived.KernelRfl
set_option maxRecDepth 100000
namespace Go.Proofs.YtckflfichfnclaaGreatDoor.Sim
open Go Go.RowKit
theorem y44e3 : ∀ ν, Xq (Xb y44h3) (Xb y44g3) 5720 [] zd1 (Xc (Xi.aT ν) [0,1,3,4,5,7,10,12,13] y44s2) = y44s3 := fun _ => by kernel_rfl
theorem y44e4 : ∀ ν, Xq (Xb y44h4) (Xb y44g4) 8992 [] zd2 (Xc (Xi.aT ν) [4,7,10,12,13] y44s3) = y44s4 := fun _ => by kernel_rfl
theorem y44e5 : ∀ ν, Xq (Xb y44h5) (Xb y44g5) 13045 [] zd2 (Xc (Xi.aT ν) [0,1,2,5,7,10,12,13] y44s4) = y44s5 := fun _ => by kernel_rfl
theorem y44e6 : ∀ ν, Xq (Xb y44h6) (Xb y44g6) 19864 [] zd3 (Xc (Xi.aT ν) [0,1,3,4,7,10,12,13] y44s5) = y44s6 := fun _ => by kernel_rfl
theorem y44e7 : ∀ ν, Xq (Xb y44h7) (Xb y44g7) 26765 [] zd2 (Xc (Xi.aT ν) [0,1,3,5,7,10,12,13] y44s6) = y44s7 := fun _ => by kernel_rfl
theorem y44e8 : ∀ ν, Xq (Xb y44h8) (Xb y44g8) 32506 [] zd4 (Xc (Xi.aT ν) [2,4,5,7,10,12,13] y44s7) = y44s8 := fun _ => by kernel_rfl
theorem y44e9 : ∀ ν, Xq (Xb y44h9) (Xb y44g9) 40901 [] zd4 (Xc (Xi.aT ν) [2,4,7,10,12,13] y44s8) = y44s9 := fun _ => by kernel_rfl
end Go.Proofs.YtckflfichfnclaaGreatDoor.Sim
