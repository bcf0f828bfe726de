/- Calls that are run once, by the kernel. No condition. -/
import Derived.Test.YtckflfichfnclaaGreatDoorLkMs0
import Derived.KernelRfl
set_option maxRecDepth 100000
namespace Go.Proofs.YtckflfichfnclaaGreatDoor.Sim
open Go Go.RowKit
theorem y44e10 : ∀ ν, Xq (Xb y44h10) (Xb y44g10) 49280 [] zd2 (Xc (Xi.aT ν) [0,1,2,3,4,5,6,10,12,13] y44s9) = y44s10 := fun _ => by kernel_rfl
theorem y44e11 : ∀ ν, Xq (Xb y44h11) (Xb y44g11) 54492 [] zd2 (Xc (Xi.aT ν) [1,2,4,5,7,10,12,13] y44s10) = y44s11 := fun _ => by kernel_rfl
theorem y44e12 : ∀ ν, Xq (Xb y44h12) (Xb y44g12) 61761 [] zd5 (Xc (Xi.aT ν) [2,3,4,5,7,10,12,13] y44s11) = y44s12 := fun _ => by kernel_rfl
theorem y44e13 : ∀ ν, Xq (Xb y44h13) (Xb y44g13) 70160 [] zd4 (Xc (Xi.aT ν) [2,4,5,7,10,12,13] y44s12) = y44s13 := fun _ => by kernel_rfl
theorem y44e14 : ∀ ν, Xq (Xb y44h14) (Xb y44g14) 78539 [] zd4 (Xc (Xi.aT ν) [0,1,2,3,4,5,6,10,12,13] y44s13) = y44s14 := fun _ => by kernel_rfl
theorem y44e15 : ∀ ν, Xq (Xb y44h15) (Xb y44g15) 87016 [] zd2 (Xc (Xi.aT ν) [1,3,4,5,7,10,12,13] y44s14) = y44s15 := fun _ => by kernel_rfl
theorem y44e16 : ∀ ν, Xq (Xb y44h16) (Xb y44g16) 93318 [] zd6 (Xc (Xi.aT ν) [2,3,4,5,7,10,12,13] y44s15) = y44s16 := fun _ => by kernel_rfl
end Go.Proofs.YtckflfichfnclaaGreatDoor.Sim
