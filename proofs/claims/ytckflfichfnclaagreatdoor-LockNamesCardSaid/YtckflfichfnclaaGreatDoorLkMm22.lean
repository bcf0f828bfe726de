/- Calls that are run once, by the kernel. No condition. -/
import Derived.Test.YtckflfichfnclaaGreatDoorLkMs0
import Derived.KernelRfl
set_option maxRecDepth 100000
namespace Go.Proofs.YtckflfichfnclaaGreatDoor.Sim
open Go Go.RowKit
theorem y111e6 : ∀ ν, Xq (Xb y111h6) (Xb y111g6) 8264 [] zd8 (Xc (Xi.aT ν) [2,3,5,9,11,13] y111s5) = y111s6 := fun _ => by kernel_rfl
theorem y191e49 : ∀ ν, gcS (Xb y191h49) (Xb y191g49) 270651 (Xc (Xi.aT ν) [4,5,9,11,13] y191s48) = y191s49 := fun _ => by kernel_rfl
theorem y191e50 : ∀ ν, gcS (Xb y191h50) (Xb y191g50) 272414 (Xc (Xi.aT ν) [0,3,5,9,11,13] y191s49) = y191s50 := fun _ => by kernel_rfl
theorem y191e51 : ∀ ν, gcS (Xb y191h51) (Xb y191g51) 274049 (Xc (Xi.aT ν) [2,3,5,9,11,13] y191s50) = y191s51 := fun _ => by kernel_rfl
theorem y191e52 : ∀ ν, gcS (Xb y191h52) (Xb y191g52) 275799 (Xc (Xi.aT ν) [4,5,9,11,13] y191s51) = y191s52 := fun _ => by kernel_rfl
theorem y191z : ∀ ν, mEnd [.tmp 2] (gcS [] [] mm191.n1 (Xc (Xi.aT ν) [0,1,4,5,6,8,12] y191s52)) = some (85,mm191.nt,mm191.res,mm191.A1) := fun _ => by kernel_rfl
end Go.Proofs.YtckflfichfnclaaGreatDoor.Sim
