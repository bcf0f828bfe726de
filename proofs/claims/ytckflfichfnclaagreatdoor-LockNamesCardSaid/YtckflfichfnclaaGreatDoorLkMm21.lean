/- Calls that are run once, by the kernel. No condition. -/
import Derived.Test.YtckflfichfnclaaGreatDoorLkMs0
import Derived.KernelRfl
set_option maxRecDepth 100000
namespace Go.Proofs.YtckflfichfnclaaGreatDoor.Sim
open Go Go.RowKit
theorem y191e40 : ∀ ν, Xq (Xb y191h40) (Xb y191g40) 233946 [] zd4 (Xc (Xi.aT ν) [0,1,2,3,5,9,11,13] y191s39) = y191s40 := fun _ => by kernel_rfl
theorem y191e41 : ∀ ν, Xq (Xb y191h41) (Xb y191g41) 241280 [] zd7 (Xc (Xi.aT ν) [2,3,5,9,11,13] y191s40) = y191s41 := fun _ => by kernel_rfl
theorem y191e42 : ∀ ν, Xq (Xb y191h42) (Xb y191g42) 248725 [] zd11 (Xc (Xi.aT ν) [1,2,3,5,9,11,13] y191s41) = y191s42 := fun _ => by kernel_rfl
theorem y191e43 : ∀ ν, Xq (Xb y191h43) (Xb y191g43) 256114 [] zd7 (Xc (Xi.aT ν) [0,1,9,11,13] y191s42) = y191s43 := fun _ => by kernel_rfl
theorem y191e44 : ∀ ν, gcS (Xb y191h44) (Xb y191g44) 261901 (Xc (Xi.aT ν) [0,2,3,4,5,7,13] y191s43) = y191s44 := fun _ => by kernel_rfl
theorem y191e45 : ∀ ν, gcS (Xb y191h45) (Xb y191g45) 263424 (Xc (Xi.aT ν) [0,1,2,4,5,6,7,8,11,13] y191s44) = y191s45 := fun _ => by kernel_rfl
theorem y191e46 : ∀ ν, gcS (Xb y191h46) (Xb y191g46) 265257 (Xc (Xi.aT ν) [1,3,4,6,7,8,11,13] y191s45) = y191s46 := fun _ => by kernel_rfl
theorem y191e47 : ∀ ν, gcS (Xb y191h47) (Xb y191g47) 267084 (Xc (Xi.aT ν) [5,9,11,13] y191s46) = y191s47 := fun _ => by kernel_rfl
theorem y191e48 : ∀ ν, gcS (Xb y191h48) (Xb y191g48) 268901 (Xc (Xi.aT ν) [2,3,5,9,11,13] y191s47) = y191s48 := fun _ => by kernel_rfl
end Go.Proofs.YtckflfichfnclaaGreatDoor.Sim
