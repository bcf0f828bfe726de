/- Calls that are run once, by the kernel. No condition. -/
import Derived.Test.YtckflfichfnclaaGreatDoorLkMs0
import Derived.KernelRfl
set_option maxRecDepth 100000
namespace Go.Proofs.YtckflfichfnclaaGreatDoor.Sim
open Go Go.RowKit
theorem y105e2 : ∀ ν, gcS (Xb y105h2) (Xb y105g2) 328 (Xc (Xi.aT ν) [0,12,13] y105s1) = y105s2 := fun _ => by kernel_rfl
theorem y105e3 : ∀ ν, gcS (Xb y105h3) (Xb y105g3) 450 (Xc (Xi.aT ν) [0,1,4,8,12,13] y105s2) = y105s3 := fun _ => by kernel_rfl
theorem y105e4 : ∀ ν, gcS (Xb y105h4) (Xb y105g4) 591 (Xc (Xi.aT ν) [0,2,4,5,7,10,12,13] y105s3) = y105s4 := fun _ => by kernel_rfl
theorem y105e5 : ∀ ν, gcS (Xb y105h5) (Xb y105g5) 735 (Xc (Xi.aT ν) [0,2,3,5,7,10,12,13] y105s4) = y105s5 := fun _ => by kernel_rfl
theorem y105z : ∀ ν, mEnd [.tmp 4] (gcS [89,90,100,113,121,133,134,144,156,164,176,184,196,204,217,225,237,245,257,265,278,286,298,306,318,326,338,346,359,367,379,387,399,407,420,428,440,448,460,468,480,488,501,509,521,529,541,549,561,569,581,589,602,603,613,625,633,645,653,665,673,685,693,705,713,725,733,745,746,756,769,771] [92] mm105.n1 (Xc (Xi.aT ν) [0,2,3,5,9,10,11] y105s5)) = some (118,mm105.nt,mm105.res,mm105.A1) := fun _ => by kernel_rfl
theorem me106 : ∀ ν, YR (Xi.aT ν) 277 mm106 [.tmp 6,.tmp 7] [3,4,6] [79] [] = some (277,mm106.nt,mm106.res,mm106.A1) := fun _ => by kernel_rfl
theorem me109 : ∀ ν, YR (Xi.aT ν) 118 mm109 [.tmp 4] [0,1,3,5,6,10,11,12] [89,97,109,117,129,137,149,157,158] [98] = some (118,mm109.nt,mm109.res,mm109.A1) := fun _ => by kernel_rfl
theorem y111e1 : ∀ ν, Xq (Xb y111h1) (Xb y111g1) 1435 [] zd0 (Xc (Xi.aT ν) [0,1,3,5,6,7,8,11,13] y111s0) = y111s1 := fun _ => by kernel_rfl
theorem y111e2 : ∀ ν, Xq (Xb y111h2) (Xb y111g2) 2794 [] zd0 (Xc (Xi.aT ν) [1,2,9,11,13] y111s1) = y111s2 := fun _ => by kernel_rfl
theorem y111e3 : ∀ ν, Xq (Xb y111h3) (Xb y111g3) 4162 [] zd0 (Xc (Xi.aT ν) [2,5,9,11,13] y111s2) = y111s3 := fun _ => by kernel_rfl
end Go.Proofs.YtckflfichfnclaaGreatDoor.Sim
