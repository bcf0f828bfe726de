/- Calls that are run once, by the kernel. No condition. -/
import Derived.Test.YtckflfichfnclaaGreatDoorLkMs0
import Derived.KernelRfl
set_option maxRecDepth 100000
namespace Go.Proofs.YtckflfichfnclaaGreatDoor.Sim
open Go Go.RowKit
theorem y44e24 : ∀ ν, gcS (Xb y44h24) (Xb y44g24) 144251 (Xc (Xi.aT ν) [0,1,3,4,5,7,10,12,13] y44s23) = y44s24 := fun _ => by kernel_rfl
theorem y44e25 : ∀ ν, gcS (Xb y44h25) (Xb y44g25) 146346 (Xc (Xi.aT ν) [0,7,10,12,13] y44s24) = y44s25 := fun _ => by kernel_rfl
theorem y44e26 : ∀ ν, gcS (Xb y44h26) (Xb y44g26) 148526 (Xc (Xi.aT ν) [2,3,4,5,7,10,12,13] y44s25) = y44s26 := fun _ => by kernel_rfl
theorem y44z : ∀ ν, mEnd [.tmp 2] (gcS [] [] mm44.n1 (Xc (Xi.aT ν) [1,2,8,11,12] y44s26)) = some (85,mm44.nt,mm44.res,mm44.A1) := fun _ => by kernel_rfl
theorem y104e1 : ∀ ν, gcS (Xb y104h1) (Xb y104g1) 202 (Xc (Xi.aT ν) [0,1,5,6,7,9,10,11,13] y104s0) = y104s1 := fun _ => by kernel_rfl
theorem y104e2 : ∀ ν, gcS (Xb y104h2) (Xb y104g2) 348 (Xc (Xi.aT ν) [1,2,4,5,7,10,12,13] y104s1) = y104s2 := fun _ => by kernel_rfl
theorem y104z : ∀ ν, mEnd [.tmp 4] (gcS [89,97,109,117,129,130,140,152,160,172,180,192,200,212,220,232,240,252,253,263,275,283,295,296,306,318,326,338,346,359,367,380,381,391,404,412,424,432,444,452,464,465,475,476] [98] mm104.n1 (Xc (Xi.aT ν) [0,3,5,6,7,9,12,13] y104s2)) = some (118,mm104.nt,mm104.res,mm104.A1) := fun _ => by kernel_rfl
theorem y105e1 : ∀ ν, gcS (Xb y105h1) (Xb y105g1) 206 (Xc (Xi.aT ν) [0,3,6,8,9,12,13] y105s0) = y105s1 := fun _ => by kernel_rfl
end Go.Proofs.YtckflfichfnclaaGreatDoor.Sim
