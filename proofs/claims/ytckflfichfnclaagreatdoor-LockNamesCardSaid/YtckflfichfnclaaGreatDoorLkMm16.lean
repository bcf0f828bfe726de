/- Calls that are run once, by the kernel. No condition. -/
import Derived.Test.YtckflfichfnclaaGreatDoorLkMs0
import Derived.KernelRfl
set_option maxRecDepth 100000
namespace Go.Proofs.YtckflfichfnclaaGreatDoor.Sim
open Go Go.RowKit
theorem y189e1 : ∀ ν, gcS (Xb y189h1) (Xb y189g1) 204 (Xc (Xi.aT ν) [0,1,2,4,5,6,8,9,12,13] y189s0) = y189s1 := fun _ => by kernel_rfl
theorem y189e2 : ∀ ν, gcS (Xb y189h2) (Xb y189g2) 327 (Xc (Xi.aT ν) [2,3,5,6,7,9,12,13] y189s1) = y189s2 := fun _ => by kernel_rfl
theorem y189e3 : ∀ ν, gcS (Xb y189h3) (Xb y189g3) 468 (Xc (Xi.aT ν) [2,3,5,7,10,12,13] y189s2) = y189s3 := fun _ => by kernel_rfl
theorem y189e4 : ∀ ν, gcS (Xb y189h4) (Xb y189g4) 593 (Xc (Xi.aT ν) [0,2,3,5,8,12,13] y189s3) = y189s4 := fun _ => by kernel_rfl
theorem y189z : ∀ ν, mEnd [.tmp 4] (gcS [89,97,109,117,129,137,150,151,161,173,181,194,202,214,222,234,242,255,263,276,284,296,304,317,325,337,345,357,365,377,385,397,405,417,425,438,446,458,466,479,480,490,503,511,523,531,543,551,563,571,583,591,603,611,623,624,634,646,654,666,667,677,690,692] [98] mm189.n1 (Xc (Xi.aT ν) [0,1,5,6,7,10,13] y189s4)) = some (118,mm189.nt,mm189.res,mm189.A1) := fun _ => by kernel_rfl
theorem y191e1 : ∀ ν, Xq (Xb y191h1) (Xb y191g1) 1435 [] zd0 (Xc (Xi.aT ν) [0,2,3,4,5,6,7,8,11,13] y191s0) = y191s1 := fun _ => by kernel_rfl
theorem y191e2 : ∀ ν, Xq (Xb y191h2) (Xb y191g2) 2794 [] zd0 (Xc (Xi.aT ν) [0,1,3,5,6,7,8,11,13] y191s1) = y191s2 := fun _ => by kernel_rfl
theorem y191e3 : ∀ ν, Xq (Xb y191h3) (Xb y191g3) 4162 [] zd0 (Xc (Xi.aT ν) [0,2,3,5,9,11,13] y191s2) = y191s3 := fun _ => by kernel_rfl
end Go.Proofs.YtckflfichfnclaaGreatDoor.Sim
