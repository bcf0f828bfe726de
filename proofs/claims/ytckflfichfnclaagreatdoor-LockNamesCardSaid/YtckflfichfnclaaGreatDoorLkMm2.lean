/- Calls that are run once, by the kernel. No condition. -/
import Derived.Test.YtckflfichfnclaaGreatDoorLkMs0
import Derived.KernelRfl
set_option maxRecDepth 100000
namespace Go.Proofs.YtckflfichfnclaaGreatDoor.Sim
open Go Go.RowKit
theorem y35e2 : ∀ ν, gcS (Xb y35h2) (Xb y35g2) 326 (Xc (Xi.aT ν) [0,1,2,3,6,9,12,13] y35s1) = y35s2 := fun _ => by kernel_rfl
theorem y35z : ∀ ν, mEnd [.tmp 4] (gcS [89,97,109,117,129,137,150,151,161,173,181,193,201,214,222,234,242,254,262,275,283,296,304,316,324,337,345,357,365,377,385,397,405,417,425,437,438,448,461,463] [98] mm35.n1 (Xc (Xi.aT ν) [0,4,10,12,13] y35s2)) = some (118,mm35.nt,mm35.res,mm35.A1) := fun _ => by kernel_rfl
theorem me36 : ∀ ν, YR (Xi.aT ν) 277 mm36 [.tmp 6,.tmp 7] [3,4,6] [79] [] = some (277,mm36.nt,mm36.res,mm36.A1) := fun _ => by kernel_rfl
theorem me38 : ∀ ν, YR (Xi.aT ν) 118 mm38 [.tmp 4] [3,6,8,12] [89,97,110,118,119] [98] = some (118,mm38.nt,mm38.res,mm38.A1) := fun _ => by kernel_rfl
theorem me39 : ∀ ν, YR (Xi.aT ν) 277 mm39 [.tmp 6,.tmp 7] [3,4,6] [79] [] = some (277,mm39.nt,mm39.res,mm39.A1) := fun _ => by kernel_rfl
theorem me40 : ∀ ν, YR (Xi.aT ν) 118 mm40 [.tmp 4] [1,2,4,7,8,9,10] [89,97,98] [98] = some (118,mm40.nt,mm40.res,mm40.A1) := fun _ => by kernel_rfl
theorem y41e1 : ∀ ν, gcS (Xb y41h1) (Xb y41g1) 201 (Xc (Xi.aT ν) [0,2,4,5,6,8,9,12,13] y41s0) = y41s1 := fun _ => by kernel_rfl
theorem y41e2 : ∀ ν, gcS (Xb y41h2) (Xb y41g2) 323 (Xc (Xi.aT ν) [0,1,4,7,12,13] y41s1) = y41s2 := fun _ => by kernel_rfl
theorem y41z : ∀ ν, mEnd [.tmp 4] (gcS [89,97,109,117,130,138,150,158,170,178,191,199,211,219,232,240,252,260,273,281,293,301,313,321,333,341,353,361,373,374,384,397,399] [98] mm41.n1 (Xc (Xi.aT ν) [2,4,5,6,8,9,11,12] y41s2)) = some (118,mm41.nt,mm41.res,mm41.A1) := fun _ => by kernel_rfl
theorem y44e1 : ∀ ν, Xq (Xb y44h1) (Xb y44g1) 1777 [] zd0 (Xc (Xi.aT ν) [0,1,7,10,12,13] y44s0) = y44s1 := fun _ => by kernel_rfl
theorem y44e2 : ∀ ν, Xq (Xb y44h2) (Xb y44g2) 3478 [] zd0 (Xc (Xi.aT ν) [1,3,4,5,6,10,12,13] y44s1) = y44s2 := fun _ => by kernel_rfl
end Go.Proofs.YtckflfichfnclaaGreatDoor.Sim
