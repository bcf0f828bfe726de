/- Calls that are run once, by the kernel. No condition. -/
import Derived.Test.YtckflfichfnclaaGreatDoorLkMs0
import Derived.KernelRfl
set_option maxRecDepth 100000
namespace Go.Proofs.YtckflfichfnclaaGreatDoor.Sim
open Go Go.RowKit
theorem y11e3 : ∀ ν, gcS (Xb y11h3) (Xb y11g3) 448 (Xc (Xi.aT ν) [0,1,2,3,4,6,8,9,10,11,13] y11s2) = y11s3 := fun _ => by kernel_rfl
theorem y11e4 : ∀ ν, gcS (Xb y11h4) (Xb y11g4) 575 (Xc (Xi.aT ν) [0,2,3,6,7,8,9,10,11,13] y11s3) = y11s4 := fun _ => by kernel_rfl
theorem y11e5 : ∀ ν, gcS (Xb y11h5) (Xb y11g5) 696 (Xc (Xi.aT ν) [0,1,5,8,9,10,11,13] y11s4) = y11s5 := fun _ => by kernel_rfl
theorem y11e6 : ∀ ν, gcS (Xb y11h6) (Xb y11g6) 823 (Xc (Xi.aT ν) [1,3,4,7,8,10,11,13] y11s5) = y11s6 := fun _ => by kernel_rfl
theorem y11z : ∀ ν, mEnd [.tmp 4] (gcS [89,97,109,117,129,137,149,157,169,177,189,197,209,210,220,232,240,252,260,273,281,293,301,314,322,334,342,354,362,375,376,386,398,406,418,426,438,446,458,459,469,481,489,501,509,522,530,542,550,562,563,573,585,593,605,613,626,634,646,654,666,674,686,694,707,715,727,735,747,755,767,768,778,790,798,810,811,821,833,834,844,856,864,876,877,887,900,908,909] [98] mm11.n1 (Xc (Xi.aT ν) [3,4,5,6,7,9,10,11,12] y11s6)) = some (118,mm11.nt,mm11.res,mm11.A1) := fun _ => by kernel_rfl
theorem me12 : ∀ ν, YR (Xi.aT ν) 277 mm12 [.tmp 6,.tmp 7] [3,4,6] [79] [] = some (277,mm12.nt,mm12.res,mm12.A1) := fun _ => by kernel_rfl
theorem me13 : ∀ ν, YR (Xi.aT ν) 277 mm13 [.tmp 6,.tmp 7] [3,4,6] [79] [] = some (277,mm13.nt,mm13.res,mm13.A1) := fun _ => by kernel_rfl
theorem me14 : ∀ ν, YR (Xi.aT ν) 277 mm14 [.tmp 6,.tmp 7] [3,4,6] [79] [] = some (277,mm14.nt,mm14.res,mm14.A1) := fun _ => by kernel_rfl
theorem me15 : ∀ ν, YR (Xi.aT ν) 277 mm15 [.tmp 6,.tmp 7] [3,4,6] [79] [] = some (277,mm15.nt,mm15.res,mm15.A1) := fun _ => by kernel_rfl
theorem me16 : ∀ ν, YR (Xi.aT ν) 277 mm16 [.tmp 6,.tmp 7] [3,4,6] [79] [] = some (277,mm16.nt,mm16.res,mm16.A1) := fun _ => by kernel_rfl
theorem me17 : ∀ ν, YR (Xi.aT ν) 278 mm17 [.tmp 4] [2,3,5] [] [] = some (278,mm17.nt,mm17.res,mm17.A1) := fun _ => by kernel_rfl
theorem me18 : ∀ ν, YR (Xi.aT ν) 277 mm18 [.tmp 6,.tmp 7] [3,4,6] [79] [] = some (277,mm18.nt,mm18.res,mm18.A1) := fun _ => by kernel_rfl
theorem me19 : ∀ ν, YR (Xi.aT ν) 278 mm19 [.tmp 4] [5] [] [] = some (278,mm19.nt,mm19.res,mm19.A1) := fun _ => by kernel_rfl
theorem me20 : ∀ ν, YR (Xi.aT ν) 277 mm20 [.tmp 6,.tmp 7] [3,4,6] [79] [] = some (277,mm20.nt,mm20.res,mm20.A1) := fun _ => by kernel_rfl
theorem me21 : ∀ ν, YR (Xi.aT ν) 277 mm21 [.tmp 6,.tmp 7] [0,1,3,6] [] [] = some (277,mm21.nt,mm21.res,mm21.A1) := fun _ => by kernel_rfl
theorem me22 : ∀ ν, YR (Xi.aT ν) 277 mm22 [.tmp 6,.tmp 7] [3,4,6] [79] [] = some (277,mm22.nt,mm22.res,mm22.A1) := fun _ => by kernel_rfl
theorem me23 : ∀ ν, YR (Xi.aT ν) 277 mm23 [.tmp 6,.tmp 7] [3,4,6] [79] [] = some (277,mm23.nt,mm23.res,mm23.A1) := fun _ => by kernel_rfl
theorem me24 : ∀ ν, YR (Xi.aT ν) 278 mm24 [.tmp 4] [2,6] [] [] = some (278,mm24.nt,mm24.res,mm24.A1) := fun _ => by kernel_rfl
theorem me25 : ∀ ν, YR (Xi.aT ν) 277 mm25 [.tmp 6,.tmp 7] [3,4,6] [79] [] = some (277,mm25.nt,mm25.res,mm25.A1) := fun _ => by kernel_rfl
theorem me26 : ∀ ν, YR (Xi.aT ν) 277 mm26 [.tmp 6,.tmp 7] [3,4,6] [79] [] = some (277,mm26.nt,mm26.res,mm26.A1) := fun _ => by kernel_rfl
theorem y27e1 : ∀ ν, gcS (Xb y27h1) (Xb y27g1) 201 (Xc (Xi.aT ν) [0,1,8,9,12,13] y27s0) = y27s1 := fun _ => by kernel_rfl
theorem y27z : ∀ ν, mEnd [.tmp 4] (gcS [89,97,110,118,130,138,150,158,170,178,191,199,211,219,232,240,252,260,273,281,282] [98] mm27.n1 (Xc (Xi.aT ν) [4,7,13] y27s1)) = some (118,mm27.nt,mm27.res,mm27.A1) := fun _ => by kernel_rfl
theorem me28 : ∀ ν, YR (Xi.aT ν) 277 mm28 [.tmp 6,.tmp 7] [3,4,6] [79] [] = some (277,mm28.nt,mm28.res,mm28.A1) := fun _ => by kernel_rfl
theorem me29 : ∀ ν, YR (Xi.aT ν) 277 mm29 [.tmp 6,.tmp 7] [3,4,6] [79] [] = some (277,mm29.nt,mm29.res,mm29.A1) := fun _ => by kernel_rfl
theorem me30 : ∀ ν, YR (Xi.aT ν) 277 mm30 [.tmp 6,.tmp 7] [0,1,3,6] [] [] = some (277,mm30.nt,mm30.res,mm30.A1) := fun _ => by kernel_rfl
theorem me31 : ∀ ν, YR (Xi.aT ν) 277 mm31 [.tmp 6,.tmp 7] [2,3,4,6] [] [] = some (277,mm31.nt,mm31.res,mm31.A1) := fun _ => by kernel_rfl
theorem me33 : ∀ ν, YR (Xi.aT ν) 277 mm33 [.tmp 6,.tmp 7] [0,1,3,6] [] [] = some (277,mm33.nt,mm33.res,mm33.A1) := fun _ => by kernel_rfl
theorem y35e1 : ∀ ν, gcS (Xb y35h1) (Xb y35g1) 203 (Xc (Xi.aT ν) [0,3,4,7,9,12,13] y35s0) = y35s1 := fun _ => by kernel_rfl
end Go.Proofs.YtckflfichfnclaaGreatDoor.Sim
