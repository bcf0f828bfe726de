/- The run of the law, from state to state. No condition. -/
import Derived.Test.YtckflfichfnclaaGreatDoorLkSt0
import Derived.Test.YtckflfichfnclaaGreatDoorLkMd
import Derived.KernelRfl
set_option maxRecDepth 100000
namespace Go.Proofs.YtckflfichfnclaaGreatDoor.Sim
open Go Go.RowKit
theorem ze54 : gcS (Xb zh54) (Xb zg54) 1922245 (Xc tab [0,1,4,5,7,12] zs53) = zs54 := by kernel_rfl
theorem ze55 : Xq (Xb zh55) (Xb zg55) 1930118 [] zd24 (Xc tab [0,3,4,8,9,13] zs54) = zs55 := by kernel_rfl
theorem ze56 : gcS (Xb zh56) (Xb zg56) 1936695 (Xc tab [0,1,11,12] zs55) = zs56 := by kernel_rfl
theorem ze57 : Xq (Xb zh57) (Xb zg57) 1943168 [] zd24 (Xc tab [0,1,2,6,7,8,9,11,12] zs56) = zs57 := by kernel_rfl
theorem ze58 : gcS (Xb zh58) (Xb zg58) 1947624 (Xc tab [3,4,10,12] zs57) = zs58 := by kernel_rfl
theorem ze59 : gcS (Xb zh59) (Xb zg59) 1954212 (Xc tab [1,6,7,10,11,12] zs58) = zs59 := by kernel_rfl
theorem ze60 : gcS (Xb zh60) (Xb zg60) 1956708 (Xc tab [0,2,4,6,7,8,11,12] zs59) = zs60 := by kernel_rfl
end Go.Proofs.YtckflfichfnclaaGreatDoor.Sim
