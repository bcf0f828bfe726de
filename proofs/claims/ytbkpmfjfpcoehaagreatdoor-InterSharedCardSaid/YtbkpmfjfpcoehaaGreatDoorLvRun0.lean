/- The run of the law, from state to state. No condition. -/
import Derived.Test.YtbkpmfjfpcoehaaGreatDoorLvSt0
import Derived.Test.YtbkpmfjfpcoehaaGreatDoorLvMd
import Derived.KernelRfl
set_option maxRecDepth 100000
namespace Go.Proofs.YtbkpmfjfpcoehaaGreatDoor.Sim
open Go Go.RowKit
theorem ze1:UY (keys zh1) (keys zg1) 510 zd0 (Y6 tab [2,3,4,6,10,12] zs0)=zs1:=by kernel_rfl
theorem ze2:UY (keys zh2) (keys zg2) 1212 zd1 (Y6 tab [3,4,8,10,11,12] zs1)=zs2:=by kernel_rfl
theorem ze3:UY (keys zh3) (keys zg3) 2108 zd2 (Y6 tab [3,4,5,6,7,8,9,10,11,12] zs2)=zs3:=by kernel_rfl
theorem ze4:UY (keys zh4) (keys zg4) 3095 zd2 (Y6 tab [0,3,4,6,7,9,10,11,12] zs3)=zs4:=by kernel_rfl
theorem ze5:UY (keys zh5) (keys zg5) 3809 zd3 (Y6 tab [0,2,3,9,11,12] zs4)=zs5:=by kernel_rfl
theorem ze6:UY (keys zh6) (keys zg6) 4551 zd4 (Y6 tab [1,2,4,5,10,12] zs5)=zs6:=by kernel_rfl
end Go.Proofs.YtbkpmfjfpcoehaaGreatDoor.Sim
