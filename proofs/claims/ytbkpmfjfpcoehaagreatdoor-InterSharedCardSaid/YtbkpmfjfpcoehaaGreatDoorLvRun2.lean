/- The run of the law, from state to state. No condition. -/
import Derived.Test.YtbkpmfjfpcoehaaGreatDoorLvSt0
import Derived.Test.YtbkpmfjfpcoehaaGreatDoorLvMd
import Derived.KernelRfl
set_option maxRecDepth 100000
namespace Go.Proofs.YtbkpmfjfpcoehaaGreatDoor.Sim
open Go Go.RowKit
theorem rV:UY (keys jI) (keys pV) 9397 zd1 (Y6 tab [3,4,8,10,11,12] nZ)=nY:=by kernel_rfl
theorem rU:UY (keys jH) (keys pU) 10293 zd2 (Y6 tab [3,4,5,6,7,8,9,10,11,12] nY)=gT:=by kernel_rfl
theorem rT:UY (keys jG) (keys pT) 10978 zd2 (Y6 tab [0,2,3,4,6,7,9,11,12] gT)=nX:=by kernel_rfl
theorem rS:gcS (keys jF) (keys pS) 11404 (Y6 tab [0,1,2,3,4,5,8,11,12] nX)=nW:=by kernel_rfl
theorem rR:gcS (keys jE) (keys pR) 12045 (Y6 tab [4,6,8,10,11,12] nW)=nV:=by kernel_rfl
theorem rQ:UY (keys jD) (keys pQ) 12993 zd2 (Y6 tab [1,4,5,7,9,10,11,12] nV)=nU:=by kernel_rfl
end Go.Proofs.YtbkpmfjfpcoehaaGreatDoor.Sim
