/- The run of the law, from state to state. No condition. -/
import Derived.Test.YtbkpmfjfpcoehaaGreatDoorLvSt0
import Derived.Test.YtbkpmfjfpcoehaaGreatDoorLvMd
import Derived.KernelRfl
set_option maxRecDepth 100000
namespace Go.Proofs.YtbkpmfjfpcoehaaGreatDoor.Sim
open Go Go.RowKit
theorem ze7:UY (keys zh7) (keys zg7) 4988 zd2 (Y6 tab [3,6,10,11,12] zs6)=zs7:=by kernel_rfl
theorem ze8:UY (keys zh8) (keys zg8) 5522 zd5 (Y6 tab [2,3,6,8,9,10,11,12] zs7)=zs8:=by kernel_rfl
theorem ze9:UY (keys zh9) (keys zg9) 6276 zd4 (Y6 tab [0,1,4,5,7,8,10,12] zs8)=zs9:=by kernel_rfl
theorem rZ:UY (keys jM) (keys pZ) 6713 zd2 (Y6 tab [3,6,10,11,12] zs9)=oB:=by kernel_rfl
theorem rY:UY (keys jL) (keys pY) 7247 zd5 (Y6 tab [2,3,6,8,9,10,11,12] oB)=oA:=by kernel_rfl
theorem rX:gcS (keys jK) (keys pX) 8140 (Y6 tab [1,6,12] oA)=bK:=by kernel_rfl
theorem rF:nA (G3 tab bK)=2:=by kernel_rfl
theorem cL:gcS (keys cH) (keys kY) 8192 (Y6 tab [5,6] (MG (G3 tab bK) 0 bK))=kR:=by kernel_rfl
theorem cK:gcS (keys cH) (keys kY) 8192 (Y6 tab [0,3,5,6] (MG (G3 tab bK) 1 bK))=kR:=by kernel_rfl
theorem rW:UY (keys jJ) (keys pW) 8695 zd0 (Y6 tab [0,1,4,5,6,10,12] kR)=nZ:=by kernel_rfl
end Go.Proofs.YtbkpmfjfpcoehaaGreatDoor.Sim
