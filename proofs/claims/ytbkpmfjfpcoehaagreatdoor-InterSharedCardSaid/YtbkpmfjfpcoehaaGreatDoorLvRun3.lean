/- The run of the law, from state to state. No condition. -/
import Derived.Test.YtbkpmfjfpcoehaaGreatDoorLvSt0
import Derived.Test.YtbkpmfjfpcoehaaGreatDoorLvMd
import Derived.KernelRfl
set_option maxRecDepth 100000
namespace Go.Proofs.YtbkpmfjfpcoehaaGreatDoor.Sim
open Go Go.RowKit
theorem rP:UY (keys jC) (keys pP) 13707 zd3 (Y6 tab [0,2,3,9,11,12] nU)=nT:=by kernel_rfl
theorem rO:UY (keys jA) (keys pM) 14449 zd4 (Y6 tab [1,2,4,5,10,12] nT)=nS:=by kernel_rfl
theorem rN:UY (keys hZ) (keys pL) 14886 zd2 (Y6 tab [3,6,10,11,12] nS)=nR:=by kernel_rfl
theorem rM:UY (keys hY) (keys pK) 15420 zd5 (Y6 tab [2,3,6,8,9,10,11,12] nR)=gS:=by kernel_rfl
theorem rL:gcS (keys hK) (keys pJ) 16303 (Y6 tab [2,3,4,5,12] gS)=bJ:=by kernel_rfl
theorem rE:nA (G3 tab bJ)=2:=by kernel_rfl
theorem cJ:gcS (keys cG) (keys kX) 16355 (Y6 tab [5,6] (MG (G3 tab bJ) 0 bJ))=kQ:=by kernel_rfl
theorem cI:gcS (keys cG) (keys kX) 16355 (Y6 tab [0,3,5,6] (MG (G3 tab bJ) 1 bJ))=kQ:=by kernel_rfl
theorem rK:gcS (keys pH) (keys pI) 16360 (Y6 tab [1,3,4] kQ)=kP:=by kernel_rfl
end Go.Proofs.YtbkpmfjfpcoehaaGreatDoor.Sim
