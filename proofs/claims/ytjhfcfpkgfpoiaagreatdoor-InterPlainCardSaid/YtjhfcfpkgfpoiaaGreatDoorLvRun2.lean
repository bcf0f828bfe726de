/- The run of the law, from state to state. No condition. -/
import Derived.Test.YtjhfcfpkgfpoiaaGreatDoorLvSt0
import Derived.Test.YtjhfcfpkgfpoiaaGreatDoorLvMd
import Derived.KernelRfl
set_option maxRecDepth 100000
namespace Go.Proofs.YtjhfcfpkgfpoiaaGreatDoor.Sim
open Go Go.RowKit
theorem Ymg:Xeu (keys Yhb) (keys Yk5) 9397 zd1 (Ko tab [3,4,8,10,11,12] Yjv)=Yju:=by kernel_rfl
theorem Ymf:Xeu (keys Yha) (keys Yk4) 10293 zd2 (Ko tab [3,4,5,6,7,8,9,10,11,12] Yju)=Ygs:=by kernel_rfl
theorem Yme:Xeu (keys Yg9) (keys Yk3) 10978 zd2 (Ko tab [0,2,3,4,6,7,9,11,12] Ygs)=Yjt:=by kernel_rfl
theorem Ymd:gcS (keys Yg8) (keys Yk2) 11404 (Ko tab [0,1,2,3,4,5,8,11,12] Yjt)=Yjs:=by kernel_rfl
theorem Ymc:gcS (keys Yg7) (keys Yk1) 12045 (Ko tab [4,6,8,10,11,12] Yjs)=Yjr:=by kernel_rfl
theorem Ymb:Xeu (keys Yg6) (keys Yk0) 12993 zd2 (Ko tab [1,4,5,7,9,10,11,12] Yjr)=Yjq:=by kernel_rfl
end Go.Proofs.YtjhfcfpkgfpoiaaGreatDoor.Sim
