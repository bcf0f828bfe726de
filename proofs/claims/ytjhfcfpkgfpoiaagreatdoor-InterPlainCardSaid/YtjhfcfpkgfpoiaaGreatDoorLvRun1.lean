/- The run of the law, from state to state. No condition. -/
import Derived.Test.YtjhfcfpkgfpoiaaGreatDoorLvSt0
import Derived.Test.YtjhfcfpkgfpoiaaGreatDoorLvMd
import Derived.KernelRfl
set_option maxRecDepth 100000
namespace Go.Proofs.YtjhfcfpkgfpoiaaGreatDoor.Sim
open Go Go.RowKit
theorem ze7:Xeu (keys zh7) (keys zg7) 4988 zd2 (Ko tab [3,6,10,11,12] zs6)=zs7:=by kernel_rfl
theorem ze8:Xeu (keys zh8) (keys zg8) 5522 zd5 (Ko tab [2,3,6,8,9,10,11,12] zs7)=zs8:=by kernel_rfl
theorem ze9:Xeu (keys zh9) (keys zg9) 6276 zd4 (Ko tab [0,1,4,5,7,8,10,12] zs8)=zs9:=by kernel_rfl
theorem Ymk:Xeu (keys Yhf) (keys Yk9) 6713 zd2 (Ko tab [3,6,10,11,12] zs9)=Yjx:=by kernel_rfl
theorem Ymj:Xeu (keys Yhe) (keys Yk8) 7247 zd5 (Ko tab [2,3,6,8,9,10,11,12] Yjx)=Yjw:=by kernel_rfl
theorem Ymi:gcS (keys Yhd) (keys Yk7) 8140 (Ko tab [1,6,12] Yjw)=Yd6:=by kernel_rfl
theorem Yl0:Yi7 (GJ tab Yd6)=2:=by kernel_rfl
theorem Yer:gcS (keys Yen) (keys Yh9) 8192 (Ko tab [5,6] (Xre (GJ tab Yd6) 0 Yd6))=Yh2:=by kernel_rfl
theorem Yeq:gcS (keys Yen) (keys Yh9) 8192 (Ko tab [0,3,5,6] (Xre (GJ tab Yd6) 1 Yd6))=Yh2:=by kernel_rfl
theorem Ymh:Xeu (keys Yhc) (keys Yk6) 8695 zd0 (Ko tab [0,1,4,5,6,10,12] Yh2)=Yjv:=by kernel_rfl
end Go.Proofs.YtjhfcfpkgfpoiaaGreatDoor.Sim
