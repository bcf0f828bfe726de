/- The run of the law, from state to state. No condition. -/
import Derived.Test.YtjhfcfpkgfpoiaaGreatDoorLvSt0
import Derived.Test.YtjhfcfpkgfpoiaaGreatDoorLvMd
import Derived.KernelRfl
set_option maxRecDepth 100000
namespace Go.Proofs.YtjhfcfpkgfpoiaaGreatDoor.Sim
open Go Go.RowKit
theorem Yma:Xeu (keys Yg5) (keys Ykz) 13707 zd3 (Ko tab [0,2,3,9,11,12] Yjq)=Yjp:=by kernel_rfl
theorem Yl9:Xeu (keys Yg4) (keys Yky) 14449 zd4 (Ko tab [1,2,4,5,10,12] Yjp)=Yjo:=by kernel_rfl
theorem Yl8:Xeu (keys Yg3) (keys Ykx) 14886 zd2 (Ko tab [3,6,10,11,12] Yjo)=Yjn:=by kernel_rfl
theorem Yl7:Xeu (keys Yg2) (keys Ykw) 15420 zd5 (Ko tab [2,3,6,8,9,10,11,12] Yjn)=Ygr:=by kernel_rfl
theorem Yl6:gcS (keys Yg1) (keys Ykv) 16303 (Ko tab [2,3,4,5,12] Ygr)=Yd5:=by kernel_rfl
theorem Ylz:Yi7 (GJ tab Yd5)=2:=by kernel_rfl
theorem Yep:gcS (keys Yem) (keys Yh8) 16355 (Ko tab [5,6] (Xre (GJ tab Yd5) 0 Yd5))=Yh1:=by kernel_rfl
theorem Yeo:gcS (keys Yem) (keys Yh8) 16355 (Ko tab [0,3,5,6] (Xre (GJ tab Yd5) 1 Yd5))=Yh1:=by kernel_rfl
theorem Yl5:gcS (keys Ykt) (keys Yku) 16360 (Ko tab [1,3,4] Yh1)=Yh0:=by kernel_rfl
end Go.Proofs.YtjhfcfpkgfpoiaaGreatDoor.Sim
