/- The law, run by the machine from its begin: it ends with true. No condition. -/
import Derived.Test.YtjhfcfpkgfpoiaaGreatDoorLvRun0
import Derived.Test.YtjhfcfpkgfpoiaaGreatDoorLvRun1
import Derived.Test.YtjhfcfpkgfpoiaaGreatDoorLvRun2
import Derived.Test.YtjhfcfpkgfpoiaaGreatDoorLvRun3
import Derived.Test.YtjhfcfpkgfpoiaaGreatDoorLvTm
import Derived.KernelRfl
set_option maxRecDepth 100000
namespace Go.Proofs.YtjhfcfpkgfpoiaaGreatDoor.Sim
open Go Go.RowKit
theorem Ymt(f:FuncId)(v:Value)(k:Fin tab f v zs8):Fin tab f v zs0:=Fin.runw _ _ _ _ _ ze1 (Fin.runw _ _ _ _ _ ze2 (Fin.runw _ _ _ _ _ ze3 (Fin.runw _ _ _ _ _ ze4 (Fin.runw _ _ _ _ _ ze5 (Fin.runw _ _ _ _ _ ze6 (Fin.runw _ _ _ _ _ ze7 (Fin.runw _ _ _ _ _ ze8 (k))))))))
theorem Yms(f:FuncId)(v:Value)(k:Fin tab f v Ygs):Fin tab f v zs8:=Fin.runw _ _ _ _ _ ze9 (Fin.runw _ _ _ _ _ Ymk (Fin.runw _ _ _ _ _ Ymj (.runs _ _ _ _ Ymi (.two _ _ _ _ _ Yl0 Yer Yeq (Fin.runw _ _ _ _ _ Ymh (Fin.runw _ _ _ _ _ Ymg (Fin.runw _ _ _ _ _ Ymf (k))))))))
theorem Ymr(f:FuncId)(v:Value)(k:Fin tab f v Ygr):Fin tab f v Ygs:=Fin.runw _ _ _ _ _ Yme (.runs _ _ _ _ Ymd (.runs _ _ _ _ Ymc (Fin.runw _ _ _ _ _ Ymb (Fin.runw _ _ _ _ _ Yma (Fin.runw _ _ _ _ _ Yl9 (Fin.runw _ _ _ _ _ Yl8 (Fin.runw _ _ _ _ _ Yl7 (k))))))))
theorem Ymq(f:FuncId)(v:Value)(k:Fin tab f v Yh0):Fin tab f v Ygr:= .runs _ _ _ _ Yl6 (.two _ _ _ _ _ Ylz Yep Yeo (.runs _ _ _ _ Yl5 (k)))
theorem last:GJ tab Yh0= .done 4 vt:=by kernel_rfl
theorem fin:Fin tab 4 vt zs0:=(Ymt _ _ (Yms _ _ (Ymr _ _ (Ymq _ _ (.done last)))))
end Go.Proofs.YtjhfcfpkgfpoiaaGreatDoor.Sim
