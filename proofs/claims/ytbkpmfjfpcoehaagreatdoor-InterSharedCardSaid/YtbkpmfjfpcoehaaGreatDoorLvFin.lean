/- The law, run by the machine from its begin: it ends with true. No condition. -/
import Derived.Test.YtbkpmfjfpcoehaaGreatDoorLvRun0
import Derived.Test.YtbkpmfjfpcoehaaGreatDoorLvRun1
import Derived.Test.YtbkpmfjfpcoehaaGreatDoorLvRun2
import Derived.Test.YtbkpmfjfpcoehaaGreatDoorLvRun3
import Derived.Test.YtbkpmfjfpcoehaaGreatDoorLvTm
import Derived.KernelRfl
set_option maxRecDepth 100000
namespace Go.Proofs.YtbkpmfjfpcoehaaGreatDoor.Sim
open Go Go.RowKit
theorem sS(f:FuncId)(v:Value)(k:Fin tab f v zs8):Fin tab f v zs0:=Fin.runw _ _ _ _ _ ze1 (Fin.runw _ _ _ _ _ ze2 (Fin.runw _ _ _ _ _ ze3 (Fin.runw _ _ _ _ _ ze4 (Fin.runw _ _ _ _ _ ze5 (Fin.runw _ _ _ _ _ ze6 (Fin.runw _ _ _ _ _ ze7 (Fin.runw _ _ _ _ _ ze8 (k))))))))
theorem sR(f:FuncId)(v:Value)(k:Fin tab f v gT):Fin tab f v zs8:=Fin.runw _ _ _ _ _ ze9 (Fin.runw _ _ _ _ _ rZ (Fin.runw _ _ _ _ _ rY (.runs _ _ _ _ rX (.two _ _ _ _ _ rF cL cK (Fin.runw _ _ _ _ _ rW (Fin.runw _ _ _ _ _ rV (Fin.runw _ _ _ _ _ rU (k))))))))
theorem sQ(f:FuncId)(v:Value)(k:Fin tab f v gS):Fin tab f v gT:=Fin.runw _ _ _ _ _ rT (.runs _ _ _ _ rS (.runs _ _ _ _ rR (Fin.runw _ _ _ _ _ rQ (Fin.runw _ _ _ _ _ rP (Fin.runw _ _ _ _ _ rO (Fin.runw _ _ _ _ _ rN (Fin.runw _ _ _ _ _ rM (k))))))))
theorem sP(f:FuncId)(v:Value)(k:Fin tab f v kP):Fin tab f v gS:= .runs _ _ _ _ rL (.two _ _ _ _ _ rE cJ cI (.runs _ _ _ _ rK (k)))
theorem last:G3 tab kP= .done 4 vt:=by kernel_rfl
theorem fin:Fin tab 4 vt zs0:=(sS _ _ (sR _ _ (sQ _ _ (sP _ _ (.done last)))))
end Go.Proofs.YtbkpmfjfpcoehaaGreatDoor.Sim
