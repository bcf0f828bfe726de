/- The law, run by the machine from its begin: it ends with true. No condition. -/
import Derived.Test.YtckflfichfnclaaGreatDoorLkRun0
import Derived.Test.YtckflfichfnclaaGreatDoorLkRun1
import Derived.Test.YtckflfichfnclaaGreatDoorLkRun2
import Derived.Test.YtckflfichfnclaaGreatDoorLkRun3
import Derived.Test.YtckflfichfnclaaGreatDoorLkRun4
import Derived.Test.YtckflfichfnclaaGreatDoorLkRun5
import Derived.Test.YtckflfichfnclaaGreatDoorLkRun6
import Derived.Test.YtckflfichfnclaaGreatDoorLkRun7
import Derived.Test.YtckflfichfnclaaGreatDoorLkRun8
import Derived.Test.YtckflfichfnclaaGreatDoorLkTm
import Derived.KernelRfl
set_option maxRecDepth 100000
namespace Go.Proofs.YtckflfichfnclaaGreatDoor.Sim
open Go Go.RowKit
theorem run0 (f : FuncId) (v : Value) (k : Fin tab f v zs8) : Fin tab f v zs0 := Fin.runw _ _ _ _ _ _ ze1 (.runs _ _ _ _ ze2 (.runs _ _ _ _ ze3 (.runs _ _ _ _ ze4 (.runs _ _ _ _ ze5 (Fin.runw _ _ _ _ _ _ ze6 (zlp7 Clo.fin (.runs _ _ _ _ ze8 (k))))))))
theorem run1 (f : FuncId) (v : Value) (k : Fin tab f v zs16) : Fin tab f v zs8 := Fin.runw _ _ _ _ _ _ ze9 (.runs _ _ _ _ ze10 (.runs _ _ _ _ ze11 (Fin.runw _ _ _ _ _ _ ze12 (zlp13 Clo.fin (.runs _ _ _ _ ze14 (.runs _ _ _ _ ze15 (Fin.runw _ _ _ _ _ _ ze16 (k))))))))
theorem run2 (f : FuncId) (v : Value) (k : Fin tab f v zs24) : Fin tab f v zs16 := zlp17 Clo.fin (.runs _ _ _ _ ze18 (.runs _ _ _ _ ze19 (Fin.runw _ _ _ _ _ _ ze20 (zlp21 Clo.fin (.runs _ _ _ _ ze22 (Fin.runw _ _ _ _ _ _ ze23 (.runs _ _ _ _ ze24 (k))))))))
theorem run3 (f : FuncId) (v : Value) (k : Fin tab f v zs32) : Fin tab f v zs24 := .runs _ _ _ _ ze25 (.runs _ _ _ _ ze26 (Fin.runw _ _ _ _ _ _ ze27 (zlp28 Clo.fin (.runs _ _ _ _ ze29 (.runs _ _ _ _ ze30 (.runs _ _ _ _ ze31 (Fin.runw _ _ _ _ _ _ ze32 (k))))))))
theorem run4 (f : FuncId) (v : Value) (k : Fin tab f v zs40) : Fin tab f v zs32 := zlp33 Clo.fin (.runs _ _ _ _ ze34 (.runs _ _ _ _ ze35 (Fin.runw _ _ _ _ _ _ ze36 (zlp37 Clo.fin (.runs _ _ _ _ ze38 (Fin.runw _ _ _ _ _ _ ze39 (.runs _ _ _ _ ze40 (k))))))))
theorem run5 (f : FuncId) (v : Value) (k : Fin tab f v zs48) : Fin tab f v zs40 := Fin.runw _ _ _ _ _ _ ze41 (.runs _ _ _ _ ze42 (Fin.runw _ _ _ _ _ _ ze43 (Fin.runw _ _ _ _ _ _ ze44 (Fin.runw _ _ _ _ _ _ ze45 (.runs _ _ _ _ ze46 (Fin.runw _ _ _ _ _ _ ze47 (.runs _ _ _ _ ze48 (k))))))))
theorem run6 (f : FuncId) (v : Value) (k : Fin tab f v zs56) : Fin tab f v zs48 := Fin.runw _ _ _ _ _ _ ze49 (.runs _ _ _ _ ze50 (.runs _ _ _ _ ze51 (Fin.runw _ _ _ _ _ _ ze52 (zlp53 Clo.fin (.runs _ _ _ _ ze54 (Fin.runw _ _ _ _ _ _ ze55 (.runs _ _ _ _ ze56 (k))))))))
theorem run7 (f : FuncId) (v : Value) (k : Fin tab f v zs60) : Fin tab f v zs56 := Fin.runw _ _ _ _ _ _ ze57 (.runs _ _ _ _ ze58 (.runs _ _ _ _ ze59 (.runs _ _ _ _ ze60 (k))))
theorem last : Kl tab zs60 = .done 3 vt := by kernel_rfl
theorem fin : Fin tab 3 vt zs0 := (run0 _ _ (run1 _ _ (run2 _ _ (run3 _ _ (run4 _ _ (run5 _ _ (run6 _ _ (run7 _ _ (.done last)))))))))
end Go.Proofs.YtckflfichfnclaaGreatDoor.Sim
