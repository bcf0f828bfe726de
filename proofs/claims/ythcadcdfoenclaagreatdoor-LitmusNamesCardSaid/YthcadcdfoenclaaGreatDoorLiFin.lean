/- The law, run by the machine from its begin: it ends with true. No condition. -/
import Derived.Test.YthcadcdfoenclaaGreatDoorLiRun0
import Derived.Test.YthcadcdfoenclaaGreatDoorLiRun1
import Derived.Test.YthcadcdfoenclaaGreatDoorLiRun2
import Derived.Test.YthcadcdfoenclaaGreatDoorLiRun3
import Derived.Test.YthcadcdfoenclaaGreatDoorLiRun4
import Derived.Test.YthcadcdfoenclaaGreatDoorLiRun5
import Derived.Test.YthcadcdfoenclaaGreatDoorLiRun6
import Derived.Test.YthcadcdfoenclaaGreatDoorLiRun7
import Derived.Test.YthcadcdfoenclaaGreatDoorLiRun8
import Derived.Test.YthcadcdfoenclaaGreatDoorLiRun9
import Derived.Test.YthcadcdfoenclaaGreatDoorLiRun10
import Derived.Test.YthcadcdfoenclaaGreatDoorLiRun11
import Derived.Test.YthcadcdfoenclaaGreatDoorLiRun12
import Derived.Test.YthcadcdfoenclaaGreatDoorLiRun13
import Derived.Test.YthcadcdfoenclaaGreatDoorLiRun14
import Derived.Test.YthcadcdfoenclaaGreatDoorLiRun15
import Derived.Test.YthcadcdfoenclaaGreatDoorLiTm
import Derived.KernelRfl
set_option maxRecDepth 100000
namespace Go.Proofs.YthcadcdfoenclaaGreatDoor.Sim
open Go Go.RowKit
theorem last : fstep tab zs63 = .done 3 vt := by kernel_rfl
theorem fin : Fin tab 3 vt zs0 := (run0 _ _ (run1 _ _ (run2 _ _ (run3 _ _ (run4 _ _ (run5 _ _ (run6 _ _ (run7 _ _ (run8 _ _ (run9 _ _ (run10 _ _ (run11 _ _ (run12 _ _ (run13 _ _ (run14 _ _ (run15 _ _ (.done last)))))))))))))))))
end Go.Proofs.YthcadcdfoenclaaGreatDoor.Sim
