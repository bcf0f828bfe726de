/- The law, run by the machine from its begin: it ends with true. No condition. -/
import Derived.Test.YtapbgfkdknlekaaGreatDoorRnRun0
import Derived.Test.YtapbgfkdknlekaaGreatDoorRnRun1
import Derived.Test.YtapbgfkdknlekaaGreatDoorRnRun2
import Derived.Test.YtapbgfkdknlekaaGreatDoorRnRun3
import Derived.Test.YtapbgfkdknlekaaGreatDoorRnRun4
import Derived.Test.YtapbgfkdknlekaaGreatDoorRnRun5
import Derived.Test.YtapbgfkdknlekaaGreatDoorRnRun6
import Derived.Test.YtapbgfkdknlekaaGreatDoorRnRun7
import Derived.Test.YtapbgfkdknlekaaGreatDoorRnRun8
import Derived.Test.YtapbgfkdknlekaaGreatDoorRnRun9
import Derived.Test.YtapbgfkdknlekaaGreatDoorRnRun10
import Derived.Test.YtapbgfkdknlekaaGreatDoorRnRun11
import Derived.Test.YtapbgfkdknlekaaGreatDoorRnRun12
import Derived.Test.YtapbgfkdknlekaaGreatDoorRnRun13
import Derived.Test.YtapbgfkdknlekaaGreatDoorRnRun14
import Derived.KernelRfl
set_option maxRecDepth 100000
namespace Go.Proofs.YtapbgfkdknlekaaGreatDoor.Sim
open Go Go.RowKit
theorem meet2 : s2 = s2b := by kernel_rfl
theorem meet4 : s4 = s4b := by kernel_rfl
theorem meet6 : s6 = s6b := by kernel_rfl
theorem meet8 : s8 = s8b := by kernel_rfl
theorem meet10 : s10 = s10b := by kernel_rfl
theorem meet12 : s12 = s12b := by kernel_rfl
theorem meet14 : s14 = s14b := by kernel_rfl
theorem meet16 : s16 = s16b := by kernel_rfl
theorem meet18 : s18 = s18b := by kernel_rfl
theorem meet20 : s20 = s20b := by kernel_rfl
theorem meet22 : s22 = s22b := by kernel_rfl
theorem meet24 : s24 = s24b := by kernel_rfl
theorem meet26 : s26 = s26b := by kernel_rfl
theorem meet28 : s28 = s28b := by kernel_rfl
theorem last : fstep tab s29 = .done 3 vt := by kernel_rfl
theorem fin : Fin tab 3 vt s0 := (run0 _ _ ((meet2) ▸ (run1 _ _ ((meet4) ▸ (run2 _ _ ((meet6) ▸ (run3 _ _ ((meet8) ▸ (run4 _ _ ((meet10) ▸ (run5 _ _ ((meet12) ▸ (run6 _ _ ((meet14) ▸ (run7 _ _ ((meet16) ▸ (run8 _ _ ((meet18) ▸ (run9 _ _ ((meet20) ▸ (run10 _ _ ((meet22) ▸ (run11 _ _ ((meet24) ▸ (run12 _ _ ((meet26) ▸ (run13 _ _ ((meet28) ▸ (run14 _ _ (.done (last)))))))))))))))))))))))))))))))
end Go.Proofs.YtapbgfkdknlekaaGreatDoor.Sim
