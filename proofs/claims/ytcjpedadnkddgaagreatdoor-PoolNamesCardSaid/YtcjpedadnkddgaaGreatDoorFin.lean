/- The law, run by the machine from its begin: it ends with true. No condition. -/
import Derived.Test.YtcjpedadnkddgaaGreatDoorRun0
import Derived.Test.YtcjpedadnkddgaaGreatDoorRun1
import Derived.Test.YtcjpedadnkddgaaGreatDoorRun2
import Derived.Test.YtcjpedadnkddgaaGreatDoorRun3
import Derived.KernelRfl
set_option maxRecDepth 100000
namespace Go.Proofs.YtcjpedadnkddgaaGreatDoor.Sim
open Go Go.RowKit
theorem same7 : s7 = s7b := by kernel_rfl
theorem same14 : s14 = s14b := by kernel_rfl
theorem same21 : s21 = s21b := by kernel_rfl
theorem last : astep tab s26 = .done 3 vt := by kernel_rfl
theorem fin : Fin tab 3 vt s0 := (run0 _ _ (same7 ▸ (run1 _ _ (same14 ▸ (run2 _ _ (same21 ▸ (run3 _ _ (.done last))))))))
end Go.Proofs.YtcjpedadnkddgaaGreatDoor.Sim
