/- The law, run by the machine from its begin: it ends with true. No condition. -/
import Derived.Test.YtfaoaodhfhdepaaGreatDoorInRun0
import Derived.Test.YtfaoaodhfhdepaaGreatDoorInRun1
import Derived.Test.YtfaoaodhfhdepaaGreatDoorInRun2
import Derived.Test.YtfaoaodhfhdepaaGreatDoorInRun3
import Derived.Test.YtfaoaodhfhdepaaGreatDoorInRun4
import Derived.Test.YtfaoaodhfhdepaaGreatDoorInRun5
import Derived.Test.YtfaoaodhfhdepaaGreatDoorInRun6
import Derived.Test.YtfaoaodhfhdepaaGreatDoorInRun7
import Derived.Test.YtfaoaodhfhdepaaGreatDoorInRun8
import Derived.Test.YtfaoaodhfhdepaaGreatDoorInRun9
import Derived.Test.YtfaoaodhfhdepaaGreatDoorInRun10
import Derived.Test.YtfaoaodhfhdepaaGreatDoorInRun11
import Derived.Test.YtfaoaodhfhdepaaGreatDoorInRun12
import Derived.Test.YtfaoaodhfhdepaaGreatDoorInRun13
import Derived.Test.YtfaoaodhfhdepaaGreatDoorInRun14
import Derived.Test.YtfaoaodhfhdepaaGreatDoorInRun15
import Derived.Test.YtfaoaodhfhdepaaGreatDoorInRun16
import Derived.Test.YtfaoaodhfhdepaaGreatDoorInRun17
import Derived.Test.YtfaoaodhfhdepaaGreatDoorInRun18
import Derived.Test.YtfaoaodhfhdepaaGreatDoorInRun19
import Derived.Test.YtfaoaodhfhdepaaGreatDoorInRun20
import Derived.Test.YtfaoaodhfhdepaaGreatDoorInRun21
import Derived.Test.YtfaoaodhfhdepaaGreatDoorInRun22
import Derived.KernelRfl
set_option maxRecDepth 100000
namespace Go.Proofs.YtfaoaodhfhdepaaGreatDoor.Sim
open Go Go.RowKit
theorem meet2 : s2 = s2b := by kernel_rfl
theorem meet4 : s4 = s4b := by kernel_rfl
theorem meet6 : s6 = s6b := by kernel_rfl
theorem meet8 : s8 = s8b := by kernel_rfl
theorem meet10 : s10 = s10b := by kernel_rfl
theorem meet12 : s12 = s12b := by kernel_rfl
theorem meet14 : s14 = s14b := by kernel_rfl
theorem meet16 : s16 = s16b := by kernel_rfl
theorem meet18 : s18 = s18b := by kernel_rfl
theorem meet20 : s20 = s20b := by kernel_rfl
theorem meet22 : s22 = s22b := by kernel_rfl
theorem meet24 : s24 = s24b := by kernel_rfl
theorem meet26 : s26 = s26b := by kernel_rfl
theorem meet28 : s28 = s28b := by kernel_rfl
theorem meet30 : s30 = s30b := by kernel_rfl
theorem meet32 : s32 = s32b := by kernel_rfl
theorem meet34 : s34 = s34b := by kernel_rfl
theorem meet36 : s36 = s36b := by kernel_rfl
theorem meet38 : s38 = s38b := by kernel_rfl
theorem meet40 : s40 = s40b := by kernel_rfl
theorem meet42 : s42 = s42b := by kernel_rfl
theorem meet44 : s44 = s44b := by kernel_rfl
theorem last : fstep tab s45 = .done 3 vt := by kernel_rfl
theorem fin : Fin tab 3 vt s0 := (run0 _ _ ((meet2) ▸ (run1 _ _ ((meet4) ▸ (run2 _ _ ((meet6) ▸ (run3 _ _ ((meet8) ▸ (run4 _ _ ((meet10) ▸ (run5 _ _ ((meet12) ▸ (run6 _ _ ((meet14) ▸ (run7 _ _ ((meet16) ▸ (run8 _ _ ((meet18) ▸ (run9 _ _ ((meet20) ▸ (run10 _ _ ((meet22) ▸ (run11 _ _ ((meet24) ▸ (run12 _ _ ((meet26) ▸ (run13 _ _ ((meet28) ▸ (run14 _ _ ((meet30) ▸ (run15 _ _ ((meet32) ▸ (run16 _ _ ((meet34) ▸ (run17 _ _ ((meet36) ▸ (run18 _ _ ((meet38) ▸ (run19 _ _ ((meet40) ▸ (run20 _ _ ((meet42) ▸ (run21 _ _ ((meet44) ▸ (run22 _ _ (.done (last)))))))))))))))))))))))))))))))))))))))))))))))
end Go.Proofs.YtfaoaodhfhdepaaGreatDoor.Sim
