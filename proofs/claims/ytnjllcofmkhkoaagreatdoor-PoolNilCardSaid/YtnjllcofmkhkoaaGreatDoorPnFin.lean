/- The law, run by the machine from its begin: it ends with true. No condition. -/
import Derived.Test.YtnjllcofmkhkoaaGreatDoorPnRun0
import Derived.Test.YtnjllcofmkhkoaaGreatDoorPnRun1
import Derived.Test.YtnjllcofmkhkoaaGreatDoorPnRun2
import Derived.Test.YtnjllcofmkhkoaaGreatDoorPnRun3
import Derived.Test.YtnjllcofmkhkoaaGreatDoorPnRun4
import Derived.Test.YtnjllcofmkhkoaaGreatDoorPnRun5
import Derived.KernelRfl
set_option maxRecDepth 100000
namespace Go.Proofs.YtnjllcofmkhkoaaGreatDoor.Sim
open Go Go.RowKit
theorem meet1 (x1 x2 x3 : Int) (x4 : ByteArray) (x5 x6 : Int) : s1 x1 x2 x3 x4 x5 x6 = s1b x1 x2 x3 x4 x5 x6 := by kernel_rfl
theorem meet2 (x1 x2 x3 : Int) (x4 : ByteArray) (x5 x6 : Int) : s2 x1 x2 x3 x4 x5 x6 = s2b x1 x2 x3 x4 x5 x6 := by kernel_rfl
theorem meet3 (x1 x2 x3 : Int) (x4 : ByteArray) (x5 x6 : Int) : s3 x1 x2 x3 x4 x5 x6 = s3b x1 x2 x3 x4 x5 x6 := by kernel_rfl
theorem meet4 (x1 x2 x3 : Int) (x4 : ByteArray) (x5 x6 : Int) : s4 x1 x2 x3 x4 x5 x6 = s4b x1 x2 x3 x4 x5 x6 := by kernel_rfl
theorem meet5 (x1 x2 x3 : Int) (x4 : ByteArray) (x5 x6 : Int) : s5 x1 x2 x3 x4 x5 x6 = s5b x1 x2 x3 x4 x5 x6 := by kernel_rfl
theorem last (x1 x2 x3 : Int) (x4 : ByteArray) (x5 x6 : Int) : fstep tab (s6 x1 x2 x3 x4 x5 x6) = .done 3 vt := by kernel_rfl
theorem fin (x1 x2 x3 : Int) (x4 : ByteArray) (x5 x6 : Int) : Fin tab 3 vt (s0 x1 x2 x3 x4 x5 x6) := (run0 x1 x2 x3 x4 x5 x6 _ _ ((meet1 x1 x2 x3 x4 x5 x6) ▸ (run1 x1 x2 x3 x4 x5 x6 _ _ ((meet2 x1 x2 x3 x4 x5 x6) ▸ (run2 x1 x2 x3 x4 x5 x6 _ _ ((meet3 x1 x2 x3 x4 x5 x6) ▸ (run3 x1 x2 x3 x4 x5 x6 _ _ ((meet4 x1 x2 x3 x4 x5 x6) ▸ (run4 x1 x2 x3 x4 x5 x6 _ _ ((meet5 x1 x2 x3 x4 x5 x6) ▸ (run5 x1 x2 x3 x4 x5 x6 _ _ (.done (last x1 x2 x3 x4 x5 x6)))))))))))))
end Go.Proofs.YtnjllcofmkhkoaaGreatDoor.Sim
