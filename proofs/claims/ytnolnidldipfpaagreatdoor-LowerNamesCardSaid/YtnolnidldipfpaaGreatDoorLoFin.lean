/- The law, run by the machine from its begin: it ends with true. No condition. -/
import Derived.Test.YtnolnidldipfpaaGreatDoorLoRun0
import Derived.Test.YtnolnidldipfpaaGreatDoorLoRun1
import Derived.Test.YtnolnidldipfpaaGreatDoorLoRun2
import Derived.Test.YtnolnidldipfpaaGreatDoorLoRun3
import Derived.Test.YtnolnidldipfpaaGreatDoorLoRun4
import Derived.Test.YtnolnidldipfpaaGreatDoorLoRun5
import Derived.Test.YtnolnidldipfpaaGreatDoorLoRun6
import Derived.Test.YtnolnidldipfpaaGreatDoorLoRun7
import Derived.Test.YtnolnidldipfpaaGreatDoorLoRun8
import Derived.Test.YtnolnidldipfpaaGreatDoorLoRun9
import Derived.Test.YtnolnidldipfpaaGreatDoorLoRun10
import Derived.Test.YtnolnidldipfpaaGreatDoorLoRun11
import Derived.Test.YtnolnidldipfpaaGreatDoorLoRun12
import Derived.Test.YtnolnidldipfpaaGreatDoorLoRun13
import Derived.Test.YtnolnidldipfpaaGreatDoorLoRun14
import Derived.Test.YtnolnidldipfpaaGreatDoorLoRun15
import Derived.Test.YtnolnidldipfpaaGreatDoorLoRun16
import Derived.Test.YtnolnidldipfpaaGreatDoorLoRun17
import Derived.Test.YtnolnidldipfpaaGreatDoorLoRun18
import Derived.Test.YtnolnidldipfpaaGreatDoorLoRun19
import Derived.Test.YtnolnidldipfpaaGreatDoorLoRun20
import Derived.Test.YtnolnidldipfpaaGreatDoorLoRun21
import Derived.Test.YtnolnidldipfpaaGreatDoorLoRun22
import Derived.Test.YtnolnidldipfpaaGreatDoorLoRun23
import Derived.Test.YtnolnidldipfpaaGreatDoorLoRun24
import Derived.Test.YtnolnidldipfpaaGreatDoorLoRun25
import Derived.Test.YtnolnidldipfpaaGreatDoorLoRun26
import Derived.Test.YtnolnidldipfpaaGreatDoorLoRun27
import Derived.Test.YtnolnidldipfpaaGreatDoorLoRun28
import Derived.Test.YtnolnidldipfpaaGreatDoorLoRun29
import Derived.Test.YtnolnidldipfpaaGreatDoorLoRun30
import Derived.Test.YtnolnidldipfpaaGreatDoorLoRun31
import Derived.Test.YtnolnidldipfpaaGreatDoorLoRun32
import Derived.Test.YtnolnidldipfpaaGreatDoorLoRun33
import Derived.KernelRfl
set_option maxRecDepth 100000
namespace Go.Proofs.YtnolnidldipfpaaGreatDoor.Sim
open Go Go.RowKit
theorem last : fstep tab zs134 = .done 3 vt := by kernel_rfl
theorem fin : Fin tab 3 vt zs0 := (run0 _ _ (run1 _ _ (run2 _ _ (run3 _ _ (run4 _ _ (run5 _ _ (run6 _ _ (run7 _ _ (run8 _ _ (run9 _ _ (run10 _ _ (run11 _ _ (run12 _ _ (run13 _ _ (run14 _ _ (run15 _ _ (run16 _ _ (run17 _ _ (run18 _ _ (run19 _ _ (run20 _ _ (run21 _ _ (run22 _ _ (run23 _ _ (run24 _ _ (run25 _ _ (run26 _ _ (run27 _ _ (run28 _ _ (run29 _ _ (run30 _ _ (run31 _ _ (run32 _ _ (run33 _ _ (.done last)))))))))))))))))))))))))))))))))))
end Go.Proofs.YtnolnidldipfpaaGreatDoor.Sim
