/- The tables with what is known of calls are true of the program. No condition. -/
import Derived.Test.YtjhfcfpkgfpoiaaGreatDoorLvMd
set_option maxRecDepth 100000
namespace Go.Proofs.YtjhfcfpkgfpoiaaGreatDoor.Sim
open Go Go.RowKit
theorem cert:Y0 Tryz.prog tab:=Yi3
end Go.Proofs.YtjhfcfpkgfpoiaaGreatDoor.Sim
