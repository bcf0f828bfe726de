/- The tables with what is known of calls are true of the program. No condition. -/
import Derived.Test.YtbkpmfjfpcoehaaGreatDoorLvMd
set_option maxRecDepth 100000
namespace Go.Proofs.YtbkpmfjfpcoehaaGreatDoor.Sim
open Go Go.RowKit
theorem cert:YN Tryz.prog tab:=mR
end Go.Proofs.YtbkpmfjfpcoehaaGreatDoor.Sim
