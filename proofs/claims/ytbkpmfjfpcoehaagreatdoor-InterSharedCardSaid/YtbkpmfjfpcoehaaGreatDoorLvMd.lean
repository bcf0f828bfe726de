/- Calls that are run once: what each comes to; the tables with them. No condition. -/
import Derived.Test.YtbkpmfjfpcoehaaGreatDoorLvPool0
set_option maxRecDepth 100000
namespace Go.Proofs.YtbkpmfjfpcoehaaGreatDoor.Sim
open Go Go.RowKit
noncomputable def tab:Tab:=qS
end Go.Proofs.YtbkpmfjfpcoehaaGreatDoor.Sim
