/- Calls that are run once: what each comes to; the tables with them. No condition. -/
import Derived.Test.YtjhfcfpkgfpoiaaGreatDoorLvPool0
set_option maxRecDepth 100000
namespace Go.Proofs.YtjhfcfpkgfpoiaaGreatDoor.Sim
open Go Go.RowKit
noncomputable def tab:Tab:=Ylq
end Go.Proofs.YtjhfcfpkgfpoiaaGreatDoor.Sim
