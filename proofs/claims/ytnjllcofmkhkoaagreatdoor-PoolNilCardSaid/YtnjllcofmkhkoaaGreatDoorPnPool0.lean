/- Frames and blocks of the run, by name. No condition. -/
import Derived.Test.YtnjllcofmkhkoaaGreatDoorPnTab
set_option maxRecDepth 100000
namespace Go.Proofs.YtnjllcofmkhkoaaGreatDoor.Sim
open Go Go.RowKit
noncomputable def ob0 : AObj := og [(vi 1),(vs [115]),(vi 1),(vi 9)] 4 1476 0
noncomputable def ob1 : AObj := ob [(vi 4),(vl 1476 0 1 1),(vl 1687 0 1 1)]
noncomputable def ob2 : AObj := og [(vs [99,111,110,116]),(vi 2),(.int .i64 (.negSucc 0)),(vs [110,111,100,101,115]),(vi 16),(.int .i64 (.negSucc 0)),(vs [104,97,122,97,114,100,115]),(vi 3),(.int .i64 (.negSucc 0)),(vs [109,97,114,107,115]),(vi 6),(.int .i64 (.negSucc 0)),(vs [102,114,101,101]),(vi 4),(vi 0),(vs [102,114,101,101,99,111,117,110,116]),(vi 1),(vi 0),(vs [114,101,116,105,114,101,100]),(vi 4),(vi 0),(vs [114,101,116,99,111,117,110,116]),(vi 1),(vi 0),(vs [115,101,101,110]),(vi 3),(vi 0)] 3 1782 0
noncomputable def fr3 : AFrame := ⟨4, 78, [sf,no,no,no,no,no,no,no,no], [(10,(vg [(vi 4),(vl 1476 0 1 1),(vl 1687 0 1 1)]))], [iR (cd 4 [1,0]) 1,.code (cd 4 [1,1])], [], .run, .normal, none⟩
end Go.Proofs.YtnjllcofmkhkoaaGreatDoor.Sim
