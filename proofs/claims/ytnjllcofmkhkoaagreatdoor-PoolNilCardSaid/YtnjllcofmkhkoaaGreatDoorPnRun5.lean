/- The run of the law, steps of the machine from state 5 to state 6. No condition. -/
import Derived.Test.YtnjllcofmkhkoaaGreatDoorPnPool0
import Derived.KernelRfl
set_option maxRecDepth 100000
namespace Go.Proofs.YtnjllcofmkhkoaaGreatDoor.Sim
open Go Go.RowKit
noncomputable def h5b (x1 x2 x3 : Int) (_x4 : ByteArray) (_x5 _x6 : Int) : List (Nat × AObj) := [(0,gl0),
(11,ob [(.int .i64 x1),(.int .i64 x2),(.int .i64 x3)]),
(2446,.map [] 0),
(2447,ob [(vi 0),vn,vn,(.map (some 2446)),vt])]
def g5b : List (Nat × List Nat) := []
noncomputable def s5b (x1 x2 x3 : Int) (x4 : ByteArray) (x5 x6 : Int) : ASt := ⟨⟨3, 125, [(so (vg [(.int .i64 x1),(.int .i64 x2),(.int .i64 x3)])),(so (.string x4)),(so (.int .i64 x5)),(so (.int .i64 x6)),(sa 11 0),no,no,no,sf,(so vp),(sa 2447 0),(si 0),(si 1),(si 0),(si 1),(si 0),sf,(si 0),(si 1)], [(71,(vi 1)),(70,(.int .i64 x3)),(69,(va 11 2)),(68,(.int .i64 x2)),(67,(va 11 1)),(66,(.int .i64 x5)),(65,(va 2447 0)),(64,vp),(63,vt),(62,vt),(61,vt),(60,(vi 1)),(59,vt),(58,vt),(57,vt),(56,vf),(55,vt),(54,vt),(53,vt),(52,(vi 1)),(51,vt),(50,vt),(49,(vi 1)),(48,(vi 1)),(47,(vi 0)),(42,(vq [(vi 0),(vi 1)])),(46,(vq [(vi 0),(vi 1)]))], [iR (cd 3 [1,1,1,1,1,1,1,1,0]) 23,.code Code.ret], [], .run, .normal, none⟩,
  [],
  ⟨tput (h5b x1 x2 x3 x4 x5 x6), 2448, tput g5b⟩⟩
noncomputable def h6 (x1 x2 x3 : Int) (_x4 : ByteArray) (_x5 _x6 : Int) : List (Nat × AObj) := [(0,gl0),
(11,ob [(.int .i64 x1),(.int .i64 x2),(.int .i64 x3)]),
(2446,.map [] 0),
(2447,ob [(vi 0),vn,vn,(.map (some 2446)),vt])]
def g6 : List (Nat × List Nat) := []
noncomputable def s6 (x1 x2 x3 : Int) (x4 : ByteArray) (x5 x6 : Int) : ASt := ⟨⟨3, 125, [(so (vg [(.int .i64 x1),(.int .i64 x2),(.int .i64 x3)])),(so (.string x4)),(so (.int .i64 x5)),(so (.int .i64 x6)),(sa 11 0),no,no,no,st,(so vp),(sa 2447 0),(si 0),(si 1),(si 0),(si 1),(si 0),sf,(si 0),(si 1)], [(124,vt),(123,vt),(122,(vi 0)),(121,(vi 0)),(120,vp),(119,(vi 0)),(118,(vi 0)),(117,vp),(116,(vi 0)),(115,(vi 0)),(114,vp),(113,(vi 0)),(112,(vi 0)),(111,vn),(110,vp),(109,(vi 0)),(108,vn),(107,vp),(106,vt),(105,vt),(104,vt),(103,(vi 1)),(102,(.int .i64 x3)),(101,(va 11 2)),(100,(.int .i64 x5)),(99,(va 2447 0)),(98,vp),(97,vt),(96,vt),(95,vt),(94,(vi 1)),(93,(.int .i64 x5)),(92,(va 2447 0)),(91,vp),(90,vt),(89,vt),(88,vt),(87,(vi 1)),(86,(.int .i64 x3)),(85,(va 11 2)),(84,(.int .i64 x5)),(83,(va 2447 0)),(82,vp),(81,vt),(80,vt),(79,vt),(78,(vi 1)),(77,(.int .i64 x5)),(76,(va 2447 0)),(75,vp),(74,vt),(73,vt),(72,vt),(71,(vi 1)),(70,(.int .i64 x3)),(69,(va 11 2)),(68,(.int .i64 x2)),(67,(va 11 1)),(66,(.int .i64 x5)),(65,(va 2447 0)),(64,vp),(63,vt),(62,vt),(61,vt),(60,(vi 1)),(59,vt),(58,vt),(57,vt),(56,vf),(55,vt),(54,vt),(53,vt),(52,(vi 1)),(51,vt),(50,vt),(49,(vi 1)),(48,(vi 1)),(47,(vi 0)),(42,(vq [(vi 0),(vi 1)])),(46,(vq [(vi 0),(vi 1)]))], [.code Code.ret], [], .returning, .normal, none⟩,
  [],
  ⟨tput (h6 x1 x2 x3 x4 x5 x6), 2448, tput g6⟩⟩
theorem e6 (x1 x2 x3 : Int) (x4 : ByteArray) (x5 x6 : Int) : gcS (keys (h6 x1 x2 x3 x4 x5 x6)) (keys g6) 2448 (arun tab 11 (s5b x1 x2 x3 x4 x5 x6)) = s6 x1 x2 x3 x4 x5 x6 := by kernel_rfl
theorem run5 (x1 x2 x3 : Int) (x4 : ByteArray) (x5 x6 : Int) (f : FuncId) (v : Value) (k : Fin tab f v (s6 x1 x2 x3 x4 x5 x6)) : Fin tab f v (s5b x1 x2 x3 x4 x5 x6) := .run 11 _ _ _ (e6 x1 x2 x3 x4 x5 x6) (k)
end Go.Proofs.YtnjllcofmkhkoaaGreatDoor.Sim
