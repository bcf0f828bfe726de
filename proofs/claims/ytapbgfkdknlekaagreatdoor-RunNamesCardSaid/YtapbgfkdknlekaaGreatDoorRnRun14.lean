/- The run of the law, steps of the machine from state 28 to state 29. No condition. -/
import Derived.Test.YtapbgfkdknlekaaGreatDoorRnPool0
import Derived.KernelRfl
set_option maxRecDepth 100000
namespace Go.Proofs.YtapbgfkdknlekaaGreatDoor.Sim
open Go Go.RowKit
noncomputable def h28b : List (Nat × AObj) := [(0,gl0),
(1,gl1),
(2,gl2),
(3,gl3),
(4,gl4),
(5,gl5),
(6,gl6),
(7,gl7),
(8,gl8),
(21,ob0),
(23,ob1),
(41,ob [(vu 0),(vl 21 0 1 3),(vl 23 0 1 1)]),
(889,ob3),
(897,ob2),
(905,ob4),
(2313,ob []),
(2365,ob28),
(2653,ob31),
(8126,ob0),
(8128,ob1),
(9242,ob [(vu 0),vn,vn]),
(9244,ob1),
(9253,ob1),
(9261,ob46),
(9262,ob46),
(9263,ob46),
(9264,ob46)]
def g28b : List (Nat × List Nat) := [(2365, [2365])]
noncomputable def s28b : ASt := ⟨⟨90, 12, [(si 12),(si 0),(si 64),no,no,no,(si 12)], [(11,(vi 12)),(10,(vi 12)),(9,(vi 64)),(8,(vi 12)),(7,(vi 0))], [.code Code.ret], [], .returning, .normal, none⟩,
  [⟨125, 26, [(so (vu 1)),(si 12),no,no,(si 0)], [(5,(vi 12))], [iR (cd 125 [1,0]) 1,.code (cd 125 [1,1])], [], .run, .normal, none⟩,
  ⟨89, 11, [(si 1),(si 12),no,no,sf], [(7,(vi 12)),(6,(vu 1)),(5,(vi 1))], [iR (cd 89 [1,0]) 3,.code Code.ret], [], .run, .normal, none⟩,
  ⟨60, 47, [(si 22),(si 1),no,no,sf,(si 22),(si 3)], [(45,(vi 1)),(29,vf),(30,vf),(20,vf),(21,vf)], [iR (cd 60 [1,1,0]) 1,.code Code.ret], [], .run, .normal, none⟩,
  ⟨40, 126, [(so (vg [(vi 22),(vi 0),(vi 5),(vi 0),(vi 1),vf,vf,(vi 0),(vi 0)])),(sa 9263 0),(si 0),(si 3),st,st,sf,st,(sa 9264 0)], [(101,(vi 1)),(100,(va 9263 4)),(99,(vi 22)),(98,(va 9263 0)),(97,vt),(96,vt),(95,vf),(94,vf),(93,vf),(92,(vi 0)),(91,(va 9263 3)),(90,vf),(89,vf),(88,vf),(87,(vi 0)),(86,(va 9263 3)),(85,vf),(84,vf),(83,vf),(82,(vi 5)),(81,(va 9263 2)),(80,vf),(79,vf),(78,vf),(77,(vi 5)),(76,(va 9263 2)),(75,vf),(74,vf),(73,vf),(72,(vi 0)),(71,(va 9263 1)),(70,vf),(69,vf),(68,vf),(67,(vi 0)),(66,(va 9263 1)),(65,vf),(64,vf),(63,vf),(62,(vg [(vi 22),(vi 0),(vi 5),(vi 0),(vi 1),vf,vf,(vi 0),(vi 0)])),(61,(vg [(vi 22),(vi 0),(vi 5),(vi 0),(vi 1),vf,vf,(vi 0),(vi 0)])),(60,vf),(59,vf),(58,(vi 3)),(51,vf),(50,(vi 3)),(43,vf),(42,vf)], [iR (cd 40 [1,1,1,1,1,1,1,1,1,1,0,0]) 44,.code (cd 40 [1,1,1,1,1,1,1,1,1,1,0,1]),.code (cd 40 [1,1,1,1,1,1,1,1,1,1,1])], [], .run, .normal, none⟩,
  ⟨31, 140, [(so (vg [(vi 22),(vi 0),(vi 5),(vi 0),(vi 1),vf,vf,(vi 0),(vi 0)])),(sa 9262 0),(so (.int .u32 (.ofNat 0))),(si 0),no,no,(so (vg [(vi 22),(vi 0),(vi 5),(vi 0),(vi 1),vf,vf,(vi 0),(vi 0)])),no,no,no,no,no,no,no,no,no,no,no,no,no,no,no,no,no,no,no,no,no,no,no,no,no,no,no,no,no,no,no], [], [iR (cd 31 [1,0,0]) 1,.code (cd 31 [1,0,1]),.code (cd 31 [1,1])], [], .run, .normal, none⟩,
  ⟨13, 11, [(so (vg [(vi 22),(vi 0),(vi 5),(vi 0),(vi 1),vf,vf,(vi 0),(vi 0)])),(sa 9261 0),(so (.int .u32 (.ofNat 0))),no,no], [(6,(vg [(vi 22),(vi 0),(vi 5),(vi 0),(vi 1),vf,vf,(vi 0),(vi 0)]))], [iR (cd 13 [1,0]) 1,.code (cd 13 [1,1])], [], .run, .normal, none⟩,
  ⟨4, 17, [(sa 9242 0),(sa 9244 0)], [(6,(va 9244 11)),(5,(va 9244 1)),(4,(va 9244 7)),(3,(va 9244 1))], [iD (cd 4 [1,1,1,0]) 2 [(1,(.int .u32 (.ofNat 209539))),(8,(vl 9253 0 1 1)),(7,(vg [(vu 0),(vu 0),(vu 0),(vu 0),(vu 0),(vu 0),(vu 0),(vu 8),(vu 0),(vu 0),(vu 0),(vu 3),(vu 0),(vu 0),(vu 0),(vu 0),(vu 0),(vu 0),(vu 0),(vu 0),(vu 0),(vu 0),(vu 0),(vu 0),(vu 0),(vu 0),(vu 0),(vu 0),(vu 0),(vu 0),(vu 0),(vu 0),(vu 0),(vi 0),(vu 0)])),(4,(vg [(vi 64),(vi 0),(vi 0),(vi 0),(vi 0),vf,vf,(vi 0),(vi 0)])),(2,(vg [(vi 22),(vi 0),(vi 5),(vi 0),(vi 1),vf,vf,(vi 0),(vi 0)])),(0,(vg [(vi 14),(vi 5),(vi 6),(vi 0),(vi 0),vf,vf,(vi 0),(vi 0)]))] 9245,.code Code.ret], [], .run, .normal, none⟩,
  ⟨3, 99, [sf,(sa 41 0),(sa 889 0),(si 0),(sa 897 0),(si 11),(sa 905 0),(si 2),(sa 2653 0),(si 0)], [(82,vt),(81,vt),(80,vt),(79,(vi 2)),(78,(vg [(vu 0),vn,vn])),(77,vt),(76,vt),(75,vt),(74,(vi 1)),(73,(vg [vn,vn,(vi 9)])),(72,(vg [(vu 0),(vl 8126 0 3 3),(vl 8128 0 1 1)])),(71,vt),(70,vt),(69,vt),(68,(vi 2)),(67,(va 2653 38)),(66,vt),(65,vt),(64,vt),(63,(vi 6)),(62,(va 2653 36)),(61,(va 2653 3)),(60,vt),(59,vt),(58,vt),(57,(vi 0)),(56,vt),(55,vt),(54,vt),(53,(vi 2)),(52,vt),(51,vt),(50,vt),(49,(vi 11)),(48,vt),(47,vt),(46,vt),(45,(vi 64)),(44,(va 889 0)),(43,vt),(42,vt),(41,vt),(40,(vi 0)),(39,vt),(38,vt),(37,(vi 0)),(36,(vg [(vl 2365 0 1 1),vn,vn,(vu 4),(vu 0),(vu 0),(vu 0),(vu 0),(vu 0),(vu 1),(vu 8),(vu 0),(vu 0),(vu 0),(vu 3),(vu 0),(vu 0),(vu 0),(vu 0),(vu 0),(vu 0),(vu 0),(vu 0),(vu 0),(vu 0),(vu 0),(vu 0),(vu 0),(vu 0),(vu 0),(vu 0),(vu 0),(vu 0),(vu 0),(vu 0),(vu 0),(vi 6),(vu 0),(vi 2)])),(31,(vq [(vg [(vl 2365 0 1 1),vn,vn,(vu 4),(vu 0),(vu 0),(vu 0),(vu 0),(vu 0),(vu 1),(vu 8),(vu 0),(vu 0),(vu 0),(vu 3),(vu 0),(vu 0),(vu 0),(vu 0),(vu 0),(vu 0),(vu 0),(vu 0),(vu 0),(vu 0),(vu 0),(vu 0),(vu 0),(vu 0),(vu 0),(vu 0),(vu 0),(vu 0),(vu 0),(vu 0),(vu 0),(vi 6),(vu 0),(vi 2)]),(vi 0)])),(35,(vq [(vg [(vl 2365 0 1 1),vn,vn,(vu 4),(vu 0),(vu 0),(vu 0),(vu 0),(vu 0),(vu 1),(vu 8),(vu 0),(vu 0),(vu 0),(vu 3),(vu 0),(vu 0),(vu 0),(vu 0),(vu 0),(vu 0),(vu 0),(vu 0),(vu 0),(vu 0),(vu 0),(vu 0),(vu 0),(vu 0),(vu 0),(vu 0),(vu 0),(vu 0),(vu 0),(vu 0),(vu 0),(vi 6),(vu 0),(vi 2)]),(vi 0)]))], [iR (cd 3 [1,1,1,1,1,1,1,0]) 45,.code Code.ret], [], .run, .normal, none⟩],
  ⟨tput h28b, 9265, tput g28b⟩⟩
noncomputable def h29 : List (Nat × AObj) := [(0,gl0),
(1,gl1),
(2,gl2),
(3,gl3),
(4,gl4),
(5,gl5),
(6,gl6),
(7,gl7),
(8,gl8),
(21,ob0),
(23,ob1),
(41,ob [(vu 0),(vl 21 0 1 3),(vl 23 0 1 1)]),
(889,ob3),
(897,ob2),
(905,ob4),
(2313,ob []),
(2365,ob28),
(2653,ob31),
(8126,ob0),
(8128,ob1),
(9251,ob0),
(9253,ob1)]
def g29 : List (Nat × List Nat) := [(2365, [2365])]
noncomputable def s29 : ASt := ⟨⟨3, 99, [st,(sa 41 0),(sa 889 0),(si 0),(sa 897 0),(si 11),(sa 905 0),(si 2),(sa 2653 0),(si 0)], [(98,vt),(97,vt),(96,(vg [(vl 2365 0 1 1),vn,vn,(vu 4),(vu 0),(vu 0),(vu 0),(vu 0),(vu 0),(vu 1),(vu 8),(vu 0),(vu 0),(vu 0),(vu 3),(vu 0),(vu 0),(vu 0),(vu 0),(vu 0),(vu 0),(vu 0),(vu 0),(vu 0),(vu 0),(vu 0),(vu 0),(vu 0),(vu 0),(vu 0),(vu 0),(vu 0),(vu 0),(vu 0),(vu 0),(vu 0),(vi 6),(vu 0),(vi 2)])),(95,(vg [(vl 2365 0 1 1),vn,vn,(vu 4),(vu 0),(vu 0),(vu 0),(vu 0),(vu 0),(vu 1),(vu 8),(vu 0),(vu 0),(vu 0),(vu 3),(vu 0),(vu 0),(vu 0),(vu 0),(vu 0),(vu 0),(vu 0),(vu 0),(vu 0),(vu 0),(vu 0),(vu 0),(vu 0),(vu 0),(vu 0),(vu 0),(vu 0),(vu 0),(vu 0),(vu 0),(vu 0),(vi 6),(vu 0),(vi 2)])),(94,vt),(93,vt),(92,vt),(91,(vi 0)),(90,vn),(89,(vg [vn,vn,vn,(vu 4),(vu 0),(vu 0),(vu 0),(vu 0),(vu 0),(vu 1),(vu 8),(vu 0),(vu 0),(vu 0),(vu 3),(vu 0),(vu 0),(vu 0),(vu 0),(vu 0),(vu 0),(vu 0),(vu 0),(vu 0),(vu 0),(vu 0),(vu 0),(vu 0),(vu 0),(vu 0),(vu 0),(vu 0),(vu 0),(vu 0),(vu 0),(vu 0),(vi 6),(vu 0),(vi 2)])),(88,(vg [(vl 2365 0 1 1),vn,vn,(vu 4),(vu 0),(vu 0),(vu 0),(vu 0),(vu 0),(vu 1),(vu 8),(vu 0),(vu 0),(vu 0),(vu 3),(vu 0),(vu 0),(vu 0),(vu 0),(vu 0),(vu 0),(vu 0),(vu 0),(vu 0),(vu 0),(vu 0),(vu 0),(vu 0),(vu 0),(vu 0),(vu 0),(vu 0),(vu 0),(vu 0),(vu 0),(vu 0),(vi 6),(vu 0),(vi 2)])),(87,vt),(86,vt),(85,vt),(84,(vi 0)),(83,(vg [(vu 0),(vl 9251 0 3 3),(vl 9253 0 1 1)])),(82,vt),(81,vt),(80,vt),(79,(vi 2)),(78,(vg [(vu 0),vn,vn])),(77,vt),(76,vt),(75,vt),(74,(vi 1)),(73,(vg [vn,vn,(vi 9)])),(72,(vg [(vu 0),(vl 8126 0 3 3),(vl 8128 0 1 1)])),(71,vt),(70,vt),(69,vt),(68,(vi 2)),(67,(va 2653 38)),(66,vt),(65,vt),(64,vt),(63,(vi 6)),(62,(va 2653 36)),(61,(va 2653 3)),(60,vt),(59,vt),(58,vt),(57,(vi 0)),(56,vt),(55,vt),(54,vt),(53,(vi 2)),(52,vt),(51,vt),(50,vt),(49,(vi 11)),(48,vt),(47,vt),(46,vt),(45,(vi 64)),(44,(va 889 0)),(43,vt),(42,vt),(41,vt),(40,(vi 0)),(39,vt),(38,vt),(37,(vi 0)),(36,(vg [(vl 2365 0 1 1),vn,vn,(vu 4),(vu 0),(vu 0),(vu 0),(vu 0),(vu 0),(vu 1),(vu 8),(vu 0),(vu 0),(vu 0),(vu 3),(vu 0),(vu 0),(vu 0),(vu 0),(vu 0),(vu 0),(vu 0),(vu 0),(vu 0),(vu 0),(vu 0),(vu 0),(vu 0),(vu 0),(vu 0),(vu 0),(vu 0),(vu 0),(vu 0),(vu 0),(vu 0),(vi 6),(vu 0),(vi 2)])),(31,(vq [(vg [(vl 2365 0 1 1),vn,vn,(vu 4),(vu 0),(vu 0),(vu 0),(vu 0),(vu 0),(vu 1),(vu 8),(vu 0),(vu 0),(vu 0),(vu 3),(vu 0),(vu 0),(vu 0),(vu 0),(vu 0),(vu 0),(vu 0),(vu 0),(vu 0),(vu 0),(vu 0),(vu 0),(vu 0),(vu 0),(vu 0),(vu 0),(vu 0),(vu 0),(vu 0),(vu 0),(vu 0),(vi 6),(vu 0),(vi 2)]),(vi 0)])),(35,(vq [(vg [(vl 2365 0 1 1),vn,vn,(vu 4),(vu 0),(vu 0),(vu 0),(vu 0),(vu 0),(vu 1),(vu 8),(vu 0),(vu 0),(vu 0),(vu 3),(vu 0),(vu 0),(vu 0),(vu 0),(vu 0),(vu 0),(vu 0),(vu 0),(vu 0),(vu 0),(vu 0),(vu 0),(vu 0),(vu 0),(vu 0),(vu 0),(vu 0),(vu 0),(vu 0),(vu 0),(vu 0),(vi 6),(vu 0),(vi 2)]),(vi 0)]))], [.code Code.ret], [], .returning, .normal, none⟩,
  [],
  ⟨tput h29, 9315, tput g29⟩⟩
theorem e29 : gcS (keys h29) (keys g29) 9315 (arun tab 12 s28b) = s29 := by kernel_rfl
theorem run14 (f : FuncId) (v : Value) (k : Fin tab f v (s29)) : Fin tab f v (s28b) := .run 12 _ _ _ (e29) (k)
end Go.Proofs.YtapbgfkdknlekaaGreatDoor.Sim
