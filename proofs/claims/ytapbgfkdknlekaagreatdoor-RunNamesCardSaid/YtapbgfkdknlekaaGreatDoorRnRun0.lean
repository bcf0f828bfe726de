/- The run of the law, steps of the machine from state 0 to state 2. No condition. -/
import Derived.Test.YtapbgfkdknlekaaGreatDoorRnPool0
import Derived.KernelRfl
set_option maxRecDepth 100000
namespace Go.Proofs.YtapbgfkdknlekaaGreatDoor.Sim
open Go Go.RowKit
noncomputable def h1 : List (Nat × AObj) := [(0,gl0),
(1,gl1),
(2,gl2),
(3,gl3),
(4,gl4),
(5,gl5),
(6,gl6),
(7,gl7),
(8,gl8),
(21,ob0),
(23,ob1),
(41,ob [(vu 0),(vl 21 0 3 3),(vl 23 0 1 1)]),
(42,ob [(vu 0),(vl 21 0 3 3),(vl 23 0 1 1)]),
(43,ob2),
(47,ob2),
(48,ob2),
(49,.map [⟨(vi 1), (vg [(.int .u32 (.ofNat 55)),(vi 0),(vi 0)]), 0⟩,⟨(vi 2), (vg [(.int .u32 (.ofNat 23)),(vi 0),(vi 0)]), 1⟩,⟨(vi 3), (vg [(.int .u32 (.ofNat 111)),(vi 0),(vi 0)]), 2⟩,⟨(vi 4), (vg [(.int .u32 (.ofNat 103)),(vi 0),(vi 0)]), 3⟩] 4),
(66,og [(vb 48),(vb 49),(vb 52),(vb 53),(vb 54),(vb 55)] 1 66 0),
(74,og [(vi 0),(vi 1),(vi 4),(vi 5)] 1 68 0),
(75,ob [(vi 6)]),
(76,og [(vi 0),(vi 1),(vi 4),(vi 5),(vi 6)] 1 68 0)]
def g1 : List (Nat × List Nat) := [(66, [66]),(68, [76,74])]
noncomputable def s1 : ASt := ⟨⟨91, 20, [(so (vs [48,49,52,53,54,55])),no,(sl 76 0 5 5),no,(so (vb 54)),(so (vs [48,49,52,53,54,55])),(sl 66 0 6 6),(si 6),(si 4)], [(17,(vl 76 0 5 5)),(16,(vl 75 0 1 1)),(15,(vi 6)),(14,(vb 6)),(13,(vb 54)),(12,(vl 74 0 4 4)),(11,(vb 54)),(10,(va 66 4)),(9,vt),(18,(vi 4))], [.inBlock 1,.code (cd 91 [1,0,1,0,0,1,1,1]),.inLoop (cd 91 [1,0,1,0,0]),.inBlock 0,.code (cd 91 [1,1])], [], .run, .normal, none⟩,
  [⟨64, 42, [(so (.map (some 49))),(si 5),(so (.int .u32 (.ofNat 99))),(so (vs [48,49,52,53,54,55])),(so (vs [])),(si 0),no,no,no,no,no,no,no,no,no,(so (vs [48,49,52,53,54,55])),no,no,no], [], [iR (cd 64 [0]) 1,.code (cd 64 [1])], [], .run, .normal, none⟩,
  ⟨48, 75, [(so (.map none)),(so (.map (some 49))),no,no,no,no,no,(so (.map (some 49))),(so (.map (some 49))),(so (vq [])),(so (.map (some 49))),(so (vq [])),(so (.map (some 49))),(so (vq [])),(so (.map (some 49))),(so (vq [])),(so (.map (some 49))),no,no,no,no,no,no,no,no,no,no,no,no,no,no,no,no,no,no,no,no,no,no,no,no,no,no,no,no,no,no,no,no,no,no,no,no,no,no,no,no,no,no,no], [], [iR (cd 48 [1,1,1,1,1,1,0]) 1,.code (cd 48 [1,1,1,1,1,1,1])], [], .run, .normal, none⟩,
  ⟨32, 56, [(so (.int .u32 (.ofNat 115))),no,(sa 48 0),(si 0),(so (vu 115)),no,no,no,no,no,no,no,(so (.int .u32 (.ofNat 115))),(so (vu 115)),no,no,no,no,no,no,no,no,no,no,no,no,no,no,no,no,no,no,no,no], [], [iR (cd 32 [1,1,0]) 0,.code (cd 32 [1,1,1])], [], .run, .normal, none⟩,
  ⟨14, 52, [(sa 42 0),(so (vu 8)),no,no,(sa 47 0),sf,(so (vu 2)),no,no], [(45,(.int .u32 (.ofNat 115))),(44,(va 21 2)),(43,(vu 2)),(42,(vl 21 0 3 3)),(41,(va 42 1)),(40,(va 42 0)),(39,(va 42 0)),(36,vf),(35,vf),(34,(vu 3)),(33,(vi 3))], [iR (cd 14 [1,1,1,0]) 7,.code (cd 14 [1,1,1,1])], [], .run, .normal, none⟩,
  ⟨5, 24, [(so (vg [(vu 0),(vl 21 0 3 3),(vl 23 0 1 1)])),(so (vu 8)),(sa 42 0),no,(sa 43 0),(si 0),(si 0),no,no], [(16,(vu 8)),(12,vf),(11,(vi 0)),(10,(vi 0)),(9,(vg [(vu 0),(vl 21 0 3 3),(vl 23 0 1 1)]))], [iR (cd 5 [1,1,0]) 1,.code (cd 5 [1,1,1])], [], .run, .normal, none⟩,
  ⟨3, 99, [sf,(sa 41 0),no,no,no,no,no,no,no,no], [(12,(vg [(vu 0),(vl 21 0 3 3),(vl 23 0 1 1)])),(10,(vg [(vu 0),(vl 21 0 3 3),(vl 23 0 1 1)]))], [iR (cd 3 [1,1,0]) 1,.code (cd 3 [1,1,1])], [], .run, .normal, none⟩],
  ⟨tput h1, 77, tput g1⟩⟩
theorem e1 : gcS (keys h1) (keys g1) 77 (arun tab 12 s0) = s1 := by kernel_rfl
noncomputable def h2 : List (Nat × AObj) := [(0,gl0),
(1,gl1),
(2,gl2),
(3,gl3),
(4,gl4),
(5,gl5),
(6,gl6),
(7,gl7),
(8,gl8),
(21,ob0),
(23,ob1),
(41,ob [(vu 0),(vl 21 0 1 3),(vl 23 0 1 1)]),
(889,ob3),
(897,ob2),
(905,ob4),
(906,ob [(vu 1)]),
(907,ob [(vu 0),(vl 21 0 1 3),(vl 23 0 1 1)]),
(908,ob [(vl 906 0 1 1),vn,(vi 9)]),
(909,ob4),
(910,ob [(vl 906 0 1 1),vn,(vi 9)])]
def g2 : List (Nat × List Nat) := []
noncomputable def s2 : ASt := ⟨⟨9, 33, [(so (vg [(vu 0),(vl 21 0 1 3),(vl 23 0 1 1)])),no,no], [], [.code (cd 9 [])], [], .run, .normal, none⟩,
  [⟨15, 35, [(sa 907 0),(si 0),(so (vg [(vl 906 0 1 1),vn,(vi 9)])),no,no,(sa 910 0),sf], [(9,(vg [(vu 0),(vl 21 0 1 3),(vl 23 0 1 1)])),(8,(va 907 0)),(7,(va 907 0))], [iR (cd 15 [1,0]) 3,.code Code.ret], [], .run, .normal, none⟩,
  ⟨6, 22, [(so (vg [(vu 0),(vl 21 0 1 3),(vl 23 0 1 1)])),(si 0),(so (vg [(vl 906 0 1 1),vn,(vi 9)])),(sa 907 0),no,(sa 908 0),(sa 909 0),(si 0),no,no], [(11,(vg [(vl 906 0 1 1),vn,(vi 9)])),(10,(vi 0))], [iR (cd 6 [1,0,0]) 2,.code (cd 6 [1,0,1]),.code (cd 6 [1,1])], [], .run, .normal, none⟩,
  fr5],
  ⟨tput h2, 911, tput g2⟩⟩
theorem e2 : gcS (keys h2) (keys g2) 911 (arun tab 12 s1) = s2 := by kernel_rfl
theorem run0 (f : FuncId) (v : Value) (k : Fin tab f v (s2)) : Fin tab f v (s0) := .run 12 _ _ _ (e1) (.run 12 _ _ _ (e2) (k))
end Go.Proofs.YtapbgfkdknlekaaGreatDoor.Sim
