/- The run of the law, steps of the machine from state 0 to state 1. No condition. -/
import Derived.Test.YtnjllcofmkhkoaaGreatDoorPnPool0
import Derived.KernelRfl
set_option maxRecDepth 100000
namespace Go.Proofs.YtnjllcofmkhkoaaGreatDoor.Sim
open Go Go.RowKit
noncomputable def h1 (x1 x2 x3 : Int) (_x4 : ByteArray) (_x5 _x6 : Int) : List (Nat × AObj) := [(0,gl0),
(11,ob [(.int .i64 x1),(.int .i64 x2),(.int .i64 x3)]),
(12,ob [(vi 0),vn,vn]),
(13,ob [(vi 0),vn,vn]),
(14,ob [(vi 0),(vi 0),(vi 0)]),
(1476,ob0),
(1687,og [vn] 1 1687 0),
(1709,ob1),
(1710,ob [(vi 0),(vi 0),(vi 0)]),
(1711,ob1),
(1712,ob [(vi 0),(vi 0),(vi 0)]),
(1713,ob1)]
def g1 : List (Nat × List Nat) := [(1476, [1476]),(1687, [1687])]
noncomputable def s1 (x1 x2 x3 : Int) (x4 : ByteArray) (x5 x6 : Int) : ASt := ⟨⟨89, 55, [(so (vg [(vi 4),(vl 1476 0 1 1),(vl 1687 0 1 1)])),(sa 1713 0),(si 0),(si 1),(si 1)], [(45,vf),(44,(vi 1)),(43,(vl 1687 0 1 1)),(42,(va 1713 2))], [.code Code.ret], [], .returning, .normal, none⟩,
  [⟨59, 94, [(so (vg [(vi 4),(vl 1476 0 1 1),(vl 1687 0 1 1)])),(sa 1711 0),(sa 1712 0),no,no,no], [(6,(vg [(vi 4),(vl 1476 0 1 1),(vl 1687 0 1 1)]))], [iR (cd 59 [1,0,0]) 1,.code (cd 59 [1,0,1]),.code (cd 59 [1,1])], [], .run, .normal, none⟩,
  ⟨39, 23, [(so (vs [112,111,111,108,32,52,59,32,115,116,97,99,107,32,115,59,32,116,104,114,101,97,100,32,123,32,125])),no,(sa 13 0),(sa 14 0),(sa 1709 0),(sa 1710 0)], [(14,(vg [(vi 4),(vl 1476 0 1 1),(vl 1687 0 1 1)])),(13,vt),(12,(vi 0)),(11,(va 1710 0)),(10,(vg [(vi 0),(vi 0),(vi 0)]))], [iR (cd 39 [1,1,0,1,0]) 1,.code (cd 39 [1,1,1])], [], .run, .normal, none⟩,
  ⟨21, 11, [(so (vs [112,111,111,108,32,52,59,32,115,116,97,99,107,32,115,59,32,116,104,114,101,97,100,32,123,32,125])),no,(sa 12 0),no,no], [(6,(vs [112,111,111,108,32,52,59,32,115,116,97,99,107,32,115,59,32,116,104,114,101,97,100,32,123,32,125]))], [iR (cd 21 [1,0]) 1,.code (cd 21 [1,1])], [], .run, .normal, none⟩,
  ⟨4, 78, [sf,no,no,no,no,no,no,no,no], [], [iR (cd 4 [1,0]) 0,.code (cd 4 [1,1])], [], .run, .normal, none⟩,
  ⟨3, 125, [(so (vg [(.int .i64 x1),(.int .i64 x2),(.int .i64 x3)])),(so (.string x4)),(so (.int .i64 x5)),(so (.int .i64 x6)),(sa 11 0),no,no,no,sf,no,no,no,no,no,no,no,no,no,no], [], [iR (cd 3 [1,0,0]) 0,.code (cd 3 [1,0,1]),.code (cd 3 [1,1])], [], .run, .normal, none⟩],
  ⟨tput (h1 x1 x2 x3 x4 x5 x6), 1715, tput g1⟩⟩
theorem e1 (x1 x2 x3 : Int) (x4 : ByteArray) (x5 x6 : Int) : gcS (keys (h1 x1 x2 x3 x4 x5 x6)) (keys g1) 1715 (arun tab 11 (s0 x1 x2 x3 x4 x5 x6)) = s1 x1 x2 x3 x4 x5 x6 := by kernel_rfl
theorem run0 (x1 x2 x3 : Int) (x4 : ByteArray) (x5 x6 : Int) (f : FuncId) (v : Value) (k : Fin tab f v (s1 x1 x2 x3 x4 x5 x6)) : Fin tab f v (s0 x1 x2 x3 x4 x5 x6) := .run 11 _ _ _ (e1 x1 x2 x3 x4 x5 x6) (k)
end Go.Proofs.YtnjllcofmkhkoaaGreatDoor.Sim
