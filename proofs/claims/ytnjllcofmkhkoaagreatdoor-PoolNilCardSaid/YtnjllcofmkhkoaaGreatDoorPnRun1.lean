/- The run of the law, steps of the machine from state 1 to state 2. No condition. -/
import Derived.Test.YtnjllcofmkhkoaaGreatDoorPnPool0
import Derived.KernelRfl
set_option maxRecDepth 100000
namespace Go.Proofs.YtnjllcofmkhkoaaGreatDoor.Sim
open Go Go.RowKit
noncomputable def h1b (x1 x2 x3 : Int) (_x4 : ByteArray) (_x5 _x6 : Int) : List (Nat × AObj) := [(0,gl0),
(11,ob [(.int .i64 x1),(.int .i64 x2),(.int .i64 x3)]),
(12,ob [(vi 0),vn,vn]),
(13,ob [(vi 0),vn,vn]),
(14,ob [(vi 0),(vi 0),(vi 0)]),
(1476,ob0),
(1687,og [vn] 1 1687 0),
(1709,ob1),
(1710,ob [(vi 0),(vi 0),(vi 0)]),
(1711,ob1),
(1712,ob [(vi 0),(vi 0),(vi 0)]),
(1713,ob1)]
def g1b : List (Nat × List Nat) := [(1476, [1476]),(1687, [1687])]
noncomputable def s1b (x1 x2 x3 : Int) (x4 : ByteArray) (x5 x6 : Int) : ASt := ⟨⟨89, 55, [(so (vg [(vi 4),(vl 1476 0 1 1),(vl 1687 0 1 1)])),(sa 1713 0),(si 0),(si 1),(si 1)], [(45,vf),(44,(vi 1)),(43,(vl 1687 0 1 1)),(42,(va 1713 2))], [.code Code.ret], [], .returning, .normal, none⟩,
  [⟨59, 94, [(so (vg [(vi 4),(vl 1476 0 1 1),(vl 1687 0 1 1)])),(sa 1711 0),(sa 1712 0),no,no,no], [(6,(vg [(vi 4),(vl 1476 0 1 1),(vl 1687 0 1 1)]))], [iR (cd 59 [1,0,0]) 1,.code (cd 59 [1,0,1]),.code (cd 59 [1,1])], [], .run, .normal, none⟩,
  ⟨39, 23, [(so (vs [112,111,111,108,32,52,59,32,115,116,97,99,107,32,115,59,32,116,104,114,101,97,100,32,123,32,125])),no,(sa 13 0),(sa 14 0),(sa 1709 0),(sa 1710 0)], [(14,(vg [(vi 4),(vl 1476 0 1 1),(vl 1687 0 1 1)])),(13,vt),(12,(vi 0)),(11,(va 1710 0)),(10,(vg [(vi 0),(vi 0),(vi 0)]))], [iR (cd 39 [1,1,0,1,0]) 1,.code (cd 39 [1,1,1])], [], .run, .normal, none⟩,
  ⟨21, 11, [(so (vs [112,111,111,108,32,52,59,32,115,116,97,99,107,32,115,59,32,116,104,114,101,97,100,32,123,32,125])),no,(sa 12 0),no,no], [(6,(vs [112,111,111,108,32,52,59,32,115,116,97,99,107,32,115,59,32,116,104,114,101,97,100,32,123,32,125]))], [iR (cd 21 [1,0]) 1,.code (cd 21 [1,1])], [], .run, .normal, none⟩,
  ⟨4, 78, [sf,no,no,no,no,no,no,no,no], [], [iR (cd 4 [1,0]) 0,.code (cd 4 [1,1])], [], .run, .normal, none⟩,
  ⟨3, 125, [(so (vg [(.int .i64 x1),(.int .i64 x2),(.int .i64 x3)])),(so (.string x4)),(so (.int .i64 x5)),(so (.int .i64 x6)),(sa 11 0),no,no,no,sf,no,no,no,no,no,no,no,no,no,no], [], [iR (cd 3 [1,0,0]) 0,.code (cd 3 [1,0,1]),.code (cd 3 [1,1])], [], .run, .normal, none⟩],
  ⟨tput (h1b x1 x2 x3 x4 x5 x6), 1715, tput g1b⟩⟩
noncomputable def h2 (x1 x2 x3 : Int) (_x4 : ByteArray) (_x5 _x6 : Int) : List (Nat × AObj) := [(0,gl0),
(11,ob [(.int .i64 x1),(.int .i64 x2),(.int .i64 x3)]),
(1476,ob0),
(1687,og [vn] 1 1687 0),
(1730,ob1),
(1731,ob [(vi 0),(vi 0),(vi 0)]),
(1777,ob [(vi 0),(vi 0),(vi 0)]),
(1778,ob [vn,(vi 4),(vl 1476 0 1 1),(vl 1687 0 1 1),vn,(vi 1),(vi 4),(vi 0)]),
(1779,ob [(vi 1),(vs [115]),(vi 1),(vi 9)]),
(1780,ob [(vl 1818 0 9 9)]),
(1818,ob2),
(1819,ob1),
(1820,ob1),
(1821,ob [(.map none),vn,vn,(vi 0)]),
(1822,ob1),
(1823,ob [vn]),
(1824,ob [(vi 0),(vi 0),(vi 0)]),
(1825,ob1),
(1826,ob [(vi 1),(vs [115]),(vi 1),(vi 9)])]
def g2 : List (Nat × List Nat) := [(1476, [1476]),(1687, [1687]),(1782, [1818])]
noncomputable def s2 (x1 x2 x3 : Int) (x4 : ByteArray) (x5 x6 : Int) : ASt := ⟨⟨64, 106, [(so (vs [112,111,111,108,32,115,116,97,99,107,32,113,117,101,117,101,32,115,101,116,32,116,104,114,101,97,100,32,118,97,114,32,97,114,114,97,121,32,105,102,32,101,108,115,101,32,119,104,105,108,101,32,111,117,116,32,104,97,108,116,32,112,117,115,104,32,112,111,112,32,101,110,113,32,100,101,113,32,97,100,100,32,114,101,109,111,118,101,32,104,97,115])),no,(so vn),(si 2),(si 0),(so (vb 127)),(si 8),(so (vb 97)),(si 0),no,no,no,no], [(16,vt),(15,(vi 92)),(14,(vs [112,111,111,108,32,115,116,97,99,107,32,113,117,101,117,101,32,115,101,116,32,116,104,114,101,97,100,32,118,97,114,32,97,114,114,97,121,32,105,102,32,101,108,115,101,32,119,104,105,108,101,32,111,117,116,32,104,97,108,116,32,112,117,115,104,32,112,111,112,32,101,110,113,32,100,101,113,32,97,100,100,32,114,101,109,111,118,101,32,104,97,115])),(13,(vi 8)),(18,(vi 8)),(17,(vi 7)),(35,(vi 0)),(34,(vi 2))], [.code (cd 64 [1,1,1,1,0,1,0,0,0,1]),.code (cd 64 [1,1,1,1,0,1,0,0,1]),.inLoop (cd 64 [1,1,1,1,0,1,0,0]),.inBlock 0,.code (cd 64 [1,1,1,1,1])], [], .run, .normal, none⟩,
  [⟨193, 2, [(so vn)], [], [iR (cd 193 [1,0]) 0,.code Code.ret], [], .run, .normal, none⟩,
  ⟨152, 6, [(so (vs [115])),no,sf], [], [iR (cd 152 [1,0]) 0,.code Code.ret], [], .run, .normal, none⟩,
  ⟨113, 29, [(so (vs [115])),no,sf], [(25,(vs [115])),(24,vt),(23,vt),(22,vt),(21,(vi 1)),(20,(vs [115])),(19,(vi 1)),(18,(vs [115])),(17,vt),(16,vt),(15,vt),(14,(vi 3)),(13,(vb 115)),(12,(vs [115])),(11,vt),(10,vt),(9,vt),(8,(vi 1)),(7,(vs [115])),(6,vt),(5,vt),(4,(vi 1)),(3,(vs [115]))], [iR (cd 113 [1,0]) 23,.code Code.ret], [], .run, .normal, none⟩,
  ⟨112, 17, [(so (vg [(vi 1),(vs [115]),(vi 1),(vi 9)])),(sa 1826 0),sf], [(13,(vs [115])),(12,(va 1826 1)),(11,vf),(10,vf),(9,vf),(8,(vi 1)),(7,(va 1826 0)),(6,vf),(5,vf),(4,(vi 1)),(3,(va 1826 0))], [iR (cd 112 [1,0]) 11,.code Code.ret], [], .run, .normal, none⟩,
  ⟨118, 19, [(sl 1476 0 1 1),(so (.func (.func 112) ⟨[]⟩ ⟨[]⟩)),no,no,(si 0),(si 0),(sl 1476 0 1 1),(si 1),(si 0)], [(15,(vg [(vi 1),(vs [115]),(vi 1),(vi 9)])),(14,(va 1476 0)),(13,(vi 0)),(12,(vl 1476 0 1 1)),(11,(.func (.func 112) ⟨[]⟩ ⟨[]⟩)),(10,(vi 0)),(9,vt)], [iR (cd 118 [1,0,1,0,0,1,1,0,0,1,0]) 5,.code (cd 118 [1,0,1,0,0,1,1,0,0,1,1]),.inBlock 1,.code (cd 118 [1,0,1,0,0,1,1,1]),.inLoop (cd 118 [1,0,1,0,0]),.inBlock 0,.code (cd 118 [1,1])], [], .run, .normal, none⟩,
  ⟨114, 9, [(sl 1476 0 1 1),(so (.func (.func 112) ⟨[]⟩ ⟨[]⟩)),no,no,sf], [(6,(.func (.func 112) ⟨[]⟩ ⟨[]⟩)),(5,(vl 1476 0 1 1))], [iR (cd 114 [1,0]) 2,.code Code.ret], [], .run, .normal, none⟩,
  ⟨77, 18, [(so (vg [(vi 4),(vl 1476 0 1 1),(vl 1687 0 1 1)])),(sa 1825 0),(si 0),(so (.func (.func 112) ⟨[]⟩ ⟨[]⟩))], [(10,(.func (.func 112) ⟨[]⟩ ⟨[]⟩)),(9,(vl 1476 0 1 1)),(8,(va 1825 1)),(7,vf),(6,vf),(5,(vi 4)),(4,(va 1825 0))], [iR (cd 77 [1,1,0,0]) 7,.code (cd 77 [1,1,0,1]),.code (cd 77 [1,1,1])], [], .run, .normal, none⟩,
  ⟨48, 70, [(so (vg [(vi 4),(vl 1476 0 1 1),(vl 1687 0 1 1)])),(sa 1822 0),(sa 1823 0),(sa 1824 0),no,no,no,(so (.func (.func 75) ⟨[]⟩ ⟨[(va 1823 0),(va 1824 0)]⟩)),(so (vg [(vi 4),(vl 1476 0 1 1),(vl 1687 0 1 1)])),no,no,no,no,no,no,no,no,no,no,no,no,no,no,no,no,no,no,no,no,no,no,no,no,no,no,no,no,no,no,no,no,no,no,no,no,no,no,no,no,no,no,no,no,no,no,no,no,no,no], [], [iR (cd 48 [1,1,0]) 1,.code (cd 48 [1,1,1])], [⟨(.fn (.func 75) ⟨[(va 1823 0),(va 1824 0)]⟩), ⟨[]⟩⟩], .run, .normal, none⟩,
  ⟨81, 27, [(so (vg [(vi 4),(vl 1476 0 1 1),(vl 1687 0 1 1)])),(si 0),(sa 1820 0),no,(sa 1821 0),no,no], [(8,(vg [(vi 4),(vl 1476 0 1 1),(vl 1687 0 1 1)]))], [iR (cd 81 [1,0]) 1,.code (cd 81 [1,1])], [], .run, .normal, none⟩,
  ⟨51, 9, [(so (vg [(vi 4),(vl 1476 0 1 1),(vl 1687 0 1 1)])),(si 0),(sa 1819 0),no,(so vn)], [(6,(vi 0)),(5,(vg [(vi 4),(vl 1476 0 1 1),(vl 1687 0 1 1)]))], [iR (cd 51 [1,0]) 2,.code Code.ret], [], .run, .normal, none⟩,
  ⟨37, 104, [(sa 1778 0),(so vn),no,no,(so vn),(sa 1780 0),(so (.func (.func 50) ⟨[]⟩ ⟨[(va 1780 0)]⟩)),(si 0),no,no,(so (.func (.func 50) ⟨[]⟩ ⟨[(va 1780 0)]⟩)),(so (.func (.func 50) ⟨[]⟩ ⟨[(va 1780 0)]⟩)),(sa 1778 0),(sa 1778 0),(sa 1778 1),(sa 1778 2),(sl 1476 0 1 1),(si 1),(si 2),(so (vq [])),(so (.func (.func 50) ⟨[]⟩ ⟨[(va 1780 0)]⟩)),(sa 1778 0),(si 4),(si 16),(so (vq [])),(so (.func (.func 50) ⟨[]⟩ ⟨[(va 1780 0)]⟩)),(sa 1778 0),(sa 1778 0),(sa 1778 5),(si 1),(si 3),(so (vq [])),(so (.func (.func 50) ⟨[]⟩ ⟨[(va 1780 0)]⟩)),(sa 1778 0),(sa 1778 0),(sa 1778 5),(si 1),(si 6),(so (vq [])),(sa 1778 0),(sa 1778 0),(sa 1778 5),(si 1),(si 0),st,(si 0),(so (.func (.func 50) ⟨[]⟩ ⟨[(va 1780 0)]⟩)),(si 0),(sa 1778 0),(si 4),(so (vq [])),(so (.func (.func 50) ⟨[]⟩ ⟨[(va 1780 0)]⟩)),(si 0),(so (vq [])),(so (.func (.func 50) ⟨[]⟩ ⟨[(va 1780 0)]⟩)),(si 0),(sa 1778 0),(si 4),(so (vq [])),(so (.func (.func 50) ⟨[]⟩ ⟨[(va 1780 0)]⟩)),(si 0),(so (vq [])),(so (.func (.func 50) ⟨[]⟩ ⟨[(va 1780 0)]⟩)),(si 0),(sa 1778 0),(sa 1778 0),(sa 1778 5),(si 1),(si 3),(so (vq [])),(sa 1778 0),(sa 1778 0),(sa 1778 1),(so (vg [(vi 4),(vl 1476 0 1 1),(vl 1687 0 1 1)])),(si 0),no,no,no], [], [iR (cd 37 [1,1,1,1,1,1,1,0,1,0,0,1,1,0,0,1,1,1,1,1,1,0,0]) 5,.code (cd 37 [1,1,1,1,1,1,1,0,1,0,0,1,1,0,0,1,1,1,1,1,1,0,1]),.code (cd 37 [1,1,1,1,1,1,1,0,1,0,0,1,1,0,0,1,1,1,1,1,1,1]),.inBlock 1,.code (cd 37 [1,1,1,1,1,1,1,0,1,0,0,1,1,1]),.inLoop (cd 37 [1,1,1,1,1,1,1,0,1,0,0]),.inBlock 0,.code (cd 37 [1,1,1,1,1,1,1,1])], [], .run, .normal, none⟩,
  ⟨20, 74, [(so (vg [(vi 4),(vl 1476 0 1 1),(vl 1687 0 1 1)])),(so vn),(sa 1730 0),no,(so vp),(sa 1731 0),(sa 1777 0),(sa 1778 0),no,(sa 1779 0),(so (vg [(vi 4),(vl 1476 0 1 1),(vl 1687 0 1 1)])),(so (vg [(vi 0),(vi 0),(vi 0)])),(sa 1777 0),(si 0),sf,no,(so (vg [(vi 4),(vl 1476 0 1 1),(vl 1687 0 1 1)])),(sa 1730 2),(sl 1687 0 1 1),(si 1),(sa 1730 0),(si 4),(so (vg [vn,(vi 4),(vl 1476 0 1 1),(vl 1687 0 1 1),vn,(vi 1),(vi 4),(vi 0)])),(sa 1778 0),(sa 1730 1),(sl 1476 0 1 1),(si 1),(si 1)], [(56,vn),(55,(va 1778 0)),(54,(va 1778 0)),(52,vf),(51,vf),(50,vn),(49,vf)], [iR (cd 20 [1,1,1,1,1,0]) 3,.code (cd 20 [1,1,1,1,1,1])], [], .run, .normal, none⟩,
  fr3,
  ⟨3, 125, [(so (vg [(.int .i64 x1),(.int .i64 x2),(.int .i64 x3)])),(so (.string x4)),(so (.int .i64 x5)),(so (.int .i64 x6)),(sa 11 0),no,no,no,sf,no,no,no,no,no,no,no,no,no,no], [], [iR (cd 3 [1,0,0]) 0,.code (cd 3 [1,0,1]),.code (cd 3 [1,1])], [], .run, .normal, none⟩],
  ⟨tput (h2 x1 x2 x3 x4 x5 x6), 1829, tput g2⟩⟩
theorem e2 (x1 x2 x3 : Int) (x4 : ByteArray) (x5 x6 : Int) : gcS (keys (h2 x1 x2 x3 x4 x5 x6)) (keys g2) 1829 (arun tab 11 (s1b x1 x2 x3 x4 x5 x6)) = s2 x1 x2 x3 x4 x5 x6 := by kernel_rfl
theorem run1 (x1 x2 x3 : Int) (x4 : ByteArray) (x5 x6 : Int) (f : FuncId) (v : Value) (k : Fin tab f v (s2 x1 x2 x3 x4 x5 x6)) : Fin tab f v (s1b x1 x2 x3 x4 x5 x6) := .run 11 _ _ _ (e2 x1 x2 x3 x4 x5 x6) (k)
end Go.Proofs.YtnjllcofmkhkoaaGreatDoor.Sim
