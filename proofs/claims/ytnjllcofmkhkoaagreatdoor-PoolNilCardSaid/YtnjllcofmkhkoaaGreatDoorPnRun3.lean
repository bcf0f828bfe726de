/- The run of the law, steps of the machine from state 3 to state 4. No condition. -/
import Derived.Test.YtnjllcofmkhkoaaGreatDoorPnPool0
import Derived.KernelRfl
set_option maxRecDepth 100000
namespace Go.Proofs.YtnjllcofmkhkoaaGreatDoor.Sim
open Go Go.RowKit
noncomputable def h3b (x1 x2 x3 : Int) (_x4 : ByteArray) (_x5 _x6 : Int) : List (Nat × AObj) := [(0,gl0),
(11,ob [(.int .i64 x1),(.int .i64 x2),(.int .i64 x3)]),
(1476,ob0),
(1687,og [vn] 1 1687 0),
(1730,ob1),
(1731,ob [(vi 0),(vi 0),(vi 0)]),
(1777,ob [(vi 0),(vi 0),(vi 0)]),
(1778,ob [vn,(vi 4),(vl 1476 0 1 1),(vl 1687 0 1 1),(vl 1818 0 9 9),(vi 1),(vi 4),(vi 0)]),
(1779,ob [(vi 1),(vs [115]),(vi 1),(vi 9)]),
(1818,ob2),
(1894,og [(vs [99,111,110,116]),(vi 2),(.int .i64 (.negSucc 0)),(vs [110,111,100,101,115]),(vi 16),(.int .i64 (.negSucc 0)),(vs [104,97,122,97,114,100,115]),(vi 3),(.int .i64 (.negSucc 0)),(vs [109,97,114,107,115]),(vi 6),(.int .i64 (.negSucc 0)),(vs [102,114,101,101]),(vi 4),(vi 0),(vs [102,114,101,101,99,111,117,110,116]),(vi 1),(vi 0),(vs [114,101,116,105,114,101,100]),(vi 4),(vi 0),(vs [114,101,116,99,111,117,110,116]),(vi 1),(vi 0),(vs [115,101,101,110]),(vi 3),(vi 0)] 3 1894 0),
(2057,ob [(vs [114,101,116,105,114,101,100]),(vi 4),(vi 0)]),
(2058,ob [(vs [102,114,101,101,99,111,117,110,116]),(vi 1),(vi 0)])]
def g3b : List (Nat × List Nat) := [(1476, [1476]),(1687, [1687]),(1782, [1818]),(1894, [1894])]
noncomputable def s3b (x1 x2 x3 : Int) (x4 : ByteArray) (x5 x6 : Int) : ASt := ⟨⟨54, 12, [(so (vg [(vs [114,101,116,105,114,101,100]),(vi 4),(vi 0)])),(so (vg [(vs [102,114,101,101,99,111,117,110,116]),(vi 1),(vi 0)])),(sa 2057 0),(sa 2058 0),(si 0)], [(11,(vi 0)),(10,(vi 0)),(9,(vg [(vs [102,114,101,101,99,111,117,110,116]),(vi 1),(vi 0)])),(8,(vg [(vs [102,114,101,101,99,111,117,110,116]),(vi 1),(vi 0)])),(7,(vi 0)),(6,(vg [(vs [114,101,116,105,114,101,100]),(vi 4),(vi 0)])),(5,(vg [(vs [114,101,116,105,114,101,100]),(vi 4),(vi 0)]))], [.code Code.ret], [], .run, .normal, none⟩,
  [⟨125, 53, [(sl 1894 0 9 9),(si 0),(si 9),(so (.func (.func 54) ⟨[]⟩ ⟨[]⟩)),no,no,no,no,(si 6),(si 6)], [(17,(vi 6)),(14,vt),(13,(vi 9)),(12,(vi 6))], [iD (cd 125 [1,0,0,1,0,0,1,0,0,0,0]) 1 [(13,(vg [(vs [102,114,101,101,99,111,117,110,116]),(vi 1),(vi 0)])),(12,(va 1894 15)),(11,(vi 5)),(10,(vi 6)),(9,(vl 1894 0 9 9)),(8,(vg [(vs [114,101,116,105,114,101,100]),(vi 4),(vi 0)])),(7,(va 1894 18)),(6,(vi 6)),(5,(vl 1894 0 9 9)),(4,(.func (.func 54) ⟨[]⟩ ⟨[]⟩)),(3,vt),(2,vt),(1,(vi 0)),(0,(vi 6))] 2040,.code (cd 125 [1,0,0,1,0,0,1,0,0,0,1]),.code (cd 125 [1,0,0,1,0,0,1,0,0,1]),.inLoop (cd 125 [1,0,0,1,0,0,1,0,0]),.inBlock 2,.inBlock 1,.code (cd 125 [1,0,0,1,1]),.inLoop (cd 125 [1,0,0]),.inBlock 0], [], .run, .normal, none⟩,
  ⟨83, 63, [(sl 1894 0 9 9),(si 9),(so (.func (.func 54) ⟨[]⟩ ⟨[]⟩)),no,no,no,(si 20),(si 0),(si 20),no], [(26,(.func (.func 54) ⟨[]⟩ ⟨[]⟩)),(25,(vi 9)),(24,(vi 0)),(23,(vl 1894 0 9 9)),(13,vf),(12,(vi 9)),(11,(vi 20)),(10,(vi 20))], [iR (cd 83 [1,1,1,0]) 4,.code (cd 83 [1,1,1,1])], [], .run, .normal, none⟩,
  ⟨53, 9, [(sl 1894 0 9 9),(so (.func (.func 54) ⟨[]⟩ ⟨[]⟩)),no,no], [(7,(.func (.func 54) ⟨[]⟩ ⟨[]⟩)),(6,(vi 9)),(5,(vl 1894 0 9 9)),(4,(vl 1894 0 9 9))], [iR (cd 53 []) 4], [], .run, .normal, none⟩,
  ⟨38, 38, [(sl 1818 0 9 9),no,(so vn),(si 0),(si 0),(sl 1894 0 9 9),no,no,no,no,(sl 1818 0 9 9),(si 0),(si 0),sf,no,(sl 1818 0 9 9),(sl 1894 0 9 9),(sl 1894 0 9 9),no,no,no,no], [], [iR (cd 38 [1,1,1,0]) 1,.code (cd 38 [1,1,1,1])], [], .run, .normal, none⟩,
  ⟨20, 74, [(so (vg [(vi 4),(vl 1476 0 1 1),(vl 1687 0 1 1)])),(so vn),(sa 1730 0),no,(so vp),(sa 1731 0),(sa 1777 0),(sa 1778 0),no,(sa 1779 0),(so (vg [(vi 4),(vl 1476 0 1 1),(vl 1687 0 1 1)])),(so (vg [(vi 0),(vi 0),(vi 0)])),(sa 1777 0),(si 0),sf,no,(so (vg [(vi 4),(vl 1476 0 1 1),(vl 1687 0 1 1)])),(sa 1730 2),(sl 1687 0 1 1),(si 1),(sa 1730 0),(si 4),(so (vg [vn,(vi 4),(vl 1476 0 1 1),(vl 1687 0 1 1),vn,(vi 1),(vi 4),(vi 0)])),(sa 1778 0),(sa 1730 1),(sl 1476 0 1 1),(si 1),(si 1)], [(65,(vl 1818 0 9 9)),(64,(va 1778 4)),(63,(va 1778 0)),(62,(va 1778 0)),(61,(va 1778 0)),(59,(va 1778 4)),(58,(va 1778 0)),(57,(vl 1818 0 9 9)),(56,vn)], [iR (cd 20 [1,1,1,1,1,1,0]) 5,.code (cd 20 [1,1,1,1,1,1,1])], [], .run, .normal, none⟩,
  fr3,
  ⟨3, 125, [(so (vg [(.int .i64 x1),(.int .i64 x2),(.int .i64 x3)])),(so (.string x4)),(so (.int .i64 x5)),(so (.int .i64 x6)),(sa 11 0),no,no,no,sf,no,no,no,no,no,no,no,no,no,no], [], [iR (cd 3 [1,0,0]) 0,.code (cd 3 [1,0,1]),.code (cd 3 [1,1])], [], .run, .normal, none⟩],
  ⟨tput (h3b x1 x2 x3 x4 x5 x6), 2069, tput g3b⟩⟩
noncomputable def h4 (x1 x2 x3 : Int) (_x4 : ByteArray) (_x5 _x6 : Int) : List (Nat × AObj) := [(0,gl0),
(11,ob [(.int .i64 x1),(.int .i64 x2),(.int .i64 x3)]),
(2446,.map [] 0),
(2447,ob [(vi 0),vn,vn,(.map (some 2446)),vt])]
def g4 : List (Nat × List Nat) := []
noncomputable def c4 (b : Bool) (x1 x2 x3 : Int) (x4 : ByteArray) (x5 x6 : Int) : ASt := ⟨⟨10, 44, [(so vp),(sa 2447 0),(so (.int .i64 x5)),(so (.int .i64 x2)),(so (.int .i64 x3)),no,no,no,no,no,(si 0),no,no], [(14,(.bool b)),(13,(.int .i64 x2))], [.code (cd 10 [1,0,1]),.code (cd 10 [1,1])], [], .run, .normal, none⟩,
  [⟨3, 125, [(so (vg [(.int .i64 x1),(.int .i64 x2),(.int .i64 x3)])),(so (.string x4)),(so (.int .i64 x5)),(so (.int .i64 x6)),(sa 11 0),no,no,no,sf,(so vp),(sa 2447 0),(si 0),(si 1),(si 0),(si 1),(si 0),sf,(si 0),(si 1)], [(70,(.int .i64 x3)),(69,(va 11 2)),(68,(.int .i64 x2)),(67,(va 11 1)),(66,(.int .i64 x5)),(65,(va 2447 0)),(64,vp),(63,vt),(62,vt),(61,vt),(60,(vi 1)),(59,vt),(58,vt),(57,vt),(56,vf),(55,vt),(54,vt),(53,vt),(52,(vi 1)),(51,vt),(50,vt),(49,(vi 1)),(48,(vi 1)),(47,(vi 0)),(42,(vq [(vi 0),(vi 1)])),(46,(vq [(vi 0),(vi 1)]))], [iR (cd 3 [1,1,1,1,1,1,1,1,0]) 22,.code Code.ret], [], .run, .normal, none⟩],
  ⟨tput (h4 x1 x2 x3 x4 x5 x6), 2448, tput g4⟩⟩
noncomputable def s4 (x1 x2 x3 : Int) (x4 : ByteArray) (x5 x6 : Int) : ASt := c4 (iLeQ (.ofNat 3) x2) x1 x2 x3 x4 x5 x6
theorem e4 (x1 x2 x3 : Int) (x4 : ByteArray) (x5 x6 : Int) : gcS (keys (h4 x1 x2 x3 x4 x5 x6)) (keys g4) 2448 (aruns tab [0,2,5,7,9,10] (s3b x1 x2 x3 x4 x5 x6)) = s4 x1 x2 x3 x4 x5 x6 := by kernel_rfl
theorem run3 (x1 x2 x3 : Int) (x4 : ByteArray) (x5 x6 : Int) (f : FuncId) (v : Value) (k : Fin tab f v (s4 x1 x2 x3 x4 x5 x6)) : Fin tab f v (s3b x1 x2 x3 x4 x5 x6) := .runs _ _ _ _ (e4 x1 x2 x3 x4 x5 x6) (k)
end Go.Proofs.YtnjllcofmkhkoaaGreatDoor.Sim
