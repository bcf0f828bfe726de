/- The run of the law, steps of the machine from state 4 to state 5. No condition. -/
import Derived.Test.YtnjllcofmkhkoaaGreatDoorPnPool0
import Derived.KernelRfl
set_option maxRecDepth 100000
namespace Go.Proofs.YtnjllcofmkhkoaaGreatDoor.Sim
open Go Go.RowKit
noncomputable def h4b (x1 x2 x3 : Int) (_x4 : ByteArray) (_x5 _x6 : Int) : List (Nat × AObj) := [(0,gl0),
(11,ob [(.int .i64 x1),(.int .i64 x2),(.int .i64 x3)]),
(2446,.map [] 0),
(2447,ob [(vi 0),vn,vn,(.map (some 2446)),vt])]
def g4b : List (Nat × List Nat) := []
noncomputable def c4b (b : Bool) (x1 x2 x3 : Int) (x4 : ByteArray) (x5 x6 : Int) : ASt := ⟨⟨10, 44, [(so vp),(sa 2447 0),(so (.int .i64 x5)),(so (.int .i64 x2)),(so (.int .i64 x3)),no,no,no,no,no,(si 0),no,no], [(14,(.bool b)),(13,(.int .i64 x2))], [.code (cd 10 [1,0,1]),.code (cd 10 [1,1])], [], .run, .normal, none⟩,
  [⟨3, 125, [(so (vg [(.int .i64 x1),(.int .i64 x2),(.int .i64 x3)])),(so (.string x4)),(so (.int .i64 x5)),(so (.int .i64 x6)),(sa 11 0),no,no,no,sf,(so vp),(sa 2447 0),(si 0),(si 1),(si 0),(si 1),(si 0),sf,(si 0),(si 1)], [(70,(.int .i64 x3)),(69,(va 11 2)),(68,(.int .i64 x2)),(67,(va 11 1)),(66,(.int .i64 x5)),(65,(va 2447 0)),(64,vp),(63,vt),(62,vt),(61,vt),(60,(vi 1)),(59,vt),(58,vt),(57,vt),(56,vf),(55,vt),(54,vt),(53,vt),(52,(vi 1)),(51,vt),(50,vt),(49,(vi 1)),(48,(vi 1)),(47,(vi 0)),(42,(vq [(vi 0),(vi 1)])),(46,(vq [(vi 0),(vi 1)]))], [iR (cd 3 [1,1,1,1,1,1,1,1,0]) 22,.code Code.ret], [], .run, .normal, none⟩],
  ⟨tput (h4b x1 x2 x3 x4 x5 x6), 2448, tput g4b⟩⟩
noncomputable def s4b (x1 x2 x3 : Int) (x4 : ByteArray) (x5 x6 : Int) : ASt := c4b (iLeQ (.ofNat 3) x2) x1 x2 x3 x4 x5 x6
noncomputable def h5 (x1 x2 x3 : Int) (_x4 : ByteArray) (_x5 _x6 : Int) : List (Nat × AObj) := [(0,gl0),
(11,ob [(.int .i64 x1),(.int .i64 x2),(.int .i64 x3)]),
(2446,.map [] 0),
(2447,ob [(vi 0),vn,vn,(.map (some 2446)),vt])]
def g5 : List (Nat × List Nat) := []
noncomputable def s5 (x1 x2 x3 : Int) (x4 : ByteArray) (x5 x6 : Int) : ASt := ⟨⟨3, 125, [(so (vg [(.int .i64 x1),(.int .i64 x2),(.int .i64 x3)])),(so (.string x4)),(so (.int .i64 x5)),(so (.int .i64 x6)),(sa 11 0),no,no,no,sf,(so vp),(sa 2447 0),(si 0),(si 1),(si 0),(si 1),(si 0),sf,(si 0),(si 1)], [(71,(vi 1)),(70,(.int .i64 x3)),(69,(va 11 2)),(68,(.int .i64 x2)),(67,(va 11 1)),(66,(.int .i64 x5)),(65,(va 2447 0)),(64,vp),(63,vt),(62,vt),(61,vt),(60,(vi 1)),(59,vt),(58,vt),(57,vt),(56,vf),(55,vt),(54,vt),(53,vt),(52,(vi 1)),(51,vt),(50,vt),(49,(vi 1)),(48,(vi 1)),(47,(vi 0)),(42,(vq [(vi 0),(vi 1)])),(46,(vq [(vi 0),(vi 1)]))], [iR (cd 3 [1,1,1,1,1,1,1,1,0]) 23,.code Code.ret], [], .run, .normal, none⟩,
  [],
  ⟨tput (h5 x1 x2 x3 x4 x5 x6), 2448, tput g5⟩⟩
theorem e5w0 (x1 x2 x3 : Int) (x4 : ByteArray) (x5 x6 : Int) : gcS (keys (h5 x1 x2 x3 x4 x5 x6)) (keys g5) 2448 (aruns tab [2,3] (c4b false x1 x2 x3 x4 x5 x6)) = s5 x1 x2 x3 x4 x5 x6 := by kernel_rfl
theorem e5w1 (x1 x2 x3 : Int) (x4 : ByteArray) (x5 x6 : Int) : gcS (keys (h5 x1 x2 x3 x4 x5 x6)) (keys g5) 2448 (aruns tab [2,3] (c4b true x1 x2 x3 x4 x5 x6)) = s5 x1 x2 x3 x4 x5 x6 := by kernel_rfl
theorem run4 (x1 x2 x3 : Int) (x4 : ByteArray) (x5 x6 : Int) (f : FuncId) (v : Value) (k : Fin tab f v (s5 x1 x2 x3 x4 x5 x6)) : Fin tab f v (s4b x1 x2 x3 x4 x5 x6) := .either (fun b => c4b b x1 x2 x3 x4 x5 x6) (iLeQ (.ofNat 3) x2) _ _ _ _ _ (e5w0 x1 x2 x3 x4 x5 x6) (e5w1 x1 x2 x3 x4 x5 x6) (k)
end Go.Proofs.YtnjllcofmkhkoaaGreatDoor.Sim
