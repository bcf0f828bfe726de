/- What is computed, as data, and laws of it. No condition. -/
import Derived.BigQuiet
import Derived.BigRegion
import Derived.ChangeAlike
import Derived.Deep.CutBlock
import Derived.Deep.CutRange
import Derived.Deep.DeepCutAuto
import Derived.Deep.QuietTactic
import Derived.Deep.RegionHeld3
import Derived.IntWalk
import Derived.KernelRfl
import Derived.Lib.Hide
import Derived.RegionTactic
import Derived.StillTailTactics
import Derived.WalkLawsBesides
import Derived.WalkSpells
import Derived.Test.YtbkpmfjfpcoehaaGreatDoorDd
import Derived.Test.YtbkpmfjfpcoehaaGreatDoorProg
namespace Go.Proofs.YtbkpmfjfpcoehaaGreatDoor
open Go Go.RowKit Dw
set_option maxRecDepth 100000
theorem ty3:Yk Tryz.prog 3=some ⟨D Tryz.prog 3,1,8,[.sc (.int .i64 0)],false,false⟩:=by kernel_rfl
theorem D3:D Tryz.prog 3= .int .i64:=by kernel_rfl
theorem ty4:Yk Tryz.prog 4=some ⟨D Tryz.prog 4,1,1,[.sc (.bool false)],false,false⟩:=by kernel_rfl
theorem D4:D Tryz.prog 4= .bool:=by kernel_rfl
theorem ty9:Yk Tryz.prog 9=some ⟨D Tryz.prog 9,1,16,[.sc (.string ⟨#[]⟩)],false,false⟩:=by kernel_rfl
theorem D9:D Tryz.prog 9= .string:=by kernel_rfl
theorem sN:Yk Tryz.prog 22=some ⟨D Tryz.prog 22,1,24,[.sl true 0 []],false,false⟩:=by kernel_rfl
theorem tL:Dw.elemOf (Yk Tryz.prog) 22=some (none,70,⟨D Tryz.prog 70,2,16,[.sc (.int .u64 0), .sc (.int .u64 0)],true,true⟩):=by kernel_rfl
theorem D22:D Tryz.prog 22= .slice 70:=by kernel_rfl
theorem sM:Yk Tryz.prog 23=some ⟨D Tryz.prog 23,1,24,[.sl true 0 []],false,false⟩:=by kernel_rfl
theorem tK:Dw.elemOf (Yk Tryz.prog) 23=some (none,34,⟨D Tryz.prog 34,1,24,[.sl true 0 []],false,false⟩):=by kernel_rfl
theorem D23:D Tryz.prog 23= .slice 34:=by kernel_rfl
theorem sL:Yk Tryz.prog 24=some ⟨D Tryz.prog 24,1,24,[.sl true 0 []],false,false⟩:=by kernel_rfl
theorem tJ:Dw.elemOf (Yk Tryz.prog) 24=some (none,3,⟨D Tryz.prog 3,1,8,[.sc (.int .i64 0)],false,false⟩):=by kernel_rfl
theorem D24:D Tryz.prog 24= .slice 3:=by kernel_rfl
theorem qR:Yk Tryz.prog 26=some ⟨D Tryz.prog 26,4,96,[.sl true 0 [], .sl true 0 [], .sl true 0 [], .sl true 0 []],true,true⟩:=by kernel_rfl
theorem fD:XL (Yk Tryz.prog) 26 0=some (0,⟨D Tryz.prog 22,1,24,[.sl true 0 []],false,false⟩):=by kernel_rfl
theorem fC:XL (Yk Tryz.prog) 26 1=some (1,⟨D Tryz.prog 23,1,24,[.sl true 0 []],false,false⟩):=by kernel_rfl
theorem fA:XL (Yk Tryz.prog) 26 2=some (2,⟨D Tryz.prog 24,1,24,[.sl true 0 []],false,false⟩):=by kernel_rfl
theorem eZ:XL (Yk Tryz.prog) 26 3=some (3,⟨D Tryz.prog 24,1,24,[.sl true 0 []],false,false⟩):=by kernel_rfl
theorem sZ:NH (Yk Tryz.prog) (D Tryz.prog 26)=some [(0,1),(1,1),(2,1),(3,1)]:=by kernel_rfl
theorem tQ(ps:List (Nat×EV)):Jn (Yk Tryz.prog) 26 ps=J0 ⟨D Tryz.prog 26,4,96,[.sl true 0 [], .sl true 0 [], .sl true 0 [], .sl true 0 []],true,true⟩ (fun i=>[(0,1),(1,1),(2,1),(3,1)][i]?) ps:=JL qR sZ ps
theorem sK:Yk Tryz.prog 27=some ⟨D Tryz.prog 27,1,8,[.sc (.int .u64 0)],false,false⟩:=by kernel_rfl
theorem D27:D Tryz.prog 27= .int .u64:=by kernel_rfl
theorem sJ:Yk Tryz.prog 30=some ⟨D Tryz.prog 30,1,8,[.sc (.int .i64 0)],false,false⟩:=by kernel_rfl
theorem D30:D Tryz.prog 30= .int .i64:=by kernel_rfl
theorem sI:Yk Tryz.prog 34=some ⟨D Tryz.prog 34,1,24,[.sl true 0 []],false,false⟩:=by kernel_rfl
theorem tI:Dw.elemOf (Yk Tryz.prog) 34=some (none,38,⟨D Tryz.prog 38,14,152,[.sc (.int .i64 0), .sc (.int .i64 0), .sc (.int .i64 0), .sc (.int .u64 0), .sc (.int .u64 0), .sc (.int .u64 0), .sc (.bool false), .sc (.bool false), .sc (.int .i64 0), .sc (.int .i64 0), .sc (.int .i64 0), .sl true 0 [], .sl true 0 [], .sl true 0 []],true,true⟩):=by kernel_rfl
theorem D34:D Tryz.prog 34= .slice 38:=by kernel_rfl
theorem qQ:Yk Tryz.prog 36=some ⟨D Tryz.prog 36,3,72,[.sl true 0 [], .sl true 0 [], .sl true 0 []],true,true⟩:=by kernel_rfl
theorem eY:XL (Yk Tryz.prog) 36 0=some (0,⟨D Tryz.prog 24,1,24,[.sl true 0 []],false,false⟩):=by kernel_rfl
theorem eX:XL (Yk Tryz.prog) 36 1=some (1,⟨D Tryz.prog 24,1,24,[.sl true 0 []],false,false⟩):=by kernel_rfl
theorem eW:XL (Yk Tryz.prog) 36 2=some (2,⟨D Tryz.prog 24,1,24,[.sl true 0 []],false,false⟩):=by kernel_rfl
theorem sY:NH (Yk Tryz.prog) (D Tryz.prog 36)=some [(0,1),(1,1),(2,1)]:=by kernel_rfl
theorem tP(ps:List (Nat×EV)):Jn (Yk Tryz.prog) 36 ps=J0 ⟨D Tryz.prog 36,3,72,[.sl true 0 [], .sl true 0 [], .sl true 0 []],true,true⟩ (fun i=>[(0,1),(1,1),(2,1)][i]?) ps:=JL qQ sY ps
theorem qP:Yk Tryz.prog 38=some ⟨D Tryz.prog 38,14,152,[.sc (.int .i64 0), .sc (.int .i64 0), .sc (.int .i64 0), .sc (.int .u64 0), .sc (.int .u64 0), .sc (.int .u64 0), .sc (.bool false), .sc (.bool false), .sc (.int .i64 0), .sc (.int .i64 0), .sc (.int .i64 0), .sl true 0 [], .sl true 0 [], .sl true 0 []],true,true⟩:=by kernel_rfl
theorem eV:XL (Yk Tryz.prog) 38 0=some (0,⟨D Tryz.prog 3,1,8,[.sc (.int .i64 0)],false,false⟩):=by kernel_rfl
theorem eU:XL (Yk Tryz.prog) 38 1=some (1,⟨D Tryz.prog 3,1,8,[.sc (.int .i64 0)],false,false⟩):=by kernel_rfl
theorem eT:XL (Yk Tryz.prog) 38 2=some (2,⟨D Tryz.prog 3,1,8,[.sc (.int .i64 0)],false,false⟩):=by kernel_rfl
theorem eS:XL (Yk Tryz.prog) 38 3=some (3,⟨D Tryz.prog 27,1,8,[.sc (.int .u64 0)],false,false⟩):=by kernel_rfl
theorem eR:XL (Yk Tryz.prog) 38 4=some (4,⟨D Tryz.prog 27,1,8,[.sc (.int .u64 0)],false,false⟩):=by kernel_rfl
theorem eQ:XL (Yk Tryz.prog) 38 5=some (5,⟨D Tryz.prog 27,1,8,[.sc (.int .u64 0)],false,false⟩):=by kernel_rfl
theorem eP:XL (Yk Tryz.prog) 38 6=some (6,⟨D Tryz.prog 4,1,1,[.sc (.bool false)],false,false⟩):=by kernel_rfl
theorem eM:XL (Yk Tryz.prog) 38 7=some (7,⟨D Tryz.prog 4,1,1,[.sc (.bool false)],false,false⟩):=by kernel_rfl
theorem eL:XL (Yk Tryz.prog) 38 8=some (8,⟨D Tryz.prog 3,1,8,[.sc (.int .i64 0)],false,false⟩):=by kernel_rfl
theorem eK:XL (Yk Tryz.prog) 38 9=some (9,⟨D Tryz.prog 3,1,8,[.sc (.int .i64 0)],false,false⟩):=by kernel_rfl
theorem Wl:XL (Yk Tryz.prog) 38 10=some (10,⟨D Tryz.prog 3,1,8,[.sc (.int .i64 0)],false,false⟩):=by kernel_rfl
theorem Wk:XL (Yk Tryz.prog) 38 11=some (11,⟨D Tryz.prog 36,3,72,[.sl true 0 [], .sl true 0 [], .sl true 0 []],true,true⟩):=by kernel_rfl
theorem sX:NH (Yk Tryz.prog) (D Tryz.prog 38)=some [(0,1),(1,1),(2,1),(3,1),(4,1),(5,1),(6,1),(7,1),(8,1),(9,1),(10,1),(11,3)]:=by kernel_rfl
theorem tO(ps:List (Nat×EV)):Jn (Yk Tryz.prog) 38 ps=J0 ⟨D Tryz.prog 38,14,152,[.sc (.int .i64 0), .sc (.int .i64 0), .sc (.int .i64 0), .sc (.int .u64 0), .sc (.int .u64 0), .sc (.int .u64 0), .sc (.bool false), .sc (.bool false), .sc (.int .i64 0), .sc (.int .i64 0), .sc (.int .i64 0), .sl true 0 [], .sl true 0 [], .sl true 0 []],true,true⟩ (fun i=>[(0,1),(1,1),(2,1),(3,1),(4,1),(5,1),(6,1),(7,1),(8,1),(9,1),(10,1),(11,3)][i]?) ps:=JL qP sX ps
theorem sH:Yk Tryz.prog 52=some ⟨D Tryz.prog 52,1,24,[.sl true 0 []],false,false⟩:=by kernel_rfl
theorem tH:Dw.elemOf (Yk Tryz.prog) 52=some (none,4,⟨D Tryz.prog 4,1,1,[.sc (.bool false)],false,false⟩):=by kernel_rfl
theorem D52:D Tryz.prog 52= .slice 4:=by kernel_rfl
theorem sG:Yk Tryz.prog 67=some ⟨D Tryz.prog 67,1,8,[.sc .nilFunc],false,false⟩:=by kernel_rfl
theorem jO:Yk Tryz.prog 70=some ⟨D Tryz.prog 70,2,16,[.sc (.int .u64 0), .sc (.int .u64 0)],true,true⟩:=by kernel_rfl
theorem eJ:XL (Yk Tryz.prog) 70 0=some (0,⟨D Tryz.prog 27,1,8,[.sc (.int .u64 0)],false,false⟩):=by kernel_rfl
theorem eI:XL (Yk Tryz.prog) 70 1=some (1,⟨D Tryz.prog 27,1,8,[.sc (.int .u64 0)],false,false⟩):=by kernel_rfl
theorem sW:NH (Yk Tryz.prog) (D Tryz.prog 70)=some [(0,1),(1,1)]:=by kernel_rfl
theorem tN(ps:List (Nat×EV)):Jn (Yk Tryz.prog) 70 ps=J0 ⟨D Tryz.prog 70,2,16,[.sc (.int .u64 0), .sc (.int .u64 0)],true,true⟩ (fun i=>[(0,1),(1,1)][i]?) ps:=JL jO sW ps
theorem mK:fO (Yk Tryz.prog) (D Tryz.prog 70)=some [(0,0),(1,0)]:=by kernel_rfl
theorem tG(xs ys:List Cx):eqE (Yk Tryz.prog) 70 xs ys=Ox xs ys [(0,0),(1,0)]:=AZ jO rfl mK xs ys
theorem sF:Yk Tryz.prog 73=some ⟨D Tryz.prog 73,1,8,[.sc (.map none)],false,false⟩:=by kernel_rfl
theorem tC:mapOf (Yk Tryz.prog) 73=some (.int .i64, .sc (.int .i64 0)):=by kernel_rfl
theorem D73:D Tryz.prog 73= .map 3 3:=by kernel_rfl
theorem lD:Yk Tryz.prog 79=some ⟨D Tryz.prog 79,4,32,[.sc (.bool false), .sc (.int .i64 0), .sc (.int .i64 0), .sc (.int .i64 0)],true,true⟩:=by kernel_rfl
theorem eH:XL (Yk Tryz.prog) 79 0=some (0,⟨D Tryz.prog 4,1,1,[.sc (.bool false)],false,false⟩):=by kernel_rfl
theorem eG:XL (Yk Tryz.prog) 79 1=some (1,⟨D Tryz.prog 3,1,8,[.sc (.int .i64 0)],false,false⟩):=by kernel_rfl
theorem eF:XL (Yk Tryz.prog) 79 2=some (2,⟨D Tryz.prog 3,1,8,[.sc (.int .i64 0)],false,false⟩):=by kernel_rfl
theorem eE:XL (Yk Tryz.prog) 79 3=some (3,⟨D Tryz.prog 3,1,8,[.sc (.int .i64 0)],false,false⟩):=by kernel_rfl
theorem sU:NH (Yk Tryz.prog) (D Tryz.prog 79)=some [(0,1),(1,1),(2,1),(3,1)]:=by kernel_rfl
theorem tM(ps:List (Nat×EV)):Jn (Yk Tryz.prog) 79 ps=J0 ⟨D Tryz.prog 79,4,32,[.sc (.bool false), .sc (.int .i64 0), .sc (.int .i64 0), .sc (.int .i64 0)],true,true⟩ (fun i=>[(0,1),(1,1),(2,1),(3,1)][i]?) ps:=JL lD sU ps
theorem mJ:fO (Yk Tryz.prog) (D Tryz.prog 79)=some [(0,1),(1,0),(2,0),(3,0)]:=by kernel_rfl
theorem tF(xs ys:List Cx):eqE (Yk Tryz.prog) 79 xs ys=Ox xs ys [(0,1),(1,0),(2,0),(3,0)]:=AZ lD rfl mJ xs ys
theorem sE:Yk Tryz.prog 82=some ⟨D Tryz.prog 82,1,8,[.sc (.map none)],false,false⟩:=by kernel_rfl
theorem tB:mapOf (Yk Tryz.prog) 82=some (.int .u64, .sc (.int .i64 0)):=by kernel_rfl
theorem D82:D Tryz.prog 82= .map 27 3:=by kernel_rfl
theorem sD:Yk Tryz.prog 99=some ⟨D Tryz.prog 99,1,4,[.sc (.int .u32 0)],false,false⟩:=by kernel_rfl
theorem D99:D Tryz.prog 99= .int .u32:=by kernel_rfl
theorem cT:Yk Tryz.prog 116=some ⟨D Tryz.prog 116,5,120,[.sl true 0 [], .sl true 0 [], .sl true 0 [], .sl true 0 [], .sl true 0 []],true,true⟩:=by kernel_rfl
theorem Wz:XL (Yk Tryz.prog) 116 0=some (0,⟨D Tryz.prog 26,4,96,[.sl true 0 [], .sl true 0 [], .sl true 0 [], .sl true 0 []],true,true⟩):=by kernel_rfl
theorem Wy:XL (Yk Tryz.prog) 116 1=some (4,⟨D Tryz.prog 34,1,24,[.sl true 0 []],false,false⟩):=by kernel_rfl
theorem lJ:NH (Yk Tryz.prog) (D Tryz.prog 116)=some [(0,4),(4,1)]:=by kernel_rfl
theorem mV(ps:List (Nat×EV)):Jn (Yk Tryz.prog) 116 ps=J0 ⟨D Tryz.prog 116,5,120,[.sl true 0 [], .sl true 0 [], .sl true 0 [], .sl true 0 [], .sl true 0 []],true,true⟩ (fun i=>[(0,4),(4,1)][i]?) ps:=JL cT lJ ps
theorem lF:Yk Tryz.prog 121=some ⟨D Tryz.prog 121,1,24,[.sl true 0 []],false,false⟩:=by kernel_rfl
theorem mO:Dw.elemOf (Yk Tryz.prog) 121=some (none,123,⟨D Tryz.prog 123,2,16,[.sc (.int .i64 0), .sc (.int .i64 0)],true,false⟩):=by kernel_rfl
theorem tX:D Tryz.prog 121= .slice 123:=by kernel_rfl
theorem cS:Yk Tryz.prog 123=some ⟨D Tryz.prog 123,2,16,[.sc (.int .i64 0), .sc (.int .i64 0)],true,false⟩:=by kernel_rfl
theorem mN:Dw.elemOf (Yk Tryz.prog) 123=some (some 2,3,⟨D Tryz.prog 3,1,8,[.sc (.int .i64 0)],false,false⟩):=by kernel_rfl
theorem rB:D Tryz.prog 123= .array 2 3:=by kernel_rfl
theorem lE:Yk Tryz.prog 127=some ⟨D Tryz.prog 127,1,8,[.sc (.int .u64 0)],false,false⟩:=by kernel_rfl
theorem tW:D Tryz.prog 127= .int .u64:=by kernel_rfl
theorem cR:Yk Tryz.prog 130=some ⟨D Tryz.prog 130,1,8,[.sc (.int .u64 0)],false,false⟩:=by kernel_rfl
theorem tV:D Tryz.prog 130= .int .u64:=by kernel_rfl
theorem cQ:Yk Tryz.prog 167=some ⟨D Tryz.prog 167,7,56,[.sc (.int .u64 0), .sc (.int .u64 0), .sc (.int .u64 0), .sc (.int .u64 0), .sc (.int .u64 0), .sc (.int .u64 0), .sc (.int .u64 0)],true,false⟩:=by kernel_rfl
theorem mM:Dw.elemOf (Yk Tryz.prog) 167=some (some 7,130,⟨D Tryz.prog 130,1,8,[.sc (.int .u64 0)],false,false⟩):=by kernel_rfl
theorem rA:D Tryz.prog 167= .array 7 130:=by kernel_rfl
theorem C4:Yk Tryz.prog 236=some ⟨D Tryz.prog 236,11,80,[.sc (.int .i64 0), .sc (.int .i64 0), .sc (.int .i64 0), .sc (.int .i64 0), .sc (.int .i64 0), .sc (.int .i64 0), .sc (.int .u64 0), .sc (.int .u64 0), .sc (.int .u64 0), .sc (.bool false), .sc (.bool false)],true,true⟩:=by kernel_rfl
theorem Wx:XL (Yk Tryz.prog) 236 0=some (0,⟨D Tryz.prog 3,1,8,[.sc (.int .i64 0)],false,false⟩):=by kernel_rfl
theorem Ww:XL (Yk Tryz.prog) 236 1=some (1,⟨D Tryz.prog 3,1,8,[.sc (.int .i64 0)],false,false⟩):=by kernel_rfl
theorem Wv:XL (Yk Tryz.prog) 236 2=some (2,⟨D Tryz.prog 3,1,8,[.sc (.int .i64 0)],false,false⟩):=by kernel_rfl
theorem Wu:XL (Yk Tryz.prog) 236 3=some (3,⟨D Tryz.prog 3,1,8,[.sc (.int .i64 0)],false,false⟩):=by kernel_rfl
theorem Ws:XL (Yk Tryz.prog) 236 4=some (4,⟨D Tryz.prog 3,1,8,[.sc (.int .i64 0)],false,false⟩):=by kernel_rfl
theorem Wr:XL (Yk Tryz.prog) 236 5=some (5,⟨D Tryz.prog 3,1,8,[.sc (.int .i64 0)],false,false⟩):=by kernel_rfl
theorem Wq:XL (Yk Tryz.prog) 236 6=some (6,⟨D Tryz.prog 27,1,8,[.sc (.int .u64 0)],false,false⟩):=by kernel_rfl
theorem Wo:XL (Yk Tryz.prog) 236 7=some (7,⟨D Tryz.prog 27,1,8,[.sc (.int .u64 0)],false,false⟩):=by kernel_rfl
theorem Wn:XL (Yk Tryz.prog) 236 8=some (8,⟨D Tryz.prog 27,1,8,[.sc (.int .u64 0)],false,false⟩):=by kernel_rfl
theorem Wm:XL (Yk Tryz.prog) 236 9=some (9,⟨D Tryz.prog 4,1,1,[.sc (.bool false)],false,false⟩):=by kernel_rfl
theorem On:XL (Yk Tryz.prog) 236 10=some (10,⟨D Tryz.prog 4,1,1,[.sc (.bool false)],false,false⟩):=by kernel_rfl
theorem lI:NH (Yk Tryz.prog) (D Tryz.prog 236)=some [(0,1),(1,1),(2,1),(3,1),(4,1),(5,1),(6,1),(7,1),(8,1),(9,1),(10,1)]:=by kernel_rfl
theorem mS(ps:List (Nat×EV)):Jn (Yk Tryz.prog) 236 ps=J0 ⟨D Tryz.prog 236,11,80,[.sc (.int .i64 0), .sc (.int .i64 0), .sc (.int .i64 0), .sc (.int .i64 0), .sc (.int .i64 0), .sc (.int .i64 0), .sc (.int .u64 0), .sc (.int .u64 0), .sc (.int .u64 0), .sc (.bool false), .sc (.bool false)],true,true⟩ (fun i=>[(0,1),(1,1),(2,1),(3,1),(4,1),(5,1),(6,1),(7,1),(8,1),(9,1),(10,1)][i]?) ps:=JL C4 lI ps
theorem fN:fO (Yk Tryz.prog) (D Tryz.prog 236)=some [(0,0),(1,0),(2,0),(3,0),(4,0),(5,0),(6,0),(7,0),(8,0),(9,1),(10,1)]:=by kernel_rfl
theorem mL(xs ys:List Cx):eqE (Yk Tryz.prog) 236 xs ys=Ox xs ys [(0,0),(1,0),(2,0),(3,0),(4,0),(5,0),(6,0),(7,0),(8,0),(9,1),(10,1)]:=AZ C4 rfl fN xs ys
theorem mU(ps:List (Nat×EV)):Jn (Yk Tryz.prog) 123 ps=J0 ⟨D Tryz.prog 123,2,16,[.sc (.int .i64 0), .sc (.int .i64 0)],true,false⟩ (fun i=>some (i*1,1)) ps:=Pv cS rB ty3 ps
theorem mT(ps:List (Nat×EV)):Jn (Yk Tryz.prog) 167 ps=J0 ⟨D Tryz.prog 167,7,56,[.sc (.int .u64 0), .sc (.int .u64 0), .sc (.int .u64 0), .sc (.int .u64 0), .sc (.int .u64 0), .sc (.int .u64 0), .sc (.int .u64 0)],true,false⟩ (fun i=>some (i*1,1)) ps:=Pv cQ rA cR ps
end Go.Proofs.YtbkpmfjfpcoehaaGreatDoor
namespace Go.Proofs.YtbkpmfjfpcoehaaGreatDoor
open Go Go.RowKit
set_option maxRecDepth 100000
section
theorem add_block(a:Addr)(n:Nat):(a.add n).block=a.block:=by unfold Addr.add;split<;>rfl
theorem add_add'(a:Addr)(i j:Nat):(a.add i).add j=a.add (i+j):=by
 unfold Addr.add;by_cases hi:i=0<;>by_cases hj:j=0<;>simp[hi,hj,di]
def Kept(B:Nat)(w w':World):Prop:=∀p:Addr,p.block<B→w'.cell? p=w.cell? p
theorem GU{B B':Nat}{w w1:World}(h:Below B w w1)(hb:B'≤B):Kept B' w w1:=fun _ hp=>h.cell (bq hp hb)
def Rd(w:World)(B sz:Nat)(A:Option Addr)(n:Nat)(f:Nat→List Value):Prop:=
 ∀i,i<n→∃a,A=some a∧a.block<B∧∀(j:Nat) (u:Value),(f i)[j]? =some u→w.cell? (a.add (i*sz+j))=some u
section
variable {w w':World} {B B' sz n:Nat} {A:Option Addr} {f:Nat→List Value}
theorem Rd.keep(h:Rd w B sz A n f)(k:Kept B w w'):Rd w' B sz A n f:=fun i hi=>by
 obtain⟨a,e,hb,hc⟩:=h i hi;exact⟨a,e,hb,fun j u hu=>(k _ (by rw[add_block];exact hb)).trans (hc j u hu)⟩
theorem Rd.more(h:Rd w B sz A n f)(hB:B≤B'):Rd w B' sz A n f:=fun i hi=>by
 obtain⟨a,e,hb,hc⟩:=h i hi;exact⟨a,e,by omega,hc⟩
end
def PE(w:World)(B:Nat)(A:Option Addr)(xs:List Int):Prop:=Rd w B 1 A xs.length fun i=>[.int .i64 (xs.getD i 0)]
theorem PE.at_{w:World}{B:Nat}{A:Option Addr}{xs:List Int}(h:PE w B A xs){i:Nat}(hi:i<xs.length):
  ∃a,A=some a∧a.block<B∧w.cell? (a.add i)=some (.int .i64 (xs.getD i 0)):=by
 obtain⟨a,e,hb,hc⟩:=h i hi;exact⟨a,e,hb,by have:=hc 0 _ rfl;simpa using this⟩
theorem PE.keep{w w':World}{B:Nat}{A:Option Addr}{xs:List Int}(h:PE w B A xs)(k:Kept B w w'):PE w' B A xs:=Rd.keep h k
theorem PE.more{w:World}{B B':Nat}{A:Option Addr}{xs:List Int}(h:PE w B A xs)(k:B≤B'):PE w B' A xs:=Rd.more h k
theorem S1{w w1:World}{A:Option Addr}{xs:List Int}(h:PE w w.heap.size A xs)(b:Below w.heap.size w w1):PE w1 w1.heap.size A xs:=(h.keep (GU b (ak _))).more b.size
def Box(w:World)(g:Nat)(cs:Array Value):Prop:=g<w.heap.size∧∀o,w.cell? ⟨g,o,none⟩=cs[o]?
theorem Box.new(w:World)(cs:Array Value)(t:TypeId):Box (w.alloc (.cells cs t)) w.heap.size cs:=
 ⟨by simp,fun o=>by simp⟩
theorem Box.below{w w':World}{g:Nat}{cs:Array Value}(h:Box w g cs)(hb:Below w.heap.size w w'):Box w' g cs:=
 ⟨bq h.1 hb.size,fun o=>(hb.cell (p:=⟨g,o,none⟩) h.1).trans (h.2 o)⟩
theorem mW{B:Nat}{w w1 w2:World}(h:Below B w w1)(hb:Below w1.heap.size w1 w2)(hB:B≤w.heap.size):Below B w w2:=
 h.trans (hb.mono (bd hB h.size))
end
structure Ev where
 hart:Int
 pos:Int
 kind:Int
 addr:Int
 load:Int
 store:Int
 aq:Bool
 rl:Bool
 pred:Int
 succ:Int
 pair:Int
 da:List Int
 dd:List Int
 dw:List Int
instance:Inhabited Ev:=⟨⟨0,0,0,0,0,0,false,false,0,0,0,[],[],[]⟩⟩
structure tU where
 (A1 A2 A3:Option Addr)
 (c1 c2 c3:Nat)
structure Cd where
 first:List (Int×Int)
 harts:List (List Ev)
 from_:List Int
 order:List Int
end Go.Proofs.YtbkpmfjfpcoehaaGreatDoor
namespace Go.Proofs.YtbkpmfjfpcoehaaGreatDoor
open Go Go.RowKit Dw
set_option maxRecDepth 100000
structure Ez where
 e:Ev
 (z1 z2 z3:Bool)
instance:Inhabited Ez:=⟨⟨default,true,true,true⟩⟩
def Ez.cv(x:Ez):List Cv:=[.sc (.int .i64 x.e.hart), .sc (.int .i64 x.e.pos), .sc (.int .i64 x.e.kind), .sc (.int .u64 x.e.addr), .sc (.int .u64 x.e.load), .sc (.int .u64 x.e.store), .sc (.bool x.e.aq), .sc (.bool x.e.rl), .sc (.int .i64 x.e.pred), .sc (.int .i64 x.e.succ), .sc (.int .i64 x.e.pair), .sl x.z1 1 (Xj x.e.da), .sl x.z2 1 (Xj x.e.dd), .sl x.z3 1 (Xj x.e.dw)]
def evV(x:Ez):EV:= .agg [.c (.sc (.int .i64 x.e.hart)), .c (.sc (.int .i64 x.e.pos)), .c (.sc (.int .i64 x.e.kind)), .c (.sc (.int .u64 x.e.addr)), .c (.sc (.int .u64 x.e.load)), .c (.sc (.int .u64 x.e.store)), .c (.sc (.bool x.e.aq)), .c (.sc (.bool x.e.rl)), .c (.sc (.int .i64 x.e.pred)), .c (.sc (.int .i64 x.e.succ)), .c (.sc (.int .i64 x.e.pair)), .c (.sl x.z1 1 (Xj x.e.da)), .c (.sl x.z2 1 (Xj x.e.dd)), .c (.sl x.z3 1 (Xj x.e.dw))]
def unS(z:Bool)(n:Nat)(l:List (List Cv)):Option (List Int):=if n=1 then unI l else match z,l with|true,[]=>some []|_,_=>none
theorem EY{z:Bool}{n:Nat}{l:List (List Cv)}{xs:List Int}(h:unS z n l=some xs){w:World}{N:Nat→Prop}{u:Value}(hu:XH w N (.sl z n l) u):XH w N (.sl z 1 (Xj xs)) u:=by
 unfold unS at h;split at h
 ·rename_i e;subst e;rw[←Yz h];exact hu
 ·split at h
  ·injection h with h;subst h;cases hu;exact .nil
  ·cases h
def Leq(v v':EV):Prop:=∀w N u,XY w N noB v u→XY w N noB v' u
theorem Leq.refl(v:EV):Leq v v:=fun _ _ _ h=>h
theorem SO{xs xs':List Cx}(h:Yx (fun x x'=>∀w N u,Yq w N noB x u→Yq w N noB x' u) xs xs'):Leq (.agg xs) (.agg xs'):=by
 intro w N u hu;cases hu with|agg hu=>
 refine .agg ⟨h.1.symm.trans hu.1,fun i x y hx hy=>?_⟩;have hi:i<xs.length:=by rw[h.1];exact(ah.1 hx).1
 exact h.2 i _ _ (aa hi) hx w N y (hu.2 i _ _ (aa hi) hy)
theorem Yp{P:Program}{f:FuncId}{vs vs':List EV}{r:Yw}(h:Yx Leq vs vs')(k:Xq P f vs' r):Xq P f vs r:=by
 intro M w us hM hu;refine k M w us hM ⟨h.1.symm.trans hu.1,fun i x y hx hy=>?_⟩;have hi:i<vs.length:=by rw[h.1];exact(ah.1 hx).1
 exact h.2 i _ _ (aa hi) hx _ _ y (hu.2 i _ _ (aa hi) hy)
def X2(v:EV):Option Ez:=match v with
 | .agg [.c (.sc (.int .i64 h)), .c (.sc (.int .i64 a)), .c (.sc (.int .i64 k)), .c (.sc (.int .u64 x)), .c (.sc (.int .u64 y)), .c (.sc (.int .u64 z)), .c (.sc (.bool p)), .c (.sc (.bool q)), .c (.sc (.int .i64 c)), .c (.sc (.int .i64 d)), .c (.sc (.int .i64 e)), .c (.sl z1 e1 l1), .c (.sl z2 e2 l2), .c (.sl z3 e3 l3)]=>
  (match unS z1 e1 l1,unS z2 e2 l2,unS z3 e3 l3 with
   |some m1,some m2,some m3=>some ⟨⟨h,a,k,x,y,z,p,q,c,d,e,m1,m2,m3⟩,z1,z2,z3⟩
   |_,_,_=>none)
 |_=>none
theorem Kd{v:EV}{x:Ez}(h:X2 v=some x):Leq v (evV x):=by
 unfold X2 at h;split at h
 ·split at h
  ·rename_i m1 m2 m3 h1 h2 h3;injection h with h;subst h;have o:∀(c:Cx),∀(w:World) (N:Nat→Prop) (u:Value),Yq w N noB c u→Yq w N noB c u:=fun _ _ _ _ h=>h;exact SO (.cons (o _) (.cons (o _) (.cons (o _) (.cons (o _) (.cons (o _) (.cons (o _) (.cons (o _) (.cons (o _) (.cons (o _) (.cons (o _) (.cons (o _) (.cons (fun _ _ _ h=>EY h1 h) (.cons (fun _ _ _ h=>EY h2 h) (.cons (fun _ _ _ h=>EY h3 h) .nil))))))))))))))
  ·cases h
 ·cases h
def XS(l:List Ez):List (List Cv):=l.map Ez.cv
theorem Xe(l:List Ez):(XS l).length=l.length:=by simp[XS]
theorem Xd{l:List Ez}{i:Nat}(h:i<(XS l).length):(XS l)[i]'h=(l[i]'(by simpa[XS]using h)).cv:=by simp[XS]
def Y1(l:List (Int×Int)):List (List Cv):=l.map fun p=>[.sc (.int .u64 p.1), .sc (.int .u64 p.2)]
theorem XD(l:List (Int×Int)):(Y1 l).length=l.length:=by simp[Y1]
theorem XC{l:List (Int×Int)}{i:Nat}(h:i<(Y1 l).length):(Y1 l)[i]'h=[.sc (.int .u64 (l[i]'(by simpa[Y1]using h)).1), .sc (.int .u64 (l[i]'(by simpa[Y1]using h)).2)]:=by simp[Y1]
structure Cz where
 f:List (Int×Int)
 hs:List (Bool×List Ez)
 fr:List Int
 od:List Int
 (z1 z2 z3 z4:Bool)
def Xw(hs:List (Bool×List Ez)):List (List Cv):=hs.map fun p=>[.sl p.1 14 (XS p.2)]
def Cz.cv(c:Cz):List Cv:=[.sl c.z1 2 (Y1 c.f), .sl c.z2 1 (Xw c.hs), .sl c.z3 1 (Xj c.fr), .sl c.z4 1 (Xj c.od)]
def X9(c:Cz):EV:= .agg [.c (.sl c.z1 2 (Y1 c.f)), .c (.sl c.z2 1 (Xw c.hs)), .c (.sl c.z3 1 (Xj c.fr)), .c (.sl c.z4 1 (Xj c.od))]
theorem Xm(l:List (Bool×List Ez)):(Xw l).length=l.length:=by simp[Xw]
theorem Xs{l:List (Bool×List Ez)}{i:Nat}(h:i<(Xw l).length):(Xw l)[i]'h=[.sl (l[i]'(by simpa[Xw]using h)).1 14 (XS (l[i]'(by simpa[Xw]using h)).2)]:=by simp[Xw]
def MY:List Cv→Option Ez
 |[.sc (.int .i64 h), .sc (.int .i64 a), .sc (.int .i64 k), .sc (.int .u64 x), .sc (.int .u64 y), .sc (.int .u64 z), .sc (.bool p), .sc (.bool q), .sc (.int .i64 c), .sc (.int .i64 d), .sc (.int .i64 e), .sl z1 1 l1, .sl z2 1 l2, .sl z3 1 l3]=>
  (match unI l1,unI l2,unI l3 with
   |some m1,some m2,some m3=>some ⟨⟨h,a,k,x,y,z,p,q,c,d,e,m1,m2,m3⟩,z1,z2,z3⟩
   |_,_,_=>none)
 |_=>none
theorem DW{l:List Cv}{x:Ez}(h:MY l=some x):l=x.cv:=by
 unfold MY at h;split at h
 ·split at h
  ·rename_i m1 m2 m3 h1 h2 h3;injection h with h;subst h;simp only[Ez.cv,←Yz h1,←Yz h2,←Yz h3]
  ·cases h
 ·cases h
theorem DX(x:Ez):MY x.cv=some x:=by simp[MY,Ez.cv,Xa]
def F9:List (List Cv)→Option (List Ez)
 |[]=>some []
 |a::r=>(match MY a,F9 r with|some x,some l=>some (x::l)|_,_=>none)
theorem X4(l:List Ez):F9 (XS l)=some l:=by
 induction l with
 |nil=>rfl
 |cons a r ih=>simp only[XS,ft,F9,DX]at*;rw[ih]
theorem VC{els:List (List Cv)}{xs:List Ez}(h:F9 els=some xs):els=XS xs:=by
 induction els generalizing xs with
 |nil=>injection h with h;subst h;rfl
 |cons a r ih=>
  simp only[F9]at h;split at h
  ·rename_i x l h1 h2;injection h with h;subst h;rw[ih h2,DW h1];rfl
  ·cases h
abbrev cA(c:Cz):EV:= .ep 4 [[.sl c.z1 2 (Y1 c.f), .sl c.z2 1 (Xw c.hs), .sl c.z3 1 (Xj c.fr), .sl c.z4 1 (Xj c.od)]] 0 0
abbrev cB(c:Cz):List Cx:=[.c (.sl c.z1 2 (Y1 c.f)), .c (.sl c.z2 1 (Xw c.hs)), .c (.sl c.z3 1 (Xj c.fr)), .c (.sl c.z4 1 (Xj c.od))]
abbrev cV(c:Cz)(z:Bool)(l:List Ez):List Cx:=[.c (.sl c.z1 2 (Y1 c.f)), .c (.sl c.z2 1 (Xw c.hs)), .c (.sl c.z3 1 (Xj c.fr)), .c (.sl c.z4 1 (Xj c.od)), .c (.sl z 14 (XS l))]
abbrev zB:OB:= .box [.c (.sl true 0 []), .c (.sl true 0 []), .c (.sl true 0 []), .c (.sl true 0 [])]
abbrev jB:OB:= .box [.c (.sc (.bool false)), .c (.sc (.int .i64 0)), .c (.sc (.int .i64 0)), .c (.sc (.int .i64 0))]
abbrev eB(x:Ez):List Cx:=[.c (.sc (.int .i64 x.e.hart)), .c (.sc (.int .i64 x.e.pos)), .c (.sc (.int .i64 x.e.kind)), .c (.sc (.int .u64 x.e.addr)), .c (.sc (.int .u64 x.e.load)), .c (.sc (.int .u64 x.e.store)), .c (.sc (.bool x.e.aq)), .c (.sc (.bool x.e.rl)), .c (.sc (.int .i64 x.e.pred)), .c (.sc (.int .i64 x.e.succ)), .c (.sc (.int .i64 x.e.pair)), .c (.sl x.z1 1 (Xj x.e.da)), .c (.sl x.z2 1 (Xj x.e.dd)), .c (.sl x.z3 1 (Xj x.e.dw))]
abbrev eA(x:Ez):EV:= .ep 14 [[.sc (.int .i64 x.e.hart), .sc (.int .i64 x.e.pos), .sc (.int .i64 x.e.kind), .sc (.int .u64 x.e.addr), .sc (.int .u64 x.e.load), .sc (.int .u64 x.e.store), .sc (.bool x.e.aq), .sc (.bool x.e.rl), .sc (.int .i64 x.e.pred), .sc (.int .i64 x.e.succ), .sc (.int .i64 x.e.pair), .sl x.z1 1 (Xj x.e.da), .sl x.z2 1 (Xj x.e.dd), .sl x.z3 1 (Xj x.e.dw)]] 0 0
end Go.Proofs.YtbkpmfjfpcoehaaGreatDoor
namespace Go.Proofs.YtbkpmfjfpcoehaaGreatDoor
open Go Go.RowKit
set_option maxRecDepth 100000
def XE(k:Int):Bool:=decide (k=1∨k=3∨k=5)
def Xt(k:Int):Bool:=decide (k=2∨k=4∨k=5)
def K9(k:Int):Bool:=XE k||Xt k
def Ev.reads(e:Ev):Bool:=XE e.kind
def Ev.writes(e:Ev):Bool:=Xt e.kind
def Ev.mem(e:Ev):Bool:=K9 e.kind
end Go.Proofs.YtbkpmfjfpcoehaaGreatDoor
namespace Go.Proofs.YtbkpmfjfpcoehaaGreatDoor
open Go Go.RowKit Dw
set_option maxRecDepth 100000
attribute [simp] EP Jf V5 opE VI evO aG OX aE aF gD Dw.look Dw.put Dw.setD Dw.kJ shI kH kI unE OJ Jx qk NI H3 Hs X7 ID Pj ZN Um Zh Hg EM EC aH U4 N3 ZG fnE ER De Gt Z6 SP MO CB VH NA bQ RW jP JG jN lC Qi fS F6 chunks Dw.unC CS UH Je Rn Ec Ed Gz Ps B3 refs J0 UR over Ox eqC cj fb List.all_cons List.all_nil ty3 D3 ty4 D4 ty9 D9 sN tL D22 sM tK D23 sL tJ D24 qR fD fC fA eZ tQ sK D27 sJ D30 sI tI D34 qQ eY eX eW tP qP eV eU eT eS eR eQ eP eM eL eK Wl Wk tO sH tH D52 sG jO eJ eI tN tG sF tC D73 lD eH eG eF eE tM tF sE tB D82 sD D99 cT Wz Wy mV lF mO tX cS mN rB lE tW cR tV cQ mM rA C4 Wx Ww Wv Wu Ws Wr Wq Wo Wn Wm On mS mL mU mT lW lV lU lT lS lR lQ V8 MU Me rdL rdG rdO Lr Zi Gq Qa Dw.del Qz XW XG Gx CU PS cW Uh FM UV RO UU RN inH Nu Nv Lp Dj
theorem QE(x:Ez):Xq Tryz.prog 29 [evV x] (.val (bV x.e.reads)):=by
 generalize hR:x.e.reads=R;unfold evV;refine Xk (rs:=[.tmp 2]) (Xl _) Tryz.func29 rfl Tryz.ntmps29 rfl (by simp) ?_;by_cases h1:x.e.kind=1
 ·refine Wa Xb fun K J=>?_;simp[h1];apply J;clear J K;refine Wa Xb fun K J=>?_;simp;apply J;clear J K;refine Wp.ret ?_;simp;rw[←hR];simp[Ev.reads,XE,h1]
 ·by_cases h3:x.e.kind=3
  ·refine Wa Xb fun K J=>?_;simp[h3];apply J;clear J K;refine Wa Xb fun K J=>?_;simp;apply J;clear J K;refine Wp.ret ?_;simp;rw[←hR];simp[Ev.reads,XE,h3]
  ·refine Wa Xb fun K J=>?_;simp;apply J;clear J K;refine Wa Xb fun K J=>?_;simp[h1,h3];apply J;clear J K;refine Wp.ret ?_;simp;rw[←hR];simp[Ev.reads,XE,h1,h3]
theorem Bo(x:Ez):Xq Tryz.prog 30 [evV x] (.val (bV x.e.writes)):=by
 generalize hR:x.e.writes=R;unfold evV;refine Xk (rs:=[.tmp 2]) (Xl _) Tryz.func30 rfl Tryz.ntmps30 rfl (by simp) ?_;by_cases h1:x.e.kind=2
 ·refine Wa Xb fun K J=>?_;simp[h1];apply J;clear J K;refine Wa Xb fun K J=>?_;simp;apply J;clear J K;refine Wp.ret ?_;simp;rw[←hR];simp[Ev.writes,Xt,h1]
 ·by_cases h3:x.e.kind=4
  ·refine Wa Xb fun K J=>?_;simp[h3];apply J;clear J K;refine Wa Xb fun K J=>?_;simp;apply J;clear J K;refine Wp.ret ?_;simp;rw[←hR];simp[Ev.writes,Xt,h3]
  ·refine Wa Xb fun K J=>?_;simp;apply J;clear J K;refine Wa Xb fun K J=>?_;simp[h1,h3];apply J;clear J K;refine Wp.ret ?_;simp;rw[←hR];simp[Ev.writes,Xt,h1,h3]
end Go.Proofs.YtbkpmfjfpcoehaaGreatDoor
namespace Go.Proofs.YtbkpmfjfpcoehaaGreatDoor
open Go Go.RowKit
set_option maxRecDepth 100000
def ZQ(l:List Int)(i:Nat):Bool:=decide (0≤l.getD i 0∧(0<i→l.getD (i - 1) 0<l.getD i 0))
def rising(l:List Int):Bool:=(List.range l.length).all (ZQ l)
theorem all_false{n i:Nat}{f:Nat→Bool}(hi:i<n)(h:f i=false):(List.range n).all f=false:=by
 rw[List.all_eq_false];exact⟨i,ay.2 hi,by simp[h]⟩
theorem all_true{n:Nat}{f:Nat→Bool}(h:∀i,i<n→f i=true):(List.range n).all f=true:=by
 rw[ao];exact fun i hi=>h i (ay.1 hi)
theorem YR{P:Nat→Prop}{k:Nat}(h:∀i,i<k→P i)(hk:P k):∀i,i<k+1→P i:=fun i hi=>by
 rcases cp i k with g|g
 ·exact h i g
 ·obtain rfl:i=k:=by omega
  exact hk
def XO(l:List Int)(at_:Int):Bool:=rising l&&(decide (l.length=0)||decide (l.getD (l.length - 1) 0<at_))
def cellAt(l:List (Int×Int))(i:Nat):Bool:=decide (Int.tmod (l.getD i (0,0)).1 8=0∧(0<i→(l.getD (i - 1) (0,0)).1<(l.getD i (0,0)).1))
def KI(l:List (Int×Int)):Bool:=(List.range l.length).all (cellAt l)
def Ks(l:List (Int×Int))(x:Int):Int:=((l.find? fun p=>decide (p.1=x)).map (·.2)).getD 0
theorem FJ{l:List (Int×Int)}{x:Int}(h:∀i,i<l.length→(l.getD i (0,0)).1≠x):Ks l x=0:=by
 have:l.find? (fun p=>decide (p.1=x))=none:=by
  rw[jo];intro p hp;obtain⟨i,hi,rfl⟩:=be hp;have:=h i hi;simpa[ac,aa hi]using this
 simp[Ks,this]
def E5(p:Int)(k:Int):Bool:=decide (p / 2%2=1)&&XE k||decide (p%2=1)&&Xt k
section
structure tT(w:World) where
 val:World
 more:Below w.heap.size w val
instance (w:World):Nonempty (tT w):=⟨⟨w,bg _ _⟩⟩
section
variable {P:Program}
end
end
def inB(l:List Int)(n:Int):Bool:=decide (n∈l)
def Zj(es:List Ev)(a b:Int):Bool:=
 decide (0≤a∧0≤b∧a<es.length∧b<es.length)&&
  (decide ((es.getD a.toNat default).hart=(es.getD b.toNat default).hart∧(es.getD a.toNat default).pos<(es.getD b.toNat default).pos)&&((es.getD a.toNat default).mem&&(es.getD b.toNat default).mem))
def XJ(e:Ev):Bool:=decide (0≤e.hart∧e.hart<8∧0≤e.pos)
def JX(e:Ev):Bool:=decide (e.addr=0∧e.load=0∧e.store=0∧e.aq=false∧e.rl=false∧e.pair=0∧e.da.length+e.dd.length+e.dw.length=0∧0≤e.pred∧e.pred≤15∧0≤e.succ∧e.succ≤15)
def XQ(e:Ev):Bool:=
 decide (Int.tmod e.addr 8=0∧(e.reads=true∨e.load=0)∧(e.writes=true∨e.store=0)∧e.pred=0∧e.succ=0∧((e.kind=1∨e.kind=2)→e.aq=false∧e.rl=false)∧
  (e.kind=4→0≤e.pair∧e.pair<e.pos)∧(e.kind≠4→e.pair=0))&&(XO e.da e.pos&&(XO e.dd e.pos&&(XO e.dw e.pos&&decide (e.writes=true∨e.dd.length=0))))
def Xn(e:Ev):Bool:=XJ e&&(if e.kind=6 then JX e else e.mem&&XQ e)
def Yh(b:Bool):Int:=if b then 0 else 2
def VR(e:Ev):Prop:=e.da.length≤120∧e.dd.length≤120∧e.dw.length≤120
theorem fM(h a x y z:Int)(p q:Bool)(c d e:Int)(da dd dw:List Int):Xn ⟨h,a,4,x,y,z,p,q,c,d,e,da,dd,dw⟩=
  decide ((0≤h∧h<8∧0≤a)∧Int.tmod x 8=0∧y=0∧c=0∧d=0∧(0≤e∧e<a)∧XO da a=true∧XO dd a=true∧XO dw a=true):=by
 rw[eg];simp only[Xn,XJ,XQ];generalize Int.tmod x 8=t;simp[Ev.mem,Ev.reads,Ev.writes,K9,XE,Xt,and_assoc]
def Ie(l:List Ev)(i:Nat):Bool:=
 let e:=l.getD i default
 decide ((l.getD e.pair.toNat default).kind=3∧(l.getD e.pair.toNat default).addr=e.addr)&&
  (List.range i).all fun k=>decide ((k:Int)≤e.pair∨(l.getD k default).kind≠3∧(l.getD k default).kind≠4)
def rowAt(hart:Int)(l:List Ev)(i:Nat):Bool:=
 let e:=l.getD i default
 (Xn e&&(decide (e.hart=hart)&&decide (e.pos=i)))&&(decide (e.kind≠4)||Ie l i)
def Z2(hart:Int)(l:List Ev):Bool:=(List.range l.length).all (rowAt hart l)
def Mc(b:Bool):Int:=if b then 0 else 4
def Few(es:List Ev):Prop:=∀i,i<es.length→VR (es.getD i default)
def lH(l:List Ev)(i:Nat):Prop:=(l.getD i default).kind≠3∧(l.getD i default).kind≠4
theorem qh{l:List Ev}{k m j:Nat}{e:Ev}(hj:e.pair=(j:Int))(he:l.getD k default=e)(h1:j<m)(h2:m<k)(h:¬lH l m):Ie l k=false:=by
 rw[Ie,he];simp only[Bool.and_eq_false_iff];refine .inr (all_false h2 (bk ?_));rw[hj];intro g;rcases g with g|g
 ·omega
 ·exact h g
theorem Vz{e:Ev}(h:Xn e=true)(h4:e.kind=4):0≤e.pair∧e.pair<e.pos:=by
 obtain⟨h,a,k,x,y,z,q,r,c,d,pr,da,dd,dw⟩:=e;obtain rfl:k=4:=h4;rw[fM]at h;obtain⟨_,_,_,_,_,h,_⟩:=bo h;exact h
def btw(a b:Nat)(p:Nat→Bool):Bool:=(List.range b).any fun m=>decide (a<m)&&p m
theorem Ul{a b m:Nat}{p:Nat→Bool}(h1:a<m)(h2:m<b)(h:p m=true):btw a b p=true:=by
 unfold btw;rw[List.any_eq_true];exact⟨m,ay.2 h2,by simp[h1,h]⟩
theorem YS{a k:Nat}{p:Nat→Bool}(h:∀m,a<m→m<k→p m=false)(hk:p k=false):∀m,a<m→m<k+1→p m=false:=fun m h1 h2=>by
 rcases cp m k with g|g
 ·exact h m h1 g
 ·obtain rfl:m=k:=by omega
  exact hk
theorem IV{a b:Nat}{p:Nat→Bool}(h:∀m,a<m→m<b→p m=false):btw a b p=false:=by
 unfold btw;rw[List.any_eq_false];intro m hm;by_cases g:a<m
 ·simp[g,h m g (ay.1 hm)]
 ·simp[g]
def p2(es:List Ev)(x:Int)(m:Nat):Bool:=(es.getD m default).writes&&decide ((es.getD m default).addr=x)
def p4(es:List Ev)(j k:Int)(m:Nat):Bool:=decide ((es.getD m default).kind=6)&&(E5 (es.getD m default).pred j&&E5 (es.getD m default).succ k)
def p12(es:List Ev)(k v x:Int)(m:Nat):Bool:=XE k&&(decide (v=m)&&((es.getD m default).writes&&(inB (es.getD m default).da x||inB (es.getD m default).dd x)))
def p13(es:List Ev)(k x:Int)(m:Nat):Bool:=Xt k&&((es.getD m default).mem&&inB (es.getD m default).da x)
def Si(es:List Ev)(fr:List Int)(a b:Nat):Int→Bool
 |1=>(es.getD b default).writes&&decide ((es.getD a default).addr=(es.getD b default).addr)
 |2=>!(btw a b (p2 es (es.getD a default).addr))&&
   ((es.getD a default).reads&&((es.getD b default).reads&&decide ((es.getD a default).addr=(es.getD b default).addr∧fr.getD a 0≠fr.getD b 0)))
 |3=>decide ((es.getD a default).kind=4∨(es.getD a default).kind=5)&&((es.getD b default).reads&&decide (fr.getD b 0=a))
 |4=>btw a b (p4 es (es.getD a default).kind (es.getD b default).kind)
 |5=>(es.getD a default).aq
 |6=>(es.getD b default).rl
 |7=>((es.getD a default).aq||(es.getD a default).rl)&&((es.getD b default).aq||(es.getD b default).rl)
 |8=>decide ((es.getD b default).kind=4∧(es.getD b default).pair=(es.getD a default).pos)
 |9=>inB (es.getD b default).da (es.getD a default).pos
 |10=>inB (es.getD b default).dd (es.getD a default).pos
 |11=>(es.getD b default).writes&&inB (es.getD b default).dw (es.getD a default).pos
 |12=>btw a b (p12 es (es.getD b default).kind (fr.getD b 0) (es.getD a default).pos)
 |13=>btw a b (p13 es (es.getD b default).kind (es.getD a default).pos)
 |_=>false
def KR(es:List Ev)(fr:List Int)(a b:Nat)(r:Int):Bool:=Zj es a b&&Si es fr a b r
structure R9(es:List Ev):Prop where
 n:es.length≤1000
 few:Few es
 sides:∀i,i<es.length→0≤(es.getD i default).pred∧(es.getD i default).pred≤15∧0≤(es.getD i default).succ∧(es.getD i default).succ≤15
end Go.Proofs.YtbkpmfjfpcoehaaGreatDoor
namespace Go.Proofs.YtbkpmfjfpcoehaaGreatDoor
open Go Go.RowKit Dw
set_option maxRecDepth 100000
theorem Ev.eta'(e:Ev):(⟨e.hart,e.pos,e.kind,e.addr,e.load,e.store,e.aq,e.rl,e.pred,e.succ,e.pair,e.da,e.dd,e.dw⟩:Ev)=e:=rfl
def Kb(f:Ev→Bool):List EV→Option (Prop×Yw)
 |[v]=>(match X2 v with|some x=>some (True, .val (bV (f x.e)))|none=>none)
 |_=>none
theorem ZB{f:Ev→Bool}{F:FuncId}(H:∀x,Xq Tryz.prog F [evV x] (.val (bV (f x.e)))):∀vs p r,Kb f vs=some (p,r)→p→Xq Tryz.prog F vs r:=by
 intro vs p r h hp;unfold Kb at h;split at h
 ·split at h
  ·rename_i x hx;simp only[ab,af]at h;obtain⟨rfl,rfl⟩:=h;exact Yp (.cons (Kd hx) .nil) (H x)
  ·cases h
 ·cases h
def se1:Dw.Spec:=Xo 29 (Kb Ev.reads) (Xo 30 (Kb Ev.writes) HH)
theorem Xv:XA Tryz.prog se1:=
 Xp ⟨⟨_,Tryz.func29,rfl,rfl⟩⟩ (ZB QE) (Xp ⟨⟨_,Tryz.func30,rfl,rfl⟩⟩ (ZB Bo) Xb)
theorem HM(x:Ez):Xq Tryz.prog 9 [evV x] (.val (bV x.e.mem)):=by
 have hm:x.e.mem=(x.e.reads||x.e.writes):=rfl;rw[hm];unfold evV;refine Xk (rs:=[.tmp 2]) (Xl _) Tryz.func9 rfl Tryz.ntmps9 rfl (by simp) ?_;cases hr:x.e.reads
 ·refine Wa Xv fun K J=>?_;simp;apply J;clear J K;refine Wa Xv fun K J=>?_;simp[se1,Xo,Kb,X2,unS,Xa,Ev.eta',hr];apply J;clear J K;refine Wp.ret ?_;simp
 ·refine Wa Xv fun K J=>?_;simp;apply J;clear J K;refine Wa Xv fun K J=>?_;simp[se1,Xo,Kb,X2,unS,Xa,Ev.eta',hr];apply J;clear J K;refine Wp.ret ?_;simp
theorem Nr(z:Bool)(xs:List Int)(n:Int)(hn:xs.length≤1000000):Xq Tryz.prog 158 [sV z 1 (Xj xs),iV .i64 n] (.val (bV (inB xs n))):=by
 refine Xk (rs:=[.tmp 4]) (Xl _) Tryz.func158 rfl Tryz.ntmps158 rfl (by simp) ?_;refine Wa Xv fun K J=>?_;simp;apply J;clear J K;refine We fun S Y=>?_;refine Wa Xv fun K J=>?_;simp;apply J;clear J K;refine Wp.block ?_;refine Wp.loop (fun k s=>∃i:Nat,i+k=xs.length∧inB (xs.drop i) n=inB xs n∧s=⟨[(0,sV z 1 (Xj xs)),(1,iV .i64 n),(4,bV false),(5,iV .i64 i)],[]⟩)
  xs.length (s0:=⟨[(0,sV z 1 (Xj xs)),(1,iV .i64 n),(4,bV false),(5,iV .i64 (0:Nat))],[]⟩) ?_ ⟨0,by simp,by simp,rfl⟩ fun k s ⟨i,hik,hr,hs⟩=>?_
 ·apply Go1<;>simp
 subst hs;refine We fun S Y=>?_;refine Wa Xv fun K J=>?_;simp[Xg];apply J;clear J K;refine Wp.cond rfl (fun hc=>?_) (fun hc=>?_)
 ·have hi:i<xs.length:=by simpa using hc
  have hw:IntKind.i64.wrap ((i:Int)+1)=(i+1:Nat):=by rw[wrap_small]<;>omega
  rw[bj hi]at hr;by_cases hx:xs[i]=n
  ·refine Wp.skip ?_;apply Y;clear Y S;refine We fun S Y=>?_;refine Wp.block ?_;refine Wa Xv fun K J=>?_;simp[hi,Xg,Xf,hx];apply J;clear J K;refine Wt (by simp) ?_;refine Wa Xv fun K J=>?_;simp;apply J;clear J K;refine Wp.ret ?_;simp;rw[←hr,hx];simp[inB]
  ·refine Wp.skip ?_;apply Y;clear Y S;refine We fun S Y=>?_;refine Wp.block ?_;refine Wa Xv fun K J=>?_;simp[hi,Xg,Xf,hx];apply J;clear J K;refine Wf (by simp) ?_;refine Wp.skip ?_;apply Y;clear Y S;refine Wb Xv fun K J=>?_;simp[hw];apply J;clear J K;refine⟨⟨[(0,sV z 1 (Xj xs)),(1,iV .i64 n),(4,bV false),(5,iV .i64 (i+1:Nat))],[]⟩,k - 1,?_,by omega,i+1,by omega,?_,rfl⟩
   ·apply Go1<;>simp
   rw[←hr];have:¬n=xs[i]:=fun e=>hx e.symm;unfold inB;simp only[av,this,false_or]
 ·have hi:¬i<xs.length:=by simpa using hc
  rw[cg (by omega)]at hr;refine Wp.exit ?_;simp only[XW,XG,if_true];clear Y S;apply Y;clear Y S;refine Wa Xv fun K J=>?_;simp;apply J;clear J K;refine Wp.ret ?_;simp;rw[←hr];simp[inB]
theorem Lc(p:Int)(x:Ez)(h0:0≤p)(h1:p≤15):Xq Tryz.prog 157 [iV .i64 p,evV x] (.val (bV (E5 p x.e.kind))):=by
 have d1:IntKind.i64.wrap p=p:=by rw[wrap_small]<;>omega
 have d2:IntKind.i64.wrap (p.tdiv 2)=p / 2:=by rw[Int.tdiv_eq_ediv_of_nonneg h0,wrap_small]<;>omega
 have m1:p.tmod 2=p%2:=Int.tmod_eq_emod_of_nonneg h0;have m2:(p / 2).tmod 2=p / 2%2:=Int.tmod_eq_emod_of_nonneg (by omega);have hb:E5 p x.e.kind=(decide (p / 2%2=1)&&x.e.reads||decide (p%2=1)&&x.e.writes):=rfl;rw[hb];clear hb;unfold evV;refine Xk (rs:=[.tmp 4]) (Xl _) Tryz.func157 rfl Tryz.ntmps157 rfl (by simp) ?_;obtain⟨q1,e1⟩:∃q,p / 2%2=q:=⟨_,rfl⟩;obtain⟨q2,e2⟩:∃q,p%2=q:=⟨_,rfl⟩;cases hr:x.e.reads<;>by_cases g1:q1=1<;>by_cases g2:q2=1
 all_goals
  repeat(first|((first|refine Wa Xv fun K J=>?_|refine Wb Xv fun K J=>?_|refine Wc Xv [] fun K J=>?_|refine Wd Xv [] fun K J=>?_);simp[se1,Xo,Kb,X2,unS,Xa,Ev.eta',d1,d2,m1,m2,e1,e2,hr,g1,g2];done)|((first|refine Wa Xv fun K J=>?_|refine Wb Xv fun K J=>?_|refine Wc Xv [] fun K J=>?_|refine Wd Xv [] fun K J=>?_);simp[se1,Xo,Kb,X2,unS,Xa,Ev.eta',d1,d2,m1,m2,e1,e2,hr,g1,g2];with_reducible refine J _ ?_;clear J K)|((first|refine Wa Xv fun K J=>?_|refine Wb Xv fun K J=>?_|refine Wc Xv [] fun K J=>?_|refine Wd Xv [] fun K J=>?_);simp[se1,Xo,Kb,X2,unS,Xa,Ev.eta',d1,d2,m1,m2,e1,e2,hr,g1,g2];apply And.intro;(·kernel_rfl);with_reducible refine J _ ?_;clear J K)|(refine We fun S Y=>?_)|(refine Wp.block ?_)|(refine Wp.skip ?_)|(apply Wp.condT; · (simp[se1,Xo,Kb,X2,unS,Xa,Ev.eta',d1,d2,m1,m2,e1,e2,hr,g1,g2];done))|(apply Wp.condF; · (simp[se1,Xo,Kb,X2,unS,Xa,Ev.eta',d1,d2,m1,m2,e1,e2,hr,g1,g2];done))|(apply Y;clear Y S)|(clear Y S;apply Y;clear Y S)|(clear Y S;clear Y S;apply Y;clear Y S)|(clear Y S;clear Y S;clear Y S;apply Y;clear Y S))
  refine Wp.ret ?_;simp[e1,e2,g1,g2]
def DN:List EV→Option (Prop×Yw)
 |[.one (.c (.sl _ 1 els)), .one (.c (.sc (.int .i64 n)))]=>(match unI els with|some xs=>some (xs.length≤1000000, .val (bV (inB xs n)))|none=>none)
 |_=>none
def Ej:List EV→Option (Prop×Yw)
 |[.one (.c (.sc (.int .i64 p))),v]=>(match X2 v with|some x=>some (0≤p∧p≤15, .val (bV (E5 p x.e.kind)))|none=>none)
 |_=>none
def se2:Dw.Spec:=Xo 9 (Kb Ev.mem) (Xo 158 DN (Xo 157 Ej se1))
theorem Gb:XA Tryz.prog se2:=by
 refine Xp ⟨⟨_,Tryz.func9,rfl,rfl⟩⟩ (ZB HM) (Xp ⟨⟨_,Tryz.func158,rfl,rfl⟩⟩ (fun vs p r h hp=>?_) (Xp ⟨⟨_,Tryz.func157,rfl,rfl⟩⟩ (fun vs p r h hp=>?_) Xv))
 ·unfold DN at h;split at h
  ·split at h
   ·rename_i xs hx;simp only[ab,af]at h;obtain⟨rfl,rfl⟩:=h;rw[Yz hx];exact Nr _ _ _ hp
   ·cases h
  ·cases h
 ·unfold Ej at h;split at h
  ·split at h
   ·rename_i x hx;simp only[ab,af]at h;obtain⟨rfl,rfl⟩:=h;refine Yp (.cons (Leq.refl _) (.cons (Kd hx) .nil)) (Lc _ _ hp.1 hp.2)
   ·cases h
  ·cases h
theorem Bt(z:Bool)(xs:List Int)(hn:xs.length≤1000000):Xq Tryz.prog 116 [sV z 1 (Xj xs)] (.val (bV (rising xs))):=by
 refine Xk (rs:=[.tmp 2]) (Xl _) Tryz.func116 rfl Tryz.ntmps116 rfl (by simp) ?_;refine Wa Xb fun K J=>?_;simp;apply J;clear J K;refine We fun S Y=>?_;refine Wa Xb fun K J=>?_;simp;apply J;clear J K;refine Wp.block ?_;refine Wp.loop (fun k s=>∃i:Nat,i+k=xs.length∧(∀j,j<i→ZQ xs j=true)∧s=⟨[(0,sV z 1 (Xj xs)),(3,iV .i64 i)],[]⟩)
  xs.length (s0:=⟨[(0,sV z 1 (Xj xs)),(3,iV .i64 (0:Nat))],[]⟩) ?_ ⟨0,by simp,by simp,rfl⟩ fun k s ⟨i,hik,hr,hs⟩=>?_
 ·apply Go1<;>simp
 subst hs;refine We fun S Y=>?_;refine Wa Xb fun K J=>?_;simp[Xg];apply J;clear J K;refine Wp.cond rfl (fun hc=>?_) (fun hc=>?_)
 ·have hi:i<xs.length:=by simpa using hc
  have hw:IntKind.i64.wrap ((i:Int)+1)=(i+1:Nat):=by rw[wrap_small]<;>omega
  have hgi:xs.getD i 0=xs[i]:=by simp[aa hi]
  clear hc;have no:¬ZQ xs i=true→rising xs=false:=fun h=>all_false hi (by simpa using h);by_cases h8:xs[i]<0
  ·refine Wp.skip ?_;apply Y;clear Y S;refine We fun S Y=>?_;refine Wp.block ?_;refine We fun S Y=>?_
   ((first|refine Wa Xb fun K J=>?_|refine Wb Xb fun K J=>?_|refine Wc Xb [] fun K J=>?_|refine Wd Xb [] fun K J=>?_);simp[hi,Xg,Xf,h8];apply And.intro;(·kernel_rfl);with_reducible refine J _ ?_;clear J K)
   apply Y;clear Y S;refine Wt (by simp) ?_;refine Wa Xb fun K J=>?_;simp;apply J;clear J K;refine Wp.ret ?_;simp;exact no (by simp[ZQ,hi];intro;omega)
  by_cases h0:0<i
  case neg=>
   obtain rfl:i=0:=by omega
   refine Wp.skip ?_;apply Y;clear Y S;refine We fun S Y=>?_;refine Wp.block ?_;refine We fun S Y=>?_
   ((first|refine Wa Xb fun K J=>?_|refine Wb Xb fun K J=>?_|refine Wc Xb [] fun K J=>?_|refine Wd Xb [] fun K J=>?_);simp[hi,Xg,Xf,h8];apply And.intro;(·kernel_rfl);with_reducible refine J _ ?_;clear J K)
   apply Y;clear Y S;refine Wf (by simp) ?_;refine Wp.skip ?_;apply Y;clear Y S;refine Wb Xb fun K J=>?_;simp;apply J;clear J K;refine⟨⟨[(0,sV z 1 (Xj xs)),(3,iV .i64 (0+1:Nat))],[]⟩,k - 1,?_,by omega,0+1,by omega,YR hr ?_,rfl⟩
   ·apply Go1<;>simp[IntKind.wrap,IntKind.bits,IntKind.signed]
   simp[ZQ,hi];omega
  have hj:i - 1<xs.length:=by omega
  have hw1:IntKind.i64.wrap ((i:Int) - 1)=((i - 1:Nat):Int):=by rw[wrap_small]<;>omega
  by_cases hlt:xs[i]≤xs[i - 1]
  ·refine Wp.skip ?_;apply Y;clear Y S;refine We fun S Y=>?_;refine Wp.block ?_;refine We fun S Y=>?_
   ((first|refine Wa Xb fun K J=>?_|refine Wb Xb fun K J=>?_|refine Wc Xb [] fun K J=>?_|refine Wd Xb [] fun K J=>?_);simp[hi,Xg,Xf,h8,h0,hw1,hj,hlt];apply And.intro;(·kernel_rfl);with_reducible refine J _ ?_;clear J K)
   apply Y;clear Y S;refine Wt (by simp) ?_;refine Wa Xb fun K J=>?_;simp;apply J;clear J K;refine Wp.ret ?_;simp;exact no (by simp[ZQ,hi,hj,h0];intro;omega)
  ·refine Wp.skip ?_;apply Y;clear Y S;refine We fun S Y=>?_;refine Wp.block ?_;refine We fun S Y=>?_
   ((first|refine Wa Xb fun K J=>?_|refine Wb Xb fun K J=>?_|refine Wc Xb [] fun K J=>?_|refine Wd Xb [] fun K J=>?_);simp[hi,Xg,Xf,h8,h0,hw1,hj,hlt];apply And.intro;(·kernel_rfl);with_reducible refine J _ ?_;clear J K)
   apply Y;clear Y S;refine Wf (by simp) ?_;refine Wp.skip ?_;apply Y;clear Y S;refine Wb Xb fun K J=>?_;simp[hw];apply J;clear J K;refine⟨⟨[(0,sV z 1 (Xj xs)),(3,iV .i64 (i+1:Nat))],[]⟩,k - 1,?_,by omega,i+1,by omega,YR hr ?_,rfl⟩
   ·apply Go1<;>simp
   simp[ZQ,hi,hj];omega
 ·have hi:¬i<xs.length:=by simpa using hc
  have hv:rising xs=true:=all_true fun j hj=>hr j (by omega);refine Wp.exit ?_;simp only[XW,XG,if_true];clear Y S;apply Y;clear Y S;refine Wa Xb fun K J=>?_;simp;apply J;clear J K;refine Wp.ret ?_;simp;exact hv
def H5:List EV→Option (Prop×Yw)
 |[.one (.c (.sl _ 1 els))]=>(match unI els with|some xs=>some (xs.length≤1000000, .val (bV (rising xs)))|none=>none)
 |_=>none
def sb1:Dw.Spec:=Xo 116 H5 HH
theorem U5:XA Tryz.prog sb1:=by
 refine Xp ⟨⟨_,Tryz.func116,rfl,rfl⟩⟩ (fun vs p r h hp=>?_) Xb;unfold H5 at h;split at h
 ·split at h
  ·rename_i xs hx;simp only[ab,af]at h;obtain⟨rfl,rfl⟩:=h;rw[Yz hx];exact Bt _ _ hp
  ·cases h
 ·cases h
theorem Fl(z:Bool)(xs:List Int)(m:Int)(hn:xs.length≤1000000):Xq Tryz.prog 82 [sV z 1 (Xj xs),iV .i64 m] (.val (bV (XO xs m))):=by
 refine Xk (rs:=[.tmp 4]) (Xl _) Tryz.func82 rfl Tryz.ntmps82 rfl (by simp) ?_;have hb:XO xs m=(rising xs&&(decide (xs.length=0)||decide (xs.getD (xs.length - 1) 0<m))):=rfl;rw[hb];clear hb;cases hr:rising xs
 ·refine Wa U5 fun K J=>?_;simp;apply J;clear J K;refine Wa U5 fun K J=>?_;simp[sb1,Xo,H5,Xa,hn,hr];apply J;clear J K;refine Wp.ret ?_;simp
 ·by_cases h0:xs.length=0
  ·refine Wa U5 fun K J=>?_;simp;apply J;clear J K;refine Wa U5 fun K J=>?_;simp[sb1,Xo,H5,Xa,hr,Xg,h0];apply J;clear J K;refine Wp.ret ?_;simp[h0]
  ·have hj:xs.length - 1<xs.length:=by omega
   have e0:=bh h0;have hw1:IntKind.i64.wrap ((xs.length:Int) - 1)=((xs.length - 1:Nat):Int):=by rw[wrap_small]<;>omega
   have hgi:xs.getD (xs.length - 1) 0=xs[xs.length - 1]:=by simp[aa hj]
   rw[hgi];have hne:¬xs=[]:=fun q=>h0 (by rw[q];rfl);refine Wa U5 fun K J=>?_;simp;apply J;clear J K;refine Wa U5 fun K J=>?_;simp[sb1,Xo,H5,Xa,hn,hr,Xg,Xf,e0,hw1,hj];apply J;clear J K;refine Wp.ret ?_;simp[h0]
def FE:List EV→Option (Prop×Yw)
 |[.one (.c (.sl _ 1 els)), .one (.c (.sc (.int .i64 m)))]=>(match unI els with|some xs=>some (xs.length≤1000000, .val (bV (XO xs m)))|none=>none)
 |_=>none
def sb2:Dw.Spec:=Xo 82 FE (Xo 9 (Kb Ev.mem) se1)
theorem YL:XA Tryz.prog sb2:=by
 refine Xp ⟨⟨_,Tryz.func82,rfl,rfl⟩⟩ (fun vs p r h hp=>?_) (Xp ⟨⟨_,Tryz.func9,rfl,rfl⟩⟩ (ZB HM) Xv);unfold FE at h;split at h
 ·split at h
  ·rename_i xs hx;simp only[ab,af]at h;obtain⟨rfl,rfl⟩:=h;rw[Yz hx];exact Fl _ _ _ hp
  ·cases h
 ·cases h
end Go.Proofs.YtbkpmfjfpcoehaaGreatDoor
