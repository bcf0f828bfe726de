/- What the program and the document compute, as plain data, and laws of it. No condition. -/
import Derived.BigQuiet
import Derived.BigRegion
import Derived.ChangeAlike
import Derived.Deep.CutBlock
import Derived.Deep.CutRange
import Derived.Deep.DeepCutAuto
import Derived.Deep.QuietTactic
import Derived.Deep.RegionHeld3
import Derived.IntWalk
import Derived.KernelRfl
import Derived.Lib.Hide
import Derived.RegionTactic
import Derived.StillTailTactics
import Derived.WalkKit
import Derived.WalkLawsBesides
import Derived.WalkSpells
import Derived.Test.YtjhfcfpkgfpoiaaGreatDoorDe
import Derived.Test.YtjhfcfpkgfpoiaaGreatDoorProg
namespace Go.Proofs.YtjhfcfpkgfpoiaaGreatDoor
open Go Go.RowKit Dw
set_option maxRecDepth 100000
theorem ty3:Y6 Tryz.prog 3=some ⟨D Tryz.prog 3,1,8,[.sc (.int .i64 0)],false,false⟩:=by kernel_rfl
theorem D3:D Tryz.prog 3= .int .i64:=by kernel_rfl
theorem ty4:Y6 Tryz.prog 4=some ⟨D Tryz.prog 4,1,1,[.sc (.bool false)],false,false⟩:=by kernel_rfl
theorem D4:D Tryz.prog 4= .bool:=by kernel_rfl
theorem ty9:Y6 Tryz.prog 9=some ⟨D Tryz.prog 9,1,16,[.sc (.string ⟨#[]⟩)],false,false⟩:=by kernel_rfl
theorem D9:D Tryz.prog 9= .string:=by kernel_rfl
theorem Xkn:Y6 Tryz.prog 22=some ⟨D Tryz.prog 22,1,24,[.sl true 0 []],false,false⟩:=by kernel_rfl
theorem Xkv:Dw.elemOf (Y6 Tryz.prog) 22=some (none,75,⟨D Tryz.prog 75,2,16,[.sc (.int .u64 0), .sc (.int .u64 0)],true,true⟩):=by kernel_rfl
theorem D22:D Tryz.prog 22= .slice 75:=by kernel_rfl
theorem Xkm:Y6 Tryz.prog 23=some ⟨D Tryz.prog 23,1,24,[.sl true 0 []],false,false⟩:=by kernel_rfl
theorem Xku:Dw.elemOf (Y6 Tryz.prog) 23=some (none,50,⟨D Tryz.prog 50,1,24,[.sl true 0 []],false,false⟩):=by kernel_rfl
theorem D23:D Tryz.prog 23= .slice 50:=by kernel_rfl
theorem Xkl:Y6 Tryz.prog 24=some ⟨D Tryz.prog 24,1,24,[.sl true 0 []],false,false⟩:=by kernel_rfl
theorem Xkt:Dw.elemOf (Y6 Tryz.prog) 24=some (none,3,⟨D Tryz.prog 3,1,8,[.sc (.int .i64 0)],false,false⟩):=by kernel_rfl
theorem D24:D Tryz.prog 24= .slice 3:=by kernel_rfl
theorem Xib:Y6 Tryz.prog 26=some ⟨D Tryz.prog 26,4,96,[.sl true 0 [], .sl true 0 [], .sl true 0 [], .sl true 0 []],true,true⟩:=by kernel_rfl
theorem J7:Yi (Y6 Tryz.prog) 26 0=some (0,⟨D Tryz.prog 22,1,24,[.sl true 0 []],false,false⟩):=by kernel_rfl
theorem J6:Yi (Y6 Tryz.prog) 26 1=some (1,⟨D Tryz.prog 23,1,24,[.sl true 0 []],false,false⟩):=by kernel_rfl
theorem J5:Yi (Y6 Tryz.prog) 26 2=some (2,⟨D Tryz.prog 24,1,24,[.sl true 0 []],false,false⟩):=by kernel_rfl
theorem J4:Yi (Y6 Tryz.prog) 26 3=some (3,⟨D Tryz.prog 24,1,24,[.sl true 0 []],false,false⟩):=by kernel_rfl
theorem Ymz:Yag (Y6 Tryz.prog) (D Tryz.prog 26)=some [(0,1),(1,1),(2,1),(3,1)]:=by kernel_rfl
theorem Xk0(ps:List (Nat×EV)):VE (Y6 Tryz.prog) 26 ps=YS ⟨D Tryz.prog 26,4,96,[.sl true 0 [], .sl true 0 [], .sl true 0 [], .sl true 0 []],true,true⟩ (fun i=>[(0,1),(1,1),(2,1),(3,1)][i]?) ps:=Gl Xib Ymz ps
theorem ty31:Y6 Tryz.prog 31=some ⟨D Tryz.prog 31,1,8,[.sc (.int .i64 0)],false,false⟩:=by kernel_rfl
theorem D31:D Tryz.prog 31= .int .i64:=by kernel_rfl
theorem Xkk:Y6 Tryz.prog 38=some ⟨D Tryz.prog 38,1,8,[.sc (.int .u64 0)],false,false⟩:=by kernel_rfl
theorem D38:D Tryz.prog 38= .int .u64:=by kernel_rfl
theorem Xkj:Y6 Tryz.prog 44=some ⟨D Tryz.prog 44,1,24,[.sl true 0 []],false,false⟩:=by kernel_rfl
theorem Xks:Dw.elemOf (Y6 Tryz.prog) 44=some (none,4,⟨D Tryz.prog 4,1,1,[.sc (.bool false)],false,false⟩):=by kernel_rfl
theorem D44:D Tryz.prog 44= .slice 4:=by kernel_rfl
theorem Xki:Y6 Tryz.prog 50=some ⟨D Tryz.prog 50,1,24,[.sl true 0 []],false,false⟩:=by kernel_rfl
theorem Xkr:Dw.elemOf (Y6 Tryz.prog) 50=some (none,67,⟨D Tryz.prog 67,14,152,[.sc (.int .i64 0), .sc (.int .i64 0), .sc (.int .i64 0), .sc (.int .u64 0), .sc (.int .u64 0), .sc (.int .u64 0), .sc (.bool false), .sc (.bool false), .sc (.int .i64 0), .sc (.int .i64 0), .sc (.int .i64 0), .sl true 0 [], .sl true 0 [], .sl true 0 []],true,true⟩):=by kernel_rfl
theorem D50:D Tryz.prog 50= .slice 67:=by kernel_rfl
theorem Xia:Y6 Tryz.prog 57=some ⟨D Tryz.prog 57,4,32,[.sc (.bool false), .sc (.int .i64 0), .sc (.int .i64 0), .sc (.int .i64 0)],true,true⟩:=by kernel_rfl
theorem J3:Yi (Y6 Tryz.prog) 57 0=some (0,⟨D Tryz.prog 4,1,1,[.sc (.bool false)],false,false⟩):=by kernel_rfl
theorem fo57_1:Yi (Y6 Tryz.prog) 57 1=some (1,⟨D Tryz.prog 3,1,8,[.sc (.int .i64 0)],false,false⟩):=by kernel_rfl
theorem fo57_2:Yi (Y6 Tryz.prog) 57 2=some (2,⟨D Tryz.prog 3,1,8,[.sc (.int .i64 0)],false,false⟩):=by kernel_rfl
theorem fo57_3:Yi (Y6 Tryz.prog) 57 3=some (3,⟨D Tryz.prog 3,1,8,[.sc (.int .i64 0)],false,false⟩):=by kernel_rfl
theorem Ymy:Yag (Y6 Tryz.prog) (D Tryz.prog 57)=some [(0,1),(1,1),(2,1),(3,1)]:=by kernel_rfl
theorem Xkz(ps:List (Nat×EV)):VE (Y6 Tryz.prog) 57 ps=YS ⟨D Tryz.prog 57,4,32,[.sc (.bool false), .sc (.int .i64 0), .sc (.int .i64 0), .sc (.int .i64 0)],true,true⟩ (fun i=>[(0,1),(1,1),(2,1),(3,1)][i]?) ps:=Gl Xia Ymy ps
theorem eqp57:Yiy (Y6 Tryz.prog) (D Tryz.prog 57)=some [(0,1),(1,0),(2,0),(3,0)]:=by kernel_rfl
theorem eq57(xs ys:List Cx):eqE (Y6 Tryz.prog) 57 xs ys=Xd5 xs ys [(0,1),(1,0),(2,0),(3,0)]:=Yf1 Xia rfl eqp57 xs ys
theorem Xh9:Y6 Tryz.prog 60=some ⟨D Tryz.prog 60,5,120,[.sl true 0 [], .sl true 0 [], .sl true 0 [], .sl true 0 [], .sl true 0 []],true,true⟩:=by kernel_rfl
theorem J2:Yi (Y6 Tryz.prog) 60 0=some (0,⟨D Tryz.prog 26,4,96,[.sl true 0 [], .sl true 0 [], .sl true 0 [], .sl true 0 []],true,true⟩):=by kernel_rfl
theorem J1:Yi (Y6 Tryz.prog) 60 1=some (4,⟨D Tryz.prog 50,1,24,[.sl true 0 []],false,false⟩):=by kernel_rfl
theorem Ymx:Yag (Y6 Tryz.prog) (D Tryz.prog 60)=some [(0,4),(4,1)]:=by kernel_rfl
theorem Xky(ps:List (Nat×EV)):VE (Y6 Tryz.prog) 60 ps=YS ⟨D Tryz.prog 60,5,120,[.sl true 0 [], .sl true 0 [], .sl true 0 [], .sl true 0 [], .sl true 0 []],true,true⟩ (fun i=>[(0,4),(4,1)][i]?) ps:=Gl Xh9 Ymx ps
theorem Xh8:Y6 Tryz.prog 65=some ⟨D Tryz.prog 65,3,72,[.sl true 0 [], .sl true 0 [], .sl true 0 []],true,true⟩:=by kernel_rfl
theorem J0:Yi (Y6 Tryz.prog) 65 0=some (0,⟨D Tryz.prog 24,1,24,[.sl true 0 []],false,false⟩):=by kernel_rfl
theorem JZ:Yi (Y6 Tryz.prog) 65 1=some (1,⟨D Tryz.prog 24,1,24,[.sl true 0 []],false,false⟩):=by kernel_rfl
theorem JY:Yi (Y6 Tryz.prog) 65 2=some (2,⟨D Tryz.prog 24,1,24,[.sl true 0 []],false,false⟩):=by kernel_rfl
theorem Ymw:Yag (Y6 Tryz.prog) (D Tryz.prog 65)=some [(0,1),(1,1),(2,1)]:=by kernel_rfl
theorem Xkx(ps:List (Nat×EV)):VE (Y6 Tryz.prog) 65 ps=YS ⟨D Tryz.prog 65,3,72,[.sl true 0 [], .sl true 0 [], .sl true 0 []],true,true⟩ (fun i=>[(0,1),(1,1),(2,1)][i]?) ps:=Gl Xh8 Ymw ps
theorem Xh7:Y6 Tryz.prog 67=some ⟨D Tryz.prog 67,14,152,[.sc (.int .i64 0), .sc (.int .i64 0), .sc (.int .i64 0), .sc (.int .u64 0), .sc (.int .u64 0), .sc (.int .u64 0), .sc (.bool false), .sc (.bool false), .sc (.int .i64 0), .sc (.int .i64 0), .sc (.int .i64 0), .sl true 0 [], .sl true 0 [], .sl true 0 []],true,true⟩:=by kernel_rfl
theorem JX:Yi (Y6 Tryz.prog) 67 0=some (0,⟨D Tryz.prog 3,1,8,[.sc (.int .i64 0)],false,false⟩):=by kernel_rfl
theorem JW:Yi (Y6 Tryz.prog) 67 1=some (1,⟨D Tryz.prog 3,1,8,[.sc (.int .i64 0)],false,false⟩):=by kernel_rfl
theorem JV:Yi (Y6 Tryz.prog) 67 2=some (2,⟨D Tryz.prog 3,1,8,[.sc (.int .i64 0)],false,false⟩):=by kernel_rfl
theorem JU:Yi (Y6 Tryz.prog) 67 3=some (3,⟨D Tryz.prog 38,1,8,[.sc (.int .u64 0)],false,false⟩):=by kernel_rfl
theorem JT:Yi (Y6 Tryz.prog) 67 4=some (4,⟨D Tryz.prog 38,1,8,[.sc (.int .u64 0)],false,false⟩):=by kernel_rfl
theorem JS:Yi (Y6 Tryz.prog) 67 5=some (5,⟨D Tryz.prog 38,1,8,[.sc (.int .u64 0)],false,false⟩):=by kernel_rfl
theorem JR:Yi (Y6 Tryz.prog) 67 6=some (6,⟨D Tryz.prog 4,1,1,[.sc (.bool false)],false,false⟩):=by kernel_rfl
theorem JQ:Yi (Y6 Tryz.prog) 67 7=some (7,⟨D Tryz.prog 4,1,1,[.sc (.bool false)],false,false⟩):=by kernel_rfl
theorem JP:Yi (Y6 Tryz.prog) 67 8=some (8,⟨D Tryz.prog 3,1,8,[.sc (.int .i64 0)],false,false⟩):=by kernel_rfl
theorem JO:Yi (Y6 Tryz.prog) 67 9=some (9,⟨D Tryz.prog 3,1,8,[.sc (.int .i64 0)],false,false⟩):=by kernel_rfl
theorem KI:Yi (Y6 Tryz.prog) 67 10=some (10,⟨D Tryz.prog 3,1,8,[.sc (.int .i64 0)],false,false⟩):=by kernel_rfl
theorem KH:Yi (Y6 Tryz.prog) 67 11=some (11,⟨D Tryz.prog 65,3,72,[.sl true 0 [], .sl true 0 [], .sl true 0 []],true,true⟩):=by kernel_rfl
theorem Ymv:Yag (Y6 Tryz.prog) (D Tryz.prog 67)=some [(0,1),(1,1),(2,1),(3,1),(4,1),(5,1),(6,1),(7,1),(8,1),(9,1),(10,1),(11,3)]:=by kernel_rfl
theorem Xkw(ps:List (Nat×EV)):VE (Y6 Tryz.prog) 67 ps=YS ⟨D Tryz.prog 67,14,152,[.sc (.int .i64 0), .sc (.int .i64 0), .sc (.int .i64 0), .sc (.int .u64 0), .sc (.int .u64 0), .sc (.int .u64 0), .sc (.bool false), .sc (.bool false), .sc (.int .i64 0), .sc (.int .i64 0), .sc (.int .i64 0), .sl true 0 [], .sl true 0 [], .sl true 0 []],true,true⟩ (fun i=>[(0,1),(1,1),(2,1),(3,1),(4,1),(5,1),(6,1),(7,1),(8,1),(9,1),(10,1),(11,3)][i]?) ps:=Gl Xh7 Ymv ps
theorem ty71:Y6 Tryz.prog 71=some ⟨D Tryz.prog 71,1,8,[.sc (.map none)],false,false⟩:=by kernel_rfl
theorem Xkq:mapOf (Y6 Tryz.prog) 71=some (.int .u64, .sc (.int .i64 0)):=by kernel_rfl
theorem D71:D Tryz.prog 71= .map 38 3:=by kernel_rfl
theorem Xkh:Y6 Tryz.prog 75=some ⟨D Tryz.prog 75,2,16,[.sc (.int .u64 0), .sc (.int .u64 0)],true,true⟩:=by kernel_rfl
theorem JN:Yi (Y6 Tryz.prog) 75 0=some (0,⟨D Tryz.prog 38,1,8,[.sc (.int .u64 0)],false,false⟩):=by kernel_rfl
theorem JM:Yi (Y6 Tryz.prog) 75 1=some (1,⟨D Tryz.prog 38,1,8,[.sc (.int .u64 0)],false,false⟩):=by kernel_rfl
theorem pl75:Yag (Y6 Tryz.prog) (D Tryz.prog 75)=some [(0,1),(1,1)]:=by kernel_rfl
theorem bu75(ps:List (Nat×EV)):VE (Y6 Tryz.prog) 75 ps=YS ⟨D Tryz.prog 75,2,16,[.sc (.int .u64 0), .sc (.int .u64 0)],true,true⟩ (fun i=>[(0,1),(1,1)][i]?) ps:=Gl Xkh pl75 ps
theorem eqp75:Yiy (Y6 Tryz.prog) (D Tryz.prog 75)=some [(0,0),(1,0)]:=by kernel_rfl
theorem eq75(xs ys:List Cx):eqE (Y6 Tryz.prog) 75 xs ys=Xd5 xs ys [(0,0),(1,0)]:=Yf1 Xkh rfl eqp75 xs ys
theorem ty97:Y6 Tryz.prog 97=some ⟨D Tryz.prog 97,1,4,[.sc (.int .u32 0)],false,false⟩:=by kernel_rfl
theorem D97:D Tryz.prog 97= .int .u32:=by kernel_rfl
theorem HW:Y6 Tryz.prog 106=some ⟨D Tryz.prog 106,1,24,[.sl true 0 []],false,false⟩:=by kernel_rfl
theorem H3:Dw.elemOf (Y6 Tryz.prog) 106=some (none,108,⟨D Tryz.prog 108,2,16,[.sc (.int .i64 0), .sc (.int .i64 0)],true,false⟩):=by kernel_rfl
theorem Xk5:D Tryz.prog 106= .slice 108:=by kernel_rfl
theorem G9:Y6 Tryz.prog 108=some ⟨D Tryz.prog 108,2,16,[.sc (.int .i64 0), .sc (.int .i64 0)],true,false⟩:=by kernel_rfl
theorem H2:Dw.elemOf (Y6 Tryz.prog) 108=some (some 2,3,⟨D Tryz.prog 3,1,8,[.sc (.int .i64 0)],false,false⟩):=by kernel_rfl
theorem Xkg:D Tryz.prog 108= .array 2 3:=by kernel_rfl
theorem ty112:Y6 Tryz.prog 112=some ⟨D Tryz.prog 112,1,8,[.sc (.map none)],false,false⟩:=by kernel_rfl
theorem HZ:mapOf (Y6 Tryz.prog) 112=some (.int .i64, .sc (.int .i64 0)):=by kernel_rfl
theorem D112:D Tryz.prog 112= .map 3 3:=by kernel_rfl
theorem HV:Y6 Tryz.prog 118=some ⟨D Tryz.prog 118,1,8,[.sc (.int .u64 0)],false,false⟩:=by kernel_rfl
theorem Xk4:D Tryz.prog 118= .int .u64:=by kernel_rfl
theorem G8:Y6 Tryz.prog 121=some ⟨D Tryz.prog 121,1,8,[.sc (.int .u64 0)],false,false⟩:=by kernel_rfl
theorem Xk3:D Tryz.prog 121= .int .u64:=by kernel_rfl
theorem G7:Y6 Tryz.prog 160=some ⟨D Tryz.prog 160,7,56,[.sc (.int .u64 0), .sc (.int .u64 0), .sc (.int .u64 0), .sc (.int .u64 0), .sc (.int .u64 0), .sc (.int .u64 0), .sc (.int .u64 0)],true,false⟩:=by kernel_rfl
theorem H1:Dw.elemOf (Y6 Tryz.prog) 160=some (some 7,121,⟨D Tryz.prog 121,1,8,[.sc (.int .u64 0)],false,false⟩):=by kernel_rfl
theorem Xkf:D Tryz.prog 160= .array 7 121:=by kernel_rfl
theorem G0:Y6 Tryz.prog 231=some ⟨D Tryz.prog 231,11,80,[.sc (.int .i64 0), .sc (.int .i64 0), .sc (.int .i64 0), .sc (.int .i64 0), .sc (.int .i64 0), .sc (.int .i64 0), .sc (.int .u64 0), .sc (.int .u64 0), .sc (.int .u64 0), .sc (.bool false), .sc (.bool false)],true,true⟩:=by kernel_rfl
theorem fo231_0:Yi (Y6 Tryz.prog) 231 0=some (0,⟨D Tryz.prog 3,1,8,[.sc (.int .i64 0)],false,false⟩):=by kernel_rfl
theorem fo231_1:Yi (Y6 Tryz.prog) 231 1=some (1,⟨D Tryz.prog 3,1,8,[.sc (.int .i64 0)],false,false⟩):=by kernel_rfl
theorem fo231_2:Yi (Y6 Tryz.prog) 231 2=some (2,⟨D Tryz.prog 3,1,8,[.sc (.int .i64 0)],false,false⟩):=by kernel_rfl
theorem fo231_3:Yi (Y6 Tryz.prog) 231 3=some (3,⟨D Tryz.prog 3,1,8,[.sc (.int .i64 0)],false,false⟩):=by kernel_rfl
theorem fo231_4:Yi (Y6 Tryz.prog) 231 4=some (4,⟨D Tryz.prog 3,1,8,[.sc (.int .i64 0)],false,false⟩):=by kernel_rfl
theorem fo231_5:Yi (Y6 Tryz.prog) 231 5=some (5,⟨D Tryz.prog 3,1,8,[.sc (.int .i64 0)],false,false⟩):=by kernel_rfl
theorem fo231_6:Yi (Y6 Tryz.prog) 231 6=some (6,⟨D Tryz.prog 38,1,8,[.sc (.int .u64 0)],false,false⟩):=by kernel_rfl
theorem fo231_7:Yi (Y6 Tryz.prog) 231 7=some (7,⟨D Tryz.prog 38,1,8,[.sc (.int .u64 0)],false,false⟩):=by kernel_rfl
theorem fo231_8:Yi (Y6 Tryz.prog) 231 8=some (8,⟨D Tryz.prog 38,1,8,[.sc (.int .u64 0)],false,false⟩):=by kernel_rfl
theorem fo231_9:Yi (Y6 Tryz.prog) 231 9=some (9,⟨D Tryz.prog 4,1,1,[.sc (.bool false)],false,false⟩):=by kernel_rfl
theorem fo231_10:Yi (Y6 Tryz.prog) 231 10=some (10,⟨D Tryz.prog 4,1,1,[.sc (.bool false)],false,false⟩):=by kernel_rfl
theorem Yih:Yag (Y6 Tryz.prog) (D Tryz.prog 231)=some [(0,1),(1,1),(2,1),(3,1),(4,1),(5,1),(6,1),(7,1),(8,1),(9,1),(10,1)]:=by kernel_rfl
theorem H4(ps:List (Nat×EV)):VE (Y6 Tryz.prog) 231 ps=YS ⟨D Tryz.prog 231,11,80,[.sc (.int .i64 0), .sc (.int .i64 0), .sc (.int .i64 0), .sc (.int .i64 0), .sc (.int .i64 0), .sc (.int .i64 0), .sc (.int .u64 0), .sc (.int .u64 0), .sc (.int .u64 0), .sc (.bool false), .sc (.bool false)],true,true⟩ (fun i=>[(0,1),(1,1),(2,1),(3,1),(4,1),(5,1),(6,1),(7,1),(8,1),(9,1),(10,1)][i]?) ps:=Gl G0 Yih ps
theorem Yfz:Yiy (Y6 Tryz.prog) (D Tryz.prog 231)=some [(0,0),(1,0),(2,0),(3,0),(4,0),(5,0),(6,0),(7,0),(8,0),(9,1),(10,1)]:=by kernel_rfl
theorem H0(xs ys:List Cx):eqE (Y6 Tryz.prog) 231 xs ys=Xd5 xs ys [(0,0),(1,0),(2,0),(3,0),(4,0),(5,0),(6,0),(7,0),(8,0),(9,1),(10,1)]:=Yf1 G0 rfl Yfz xs ys
theorem H6(ps:List (Nat×EV)):VE (Y6 Tryz.prog) 108 ps=YS ⟨D Tryz.prog 108,2,16,[.sc (.int .i64 0), .sc (.int .i64 0)],true,false⟩ (fun i=>some (i*1,1)) ps:=Xfn G9 Xkg ty3 ps
theorem H5(ps:List (Nat×EV)):VE (Y6 Tryz.prog) 160 ps=YS ⟨D Tryz.prog 160,7,56,[.sc (.int .u64 0), .sc (.int .u64 0), .sc (.int .u64 0), .sc (.int .u64 0), .sc (.int .u64 0), .sc (.int .u64 0), .sc (.int .u64 0)],true,false⟩ (fun i=>some (i*1,1)) ps:=Xfn G7 Xkf G8 ps
end Go.Proofs.YtjhfcfpkgfpoiaaGreatDoor
namespace Go.Proofs.YtjhfcfpkgfpoiaaGreatDoor
open Go Go.RowKit
set_option maxRecDepth 100000
section
theorem add_block(a:Addr)(n:Nat):(a.add n).block=a.block:=by unfold Addr.add;split<;>rfl
theorem add_add'(a:Addr)(i j:Nat):(a.add i).add j=a.add (i+j):=by
 unfold Addr.add;by_cases hi:i=0<;>by_cases hj:j=0<;>simp[hi,hj,Nat.add_assoc]
def Kept(B:Nat)(w w':World):Prop:=∀p:Addr,p.block<B→w'.cell? p=w.cell? p
theorem HP{B B':Nat}{w w1:World}(h:Below B w w1)(hb:B'≤B):Kept B' w w1:=fun _ hp=>h.cell (Nat.lt_of_lt_of_le hp hb)
def Rd(w:World)(B sz:Nat)(A:Option Addr)(n:Nat)(f:Nat→List Value):Prop:=
 ∀i,i<n→∃a,A=some a∧a.block<B∧∀(j:Nat) (u:Value),(f i)[j]? =some u→w.cell? (a.add (i*sz+j))=some u
section
variable {w w':World} {B B' sz n:Nat} {A:Option Addr} {f:Nat→List Value}
theorem Rd.keep(h:Rd w B sz A n f)(k:Kept B w w'):Rd w' B sz A n f:=fun i hi=>by
 obtain⟨a,e,hb,hc⟩:=h i hi;exact⟨a,e,hb,fun j u hu=>(k _ (by rw[add_block];exact hb)).trans (hc j u hu)⟩
theorem Rd.more(h:Rd w B sz A n f)(hB:B≤B'):Rd w B' sz A n f:=fun i hi=>by
 obtain⟨a,e,hb,hc⟩:=h i hi;exact⟨a,e,by omega,hc⟩
end
def Xfz(w:World)(B:Nat)(A:Option Addr)(xs:List Int):Prop:=Rd w B 1 A xs.length fun i=>[.int .i64 (xs.getD i 0)]
theorem Xfz.at_{w:World}{B:Nat}{A:Option Addr}{xs:List Int}(h:Xfz w B A xs){i:Nat}(hi:i<xs.length):
  ∃a,A=some a∧a.block<B∧w.cell? (a.add i)=some (.int .i64 (xs.getD i 0)):=by
 obtain⟨a,e,hb,hc⟩:=h i hi;exact⟨a,e,hb,by have:=hc 0 _ rfl;simpa using this⟩
theorem Xfz.keep{w w':World}{B:Nat}{A:Option Addr}{xs:List Int}(h:Xfz w B A xs)(k:Kept B w w'):Xfz w' B A xs:=Rd.keep h k
theorem Xfz.more{w:World}{B B':Nat}{A:Option Addr}{xs:List Int}(h:Xfz w B A xs)(k:B≤B'):Xfz w B' A xs:=Rd.more h k
theorem Yb5{w w1:World}{A:Option Addr}{xs:List Int}(h:Xfz w w.heap.size A xs)(b:Below w.heap.size w w1):Xfz w1 w1.heap.size A xs:=(h.keep (HP b (Nat.le_refl _))).more b.size
def Box(w:World)(g:Nat)(cs:Array Value):Prop:=g<w.heap.size∧∀o,w.cell? ⟨g,o,none⟩=cs[o]?
theorem Box.new(w:World)(cs:Array Value)(t:TypeId):Box (w.alloc (.cells cs t)) w.heap.size cs:=
 ⟨by simp,fun o=>by simp⟩
theorem Box.below{w w':World}{g:Nat}{cs:Array Value}(h:Box w g cs)(hb:Below w.heap.size w w'):Box w' g cs:=
 ⟨Nat.lt_of_lt_of_le h.1 hb.size,fun o=>(hb.cell (p:=⟨g,o,none⟩) h.1).trans (h.2 o)⟩
theorem Yi4{B:Nat}{w w1 w2:World}(h:Below B w w1)(hb:Below w1.heap.size w1 w2)(hB:B≤w.heap.size):Below B w w2:=
 h.trans (hb.mono (Nat.le_trans hB h.size))
end
structure Ev where
 hart:Int
 pos:Int
 kind:Int
 addr:Int
 load:Int
 store:Int
 aq:Bool
 rl:Bool
 pred:Int
 succ:Int
 pair:Int
 da:List Int
 dd:List Int
 dw:List Int
instance:Inhabited Ev:=⟨⟨0,0,0,0,0,0,false,false,0,0,0,[],[],[]⟩⟩
structure Ym7 where
 (A1 A2 A3:Option Addr)
 (c1 c2 c3:Nat)
structure Cd where
 first:List (Int×Int)
 harts:List (List Ev)
 from_:List Int
 order:List Int
end Go.Proofs.YtjhfcfpkgfpoiaaGreatDoor
namespace Go.Proofs.YtjhfcfpkgfpoiaaGreatDoor
open Go Go.RowKit Dw
set_option maxRecDepth 100000
structure Ez where
 e:Ev
 (z1 z2 z3:Bool)
instance:Inhabited Ez:=⟨⟨default,true,true,true⟩⟩
def Ez.cv(x:Ez):List Cv:=[.sc (.int .i64 x.e.hart), .sc (.int .i64 x.e.pos), .sc (.int .i64 x.e.kind), .sc (.int .u64 x.e.addr), .sc (.int .u64 x.e.load), .sc (.int .u64 x.e.store), .sc (.bool x.e.aq), .sc (.bool x.e.rl), .sc (.int .i64 x.e.pred), .sc (.int .i64 x.e.succ), .sc (.int .i64 x.e.pair), .sl x.z1 1 (Xj x.e.da), .sl x.z2 1 (Xj x.e.dd), .sl x.z3 1 (Xj x.e.dw)]
def evV(x:Ez):EV:= .agg [.c (.sc (.int .i64 x.e.hart)), .c (.sc (.int .i64 x.e.pos)), .c (.sc (.int .i64 x.e.kind)), .c (.sc (.int .u64 x.e.addr)), .c (.sc (.int .u64 x.e.load)), .c (.sc (.int .u64 x.e.store)), .c (.sc (.bool x.e.aq)), .c (.sc (.bool x.e.rl)), .c (.sc (.int .i64 x.e.pred)), .c (.sc (.int .i64 x.e.succ)), .c (.sc (.int .i64 x.e.pair)), .c (.sl x.z1 1 (Xj x.e.da)), .c (.sl x.z2 1 (Xj x.e.dd)), .c (.sl x.z3 1 (Xj x.e.dw))]
def unS(z:Bool)(n:Nat)(l:List (List Cv)):Option (List Int):=if n=1 then unI l else match z,l with|true,[]=>some []|_,_=>none
theorem Xlc{z:Bool}{n:Nat}{l:List (List Cv)}{xs:List Int}(h:unS z n l=some xs){w:World}{N:Nat→Prop}{u:Value}(hu:XN w N (.sl z n l) u):XN w N (.sl z 1 (Xj xs)) u:=by
 unfold unS at h;split at h
 ·rename_i e;subst e;rw[←YK h];exact hu
 ·split at h
  ·injection h with h;subst h;cases hu;exact .nil
  ·cases h
def Leq(v v':EV):Prop:=∀w N u,X9 w N noB v u→X9 w N noB v' u
theorem Leq.refl(v:EV):Leq v v:=fun _ _ _ h=>h
theorem Yby{xs xs':List Cx}(h:Y5 (fun x x'=>∀w N u,Yz w N noB x u→Yz w N noB x' u) xs xs'):Leq (.agg xs) (.agg xs'):=by
 intro w N u hu;cases hu with|agg hu=>
 refine .agg ⟨h.1.symm.trans hu.1,fun i x y hx hy=>?_⟩;have hi:i<xs.length:=by rw[h.1];exact(List.getElem?_eq_some_iff.1 hx).1
 exact h.2 i _ _ (List.getElem?_eq_getElem hi) hx w N y (hu.2 i _ _ (List.getElem?_eq_getElem hi) hy)
theorem Yy{P:Program}{f:FuncId}{vs vs':List EV}{r:YX}(h:Y5 Leq vs vs')(k:Xq P f vs' r):Xq P f vs r:=by
 intro M w us hM hu;refine k M w us hM ⟨h.1.symm.trans hu.1,fun i x y hx hy=>?_⟩;have hi:i<vs.length:=by rw[h.1];exact(List.getElem?_eq_some_iff.1 hx).1
 exact h.2 i _ _ (List.getElem?_eq_getElem hi) hx _ _ y (hu.2 i _ _ (List.getElem?_eq_getElem hi) hy)
def X8(v:EV):Option Ez:=match v with
 | .agg [.c (.sc (.int .i64 h)), .c (.sc (.int .i64 a)), .c (.sc (.int .i64 k)), .c (.sc (.int .u64 x)), .c (.sc (.int .u64 y)), .c (.sc (.int .u64 z)), .c (.sc (.bool p)), .c (.sc (.bool q)), .c (.sc (.int .i64 c)), .c (.sc (.int .i64 d)), .c (.sc (.int .i64 e)), .c (.sl z1 e1 l1), .c (.sl z2 e2 l2), .c (.sl z3 e3 l3)]=>
  (match unS z1 e1 l1,unS z2 e2 l2,unS z3 e3 l3 with
   |some m1,some m2,some m3=>some ⟨⟨h,a,k,x,y,z,p,q,c,d,e,m1,m2,m3⟩,z1,z2,z3⟩
   |_,_,_=>none)
 |_=>none
theorem Kx{v:EV}{x:Ez}(h:X8 v=some x):Leq v (evV x):=by
 unfold X8 at h;split at h
 ·split at h
  ·rename_i m1 m2 m3 h1 h2 h3;injection h with h;subst h;have o:∀(c:Cx),∀(w:World) (N:Nat→Prop) (u:Value),Yz w N noB c u→Yz w N noB c u:=fun _ _ _ _ h=>h;exact Yby (.cons (o _) (.cons (o _) (.cons (o _) (.cons (o _) (.cons (o _) (.cons (o _) (.cons (o _) (.cons (o _) (.cons (o _) (.cons (o _) (.cons (o _) (.cons (fun _ _ _ h=>Xlc h1 h) (.cons (fun _ _ _ h=>Xlc h2 h) (.cons (fun _ _ _ h=>Xlc h3 h) .nil))))))))))))))
  ·cases h
 ·cases h
def Yc(l:List Ez):List (List Cv):=l.map Ez.cv
theorem Xe(l:List Ez):(Yc l).length=l.length:=by simp[Yc]
theorem Xd{l:List Ez}{i:Nat}(h:i<(Yc l).length):(Yc l)[i]'h=(l[i]'(by simpa[Yc]using h)).cv:=by simp[Yc]
def KY(l:List (Int×Int)):List (List Cv):=l.map fun p=>[.sc (.int .u64 p.1), .sc (.int .u64 p.2)]
theorem XZ(l:List (Int×Int)):(KY l).length=l.length:=by simp[KY]
theorem XX{l:List (Int×Int)}{i:Nat}(h:i<(KY l).length):(KY l)[i]'h=[.sc (.int .u64 (l[i]'(by simpa[KY]using h)).1), .sc (.int .u64 (l[i]'(by simpa[KY]using h)).2)]:=by simp[KY]
structure Cz where
 f:List (Int×Int)
 hs:List (Bool×List Ez)
 fr:List Int
 od:List Int
 (z1 z2 z3 z4:Bool)
def XW(hs:List (Bool×List Ez)):List (List Cv):=hs.map fun p=>[.sl p.1 14 (Yc p.2)]
def Cz.cv(c:Cz):List Cv:=[.sl c.z1 2 (KY c.f), .sl c.z2 1 (XW c.hs), .sl c.z3 1 (Xj c.fr), .sl c.z4 1 (Xj c.od)]
def Yo(c:Cz):EV:= .agg [.c (.sl c.z1 2 (KY c.f)), .c (.sl c.z2 1 (XW c.hs)), .c (.sl c.z3 1 (Xj c.fr)), .c (.sl c.z4 1 (Xj c.od))]
theorem Xo(l:List (Bool×List Ez)):(XW l).length=l.length:=by simp[XW]
theorem Xz{l:List (Bool×List Ez)}{i:Nat}(h:i<(XW l).length):(XW l)[i]'h=[.sl (l[i]'(by simpa[XW]using h)).1 14 (Yc (l[i]'(by simpa[XW]using h)).2)]:=by simp[XW]
def Xrz:List Cv→Option Ez
 |[.sc (.int .i64 h), .sc (.int .i64 a), .sc (.int .i64 k), .sc (.int .u64 x), .sc (.int .u64 y), .sc (.int .u64 z), .sc (.bool p), .sc (.bool q), .sc (.int .i64 c), .sc (.int .i64 d), .sc (.int .i64 e), .sl z1 1 l1, .sl z2 1 l2, .sl z3 1 l3]=>
  (match unI l1,unI l2,unI l3 with
   |some m1,some m2,some m3=>some ⟨⟨h,a,k,x,y,z,p,q,c,d,e,m1,m2,m3⟩,z1,z2,z3⟩
   |_,_,_=>none)
 |_=>none
theorem Xwt{l:List Cv}{x:Ez}(h:Xrz l=some x):l=x.cv:=by
 unfold Xrz at h;split at h
 ·split at h
  ·rename_i m1 m2 m3 h1 h2 h3;injection h with h;subst h;simp only[Ez.cv,←YK h1,←YK h2,←YK h3]
  ·cases h
 ·cases h
theorem Xwu(x:Ez):Xrz x.cv=some x:=by simp[Xrz,Ez.cv,Xa]
def Xow:List (List Cv)→Option (List Ez)
 |[]=>some []
 |a::r=>(match Xrz a,Xow r with|some x,some l=>some (x::l)|_,_=>none)
theorem Ya(l:List Ez):Xow (Yc l)=some l:=by
 induction l with
 |nil=>rfl
 |cons a r ih=>simp only[Yc,List.map_cons,Xow,Xwu]at*;rw[ih]
theorem G6{els:List (List Cv)}{xs:List Ez}(h:Xow els=some xs):els=Yc xs:=by
 induction els generalizing xs with
 |nil=>injection h with h;subst h;rfl
 |cons a r ih=>
  simp only[Xow]at h;split at h
  ·rename_i x l h1 h2;injection h with h;subst h;rw[ih h2,Xwt h1];rfl
  ·cases h
abbrev cA(c:Cz):EV:= .ep 4 [[.sl c.z1 2 (KY c.f), .sl c.z2 1 (XW c.hs), .sl c.z3 1 (Xj c.fr), .sl c.z4 1 (Xj c.od)]] 0 0
abbrev cB(c:Cz):List Cx:=[.c (.sl c.z1 2 (KY c.f)), .c (.sl c.z2 1 (XW c.hs)), .c (.sl c.z3 1 (Xj c.fr)), .c (.sl c.z4 1 (Xj c.od))]
abbrev cV(c:Cz)(z:Bool)(l:List Ez):List Cx:=[.c (.sl c.z1 2 (KY c.f)), .c (.sl c.z2 1 (XW c.hs)), .c (.sl c.z3 1 (Xj c.fr)), .c (.sl c.z4 1 (Xj c.od)), .c (.sl z 14 (Yc l))]
end Go.Proofs.YtjhfcfpkgfpoiaaGreatDoor
namespace Go.Proofs.YtjhfcfpkgfpoiaaGreatDoor
open Go Go.RowKit
set_option maxRecDepth 100000
def XD(k:Int):Bool:=decide (k=1∨k=3∨k=5)
def Xu(k:Int):Bool:=decide (k=2∨k=4∨k=5)
def Jn(k:Int):Bool:=XD k||Xu k
def Ev.reads(e:Ev):Bool:=XD e.kind
def Ev.writes(e:Ev):Bool:=Xu e.kind
def Ev.mem(e:Ev):Bool:=Jn e.kind
end Go.Proofs.YtjhfcfpkgfpoiaaGreatDoor
namespace Go.Proofs.YtjhfcfpkgfpoiaaGreatDoor
open Go Go.RowKit Dw
set_option maxRecDepth 100000
attribute [local simp] Xbs Kb Xaf opE KM evO cEV_int cEV_bool cEV_str cEV_nil cEV_fn Dw.look Dw.put Dw.setD Dw.Xhq shI Xho Xhp unE GM X5 Jj Gx Je YJ XA Jf Hn Kq KD JD Kd K3 K0 Xd6 KK GF VD Xbr Xec Vr Gw Xgy Y4 Xf6 Yq Xf3 Xh1 Yw Xfi K9 chunks Dw.unC Xd7 JK YL Vc Vv KW YZ KP Xbw refs YS Vd over Xd5 eqC List.getElem?_cons_zero List.getElem?_cons_succ List.all_cons List.all_nil ty3 D3 ty4 D4 ty9 D9 Xkn Xkv D22 Xkm Xku D23 Xkl Xkt D24 Xib J7 J6 J5 J4 Xk0 ty31 D31 Xkk D38 Xkj Xks D44 Xki Xkr D50 Xia J3 fo57_1 fo57_2 fo57_3 Xkz eq57 Xh9 J2 J1 Xky Xh8 J0 JZ JY Xkx Xh7 JX JW JV JU JT JS JR JQ JP JO KI KH Xkw ty71 Xkq D71 Xkh JN JM bu75 eq75 ty97 D97 HW H3 Xk5 G9 H2 Xkg ty112 HZ D112 HV Xk4 G8 Xk3 G7 H1 Xkf G0 fo231_0 fo231_1 fo231_2 fo231_3 fo231_4 fo231_5 fo231_6 fo231_7 fo231_8 fo231_9 fo231_10 H4 H0 H6 H5 init0 init1 init2 init3 init4 init5 init6 Jz Xb9 Xdm rdL rdG rdO Xbu Zg Ge G4 Dw.del KB XV Xx YP Xex J9 Xe0 Kl erefs_agg_c XJ XT XI XQ inH Gt Gu VT Kt
theorem Xco(x:Ez):Xq Tryz.prog 41 [evV x] (.val (bV x.e.reads)):=by
 generalize hR:x.e.reads=R;unfold evV;refine Xi (rs:=[.tmp 2]) (Xk _) Tryz.func41 rfl Tryz.ntmps41 rfl (by simp) ?_;by_cases h1:x.e.kind=1
 ·refine Wa Xb fun K J=>?_;simp[h1];apply J;clear J K;refine Wa Xb fun K J=>?_;simp;apply J;clear J K;refine Wp.ret ?_;simp;rw[←hR];simp[Ev.reads,XD,h1]
 ·by_cases h3:x.e.kind=3
  ·refine Wa Xb fun K J=>?_;simp[h3];apply J;clear J K;refine Wa Xb fun K J=>?_;simp;apply J;clear J K;refine Wp.ret ?_;simp;rw[←hR];simp[Ev.reads,XD,h3]
  ·refine Wa Xb fun K J=>?_;simp;apply J;clear J K;refine Wa Xb fun K J=>?_;simp[h1,h3];apply J;clear J K;refine Wp.ret ?_;simp;rw[←hR];simp[Ev.reads,XD,h1,h3]
theorem Xik(x:Ez):Xq Tryz.prog 45 [evV x] (.val (bV x.e.writes)):=by
 generalize hR:x.e.writes=R;unfold evV;refine Xi (rs:=[.tmp 2]) (Xk _) Tryz.func45 rfl Tryz.ntmps45 rfl (by simp) ?_;by_cases h1:x.e.kind=2
 ·refine Wa Xb fun K J=>?_;simp[h1];apply J;clear J K;refine Wa Xb fun K J=>?_;simp;apply J;clear J K;refine Wp.ret ?_;simp;rw[←hR];simp[Ev.writes,Xu,h1]
 ·by_cases h3:x.e.kind=4
  ·refine Wa Xb fun K J=>?_;simp[h3];apply J;clear J K;refine Wa Xb fun K J=>?_;simp;apply J;clear J K;refine Wp.ret ?_;simp;rw[←hR];simp[Ev.writes,Xu,h3]
  ·refine Wa Xb fun K J=>?_;simp;apply J;clear J K;refine Wa Xb fun K J=>?_;simp[h1,h3];apply J;clear J K;refine Wp.ret ?_;simp;rw[←hR];simp[Ev.writes,Xu,h1,h3]
end Go.Proofs.YtjhfcfpkgfpoiaaGreatDoor
namespace Go.Proofs.YtjhfcfpkgfpoiaaGreatDoor
open Go Go.RowKit
set_option maxRecDepth 100000
def Xbe(l:List Int)(i:Nat):Bool:=decide (0≤l.getD i 0∧(0<i→l.getD (i - 1) 0<l.getD i 0))
def rising(l:List Int):Bool:=(List.range l.length).all (Xbe l)
theorem all_false{n i:Nat}{f:Nat→Bool}(hi:i<n)(h:f i=false):(List.range n).all f=false:=by
 rw[List.all_eq_false];exact⟨i,List.mem_range.2 hi,by simp[h]⟩
theorem all_true{n:Nat}{f:Nat→Bool}(h:∀i,i<n→f i=true):(List.range n).all f=true:=by
 rw[List.all_eq_true];exact fun i hi=>h i (List.mem_range.1 hi)
theorem Y7{P:Nat→Prop}{k:Nat}(h:∀i,i<k→P i)(hk:P k):∀i,i<k+1→P i:=fun i hi=>by
 rcases Nat.lt_or_ge i k with g|g
 ·exact h i g
 ·obtain rfl:i=k:=by omega
  exact hk
def X3(l:List Int)(at_:Int):Bool:=rising l&&(decide (l.length=0)||decide (l.getD (l.length - 1) 0<at_))
def cellAt(l:List (Int×Int))(i:Nat):Bool:=decide (Int.tmod (l.getD i (0,0)).1 8=0∧(0<i→(l.getD (i - 1) (0,0)).1<(l.getD i (0,0)).1))
def VC(l:List (Int×Int)):Bool:=(List.range l.length).all (cellAt l)
def JC(l:List (Int×Int))(x:Int):Int:=((l.find? fun p=>decide (p.1=x)).map (·.2)).getD 0
theorem Xmq{l:List (Int×Int)}{x:Int}(h:∀i,i<l.length→(l.getD i (0,0)).1≠x):JC l x=0:=by
 have:l.find? (fun p=>decide (p.1=x))=none:=by
  rw[List.find?_eq_none];intro p hp;obtain⟨i,hi,rfl⟩:=List.getElem_of_mem hp;have:=h i hi;simpa[List.getD_eq_getElem?_getD,List.getElem?_eq_getElem hi]using this
 simp[JC,this]
def Xf8(p:Int)(k:Int):Bool:=decide (p / 2%2=1)&&XD k||decide (p%2=1)&&Xu k
section
structure Ym6(w:World) where
 val:World
 more:Below w.heap.size w val
instance (w:World):Nonempty (Ym6 w):=⟨⟨w,Below.refl _ _⟩⟩
section
variable {P:Program}
end
end
def inB(l:List Int)(n:Int):Bool:=decide (n∈l)
def Hy(es:List Ev)(a b:Int):Bool:=
 decide (0≤a∧0≤b∧a<es.length∧b<es.length)&&
  (decide ((es.getD a.toNat default).hart=(es.getD b.toNat default).hart∧(es.getD a.toNat default).pos<(es.getD b.toNat default).pos)&&((es.getD a.toNat default).mem&&(es.getD b.toNat default).mem))
def XM(e:Ev):Bool:=decide (0≤e.hart∧e.hart<8∧0≤e.pos)
def Gk(e:Ev):Bool:=decide (e.addr=0∧e.load=0∧e.store=0∧e.aq=false∧e.rl=false∧e.pair=0∧e.da.length+e.dd.length+e.dw.length=0∧0≤e.pred∧e.pred≤15∧0≤e.succ∧e.succ≤15)
def XY(e:Ev):Bool:=
 decide (Int.tmod e.addr 8=0∧(e.reads=true∨e.load=0)∧(e.writes=true∨e.store=0)∧e.pred=0∧e.succ=0∧((e.kind=1∨e.kind=2)→e.aq=false∧e.rl=false)∧
  (e.kind=4→0≤e.pair∧e.pair<e.pos)∧(e.kind≠4→e.pair=0))&&(X3 e.da e.pos&&(X3 e.dd e.pos&&(X3 e.dw e.pos&&decide (e.writes=true∨e.dd.length=0))))
def Xl(e:Ev):Bool:=XM e&&(if e.kind=6 then Gk e else e.mem&&XY e)
def Yt(b:Bool):Int:=if b then 0 else 2
def GL(e:Ev):Prop:=e.da.length≤120∧e.dd.length≤120∧e.dw.length≤120
theorem Yfy(h a x y z:Int)(p q:Bool)(c d e:Int)(da dd dw:List Int):Xl ⟨h,a,4,x,y,z,p,q,c,d,e,da,dd,dw⟩=
  decide ((0≤h∧h<8∧0≤a)∧Int.tmod x 8=0∧y=0∧c=0∧d=0∧(0≤e∧e<a)∧X3 da a=true∧X3 dd a=true∧X3 dw a=true):=by
 rw[Bool.eq_iff_iff];simp only[Xl,XM,XY];generalize Int.tmod x 8=t;simp[Ev.mem,Ev.reads,Ev.writes,Jn,XD,Xu,and_assoc]
def Xro(l:List Ev)(i:Nat):Bool:=
 let e:=l.getD i default
 decide ((l.getD e.pair.toNat default).kind=3∧(l.getD e.pair.toNat default).addr=e.addr)&&
  (List.range i).all fun k=>decide ((k:Int)≤e.pair∨(l.getD k default).kind≠3∧(l.getD k default).kind≠4)
def rowAt(hart:Int)(l:List Ev)(i:Nat):Bool:=
 let e:=l.getD i default
 (Xl e&&(decide (e.hart=hart)&&decide (e.pos=i)))&&(decide (e.kind≠4)||Xro l i)
def Xkp(hart:Int)(l:List Ev):Bool:=(List.range l.length).all (rowAt hart l)
def Xqo(b:Bool):Int:=if b then 0 else 4
def Few(es:List Ev):Prop:=∀i,i<es.length→GL (es.getD i default)
def Yig(l:List Ev)(i:Nat):Prop:=(l.getD i default).kind≠3∧(l.getD i default).kind≠4
theorem Xne{l:List Ev}{k m j:Nat}{e:Ev}(hj:e.pair=(j:Int))(he:l.getD k default=e)(h1:j<m)(h2:m<k)(h:¬Yig l m):Xro l k=false:=by
 rw[Xro,he];simp only[Bool.and_eq_false_iff];refine .inr (all_false h2 (decide_eq_false ?_));rw[hj];intro g;rcases g with g|g
 ·omega
 ·exact h g
theorem HS{e:Ev}(h:Xl e=true)(h4:e.kind=4):0≤e.pair∧e.pair<e.pos:=by
 obtain⟨h,a,k,x,y,z,q,r,c,d,pr,da,dd,dw⟩:=e;obtain rfl:k=4:=h4;rw[Yfy]at h;obtain⟨_,_,_,_,_,h,_⟩:=of_decide_eq_true h;exact h
def btw(a b:Nat)(p:Nat→Bool):Bool:=(List.range b).any fun m=>decide (a<m)&&p m
theorem Xa4{a b m:Nat}{p:Nat→Bool}(h1:a<m)(h2:m<b)(h:p m=true):btw a b p=true:=by
 unfold btw;rw[List.any_eq_true];exact⟨m,List.mem_range.2 h2,by simp[h1,h]⟩
theorem Y8{a k:Nat}{p:Nat→Bool}(h:∀m,a<m→m<k→p m=false)(hk:p k=false):∀m,a<m→m<k+1→p m=false:=fun m h1 h2=>by
 rcases Nat.lt_or_ge m k with g|g
 ·exact h m h1 g
 ·obtain rfl:m=k:=by omega
  exact hk
theorem Xod{a b:Nat}{p:Nat→Bool}(h:∀m,a<m→m<b→p m=false):btw a b p=false:=by
 unfold btw;rw[List.any_eq_false];intro m hm;by_cases g:a<m
 ·simp[g,h m g (List.mem_range.1 hm)]
 ·simp[g]
def p2(es:List Ev)(x:Int)(m:Nat):Bool:=(es.getD m default).writes&&decide ((es.getD m default).addr=x)
def p4(es:List Ev)(j k:Int)(m:Nat):Bool:=decide ((es.getD m default).kind=6)&&(Xf8 (es.getD m default).pred j&&Xf8 (es.getD m default).succ k)
def p12(es:List Ev)(k v x:Int)(m:Nat):Bool:=XD k&&(decide (v=m)&&((es.getD m default).writes&&(inB (es.getD m default).da x||inB (es.getD m default).dd x)))
def p13(es:List Ev)(k x:Int)(m:Nat):Bool:=Xu k&&((es.getD m default).mem&&inB (es.getD m default).da x)
def Ye4(es:List Ev)(fr:List Int)(a b:Nat):Int→Bool
 |1=>(es.getD b default).writes&&decide ((es.getD a default).addr=(es.getD b default).addr)
 |2=>!(btw a b (p2 es (es.getD a default).addr))&&
   ((es.getD a default).reads&&((es.getD b default).reads&&decide ((es.getD a default).addr=(es.getD b default).addr∧fr.getD a 0≠fr.getD b 0)))
 |3=>decide ((es.getD a default).kind=4∨(es.getD a default).kind=5)&&((es.getD b default).reads&&decide (fr.getD b 0=a))
 |4=>btw a b (p4 es (es.getD a default).kind (es.getD b default).kind)
 |5=>(es.getD a default).aq
 |6=>(es.getD b default).rl
 |7=>((es.getD a default).aq||(es.getD a default).rl)&&((es.getD b default).aq||(es.getD b default).rl)
 |8=>decide ((es.getD b default).kind=4∧(es.getD b default).pair=(es.getD a default).pos)
 |9=>inB (es.getD b default).da (es.getD a default).pos
 |10=>inB (es.getD b default).dd (es.getD a default).pos
 |11=>(es.getD b default).writes&&inB (es.getD b default).dw (es.getD a default).pos
 |12=>btw a b (p12 es (es.getD b default).kind (fr.getD b 0) (es.getD a default).pos)
 |13=>btw a b (p13 es (es.getD b default).kind (es.getD a default).pos)
 |_=>false
def Vw(es:List Ev)(fr:List Int)(a b:Nat)(r:Int):Bool:=Hy es a b&&Ye4 es fr a b r
structure Xd3(es:List Ev):Prop where
 n:es.length≤1000
 few:Few es
 sides:∀i,i<es.length→0≤(es.getD i default).pred∧(es.getD i default).pred≤15∧0≤(es.getD i default).succ∧(es.getD i default).succ≤15
end Go.Proofs.YtjhfcfpkgfpoiaaGreatDoor
namespace Go.Proofs.YtjhfcfpkgfpoiaaGreatDoor
open Go Go.RowKit Dw
set_option maxRecDepth 100000
attribute [local simp] Xbs Kb Xaf opE KM evO cEV_int cEV_bool cEV_str cEV_nil cEV_fn Dw.look Dw.put Dw.setD Dw.Xhq shI Xho Xhp unE GM X5 Jj Gx Je YJ XA Jf Hn Kq KD JD Kd K3 K0 Xd6 KK GF VD Xbr Xec Vr Gw Xgy Y4 Xf6 Yq Xf3 Xh1 Yw Xfi K9 chunks Dw.unC Xd7 JK YL Vc Vv KW YZ KP Xbw refs YS Vd over Xd5 eqC List.getElem?_cons_zero List.getElem?_cons_succ List.all_cons List.all_nil ty3 D3 ty4 D4 ty9 D9 Xkn Xkv D22 Xkm Xku D23 Xkl Xkt D24 Xib J7 J6 J5 J4 Xk0 ty31 D31 Xkk D38 Xkj Xks D44 Xki Xkr D50 Xia J3 fo57_1 fo57_2 fo57_3 Xkz eq57 Xh9 J2 J1 Xky Xh8 J0 JZ JY Xkx Xh7 JX JW JV JU JT JS JR JQ JP JO KI KH Xkw ty71 Xkq D71 Xkh JN JM bu75 eq75 ty97 D97 HW H3 Xk5 G9 H2 Xkg ty112 HZ D112 HV Xk4 G8 Xk3 G7 H1 Xkf G0 fo231_0 fo231_1 fo231_2 fo231_3 fo231_4 fo231_5 fo231_6 fo231_7 fo231_8 fo231_9 fo231_10 H4 H0 H6 H5 init0 init1 init2 init3 init4 init5 init6 Jz Xb9 Xdm rdL rdG rdO Xbu Zg Ge G4 Dw.del KB XV Xx YP Xex J9 Xe0 Kl erefs_agg_c XJ XT XI XQ inH Gt Gu VT Kt
theorem Ev.eta'(e:Ev):(⟨e.hart,e.pos,e.kind,e.addr,e.load,e.store,e.aq,e.rl,e.pred,e.succ,e.pair,e.da,e.dd,e.dw⟩:Ev)=e:=rfl
def Kw(f:Ev→Bool):List EV→Option (Prop×YX)
 |[v]=>(match X8 v with|some x=>some (True, .val (bV (f x.e)))|none=>none)
 |_=>none
theorem Xay{f:Ev→Bool}{F:FuncId}(H:∀x,Xq Tryz.prog F [evV x] (.val (bV (f x.e)))):∀vs p r,Kw f vs=some (p,r)→p→Xq Tryz.prog F vs r:=by
 intro vs p r h hp;unfold Kw at h;split at h
 ·split at h
  ·rename_i x hx;simp only[Option.some.injEq,Prod.mk.injEq]at h;obtain⟨rfl,rfl⟩:=h;exact Yy (.cons (Kx hx) .nil) (H x)
  ·cases h
 ·cases h
def se1:Dw.Spec:=Xn 41 (Kw Ev.reads) (Xn 45 (Kw Ev.writes) Xao)
theorem Xv:XF Tryz.prog se1:=
 Xp ⟨⟨_,Tryz.func41,rfl,rfl⟩⟩ (Xay Xco) (Xp ⟨⟨_,Tryz.func45,rfl,rfl⟩⟩ (Xay Xik) Xb)
theorem ZG(x:Ez):Xq Tryz.prog 16 [evV x] (.val (bV x.e.mem)):=by
 have hm:x.e.mem=(x.e.reads||x.e.writes):=rfl;rw[hm];unfold evV;refine Xi (rs:=[.tmp 2]) (Xk _) Tryz.func16 rfl Tryz.ntmps16 rfl (by simp) ?_;cases hr:x.e.reads
 ·refine Wa Xv fun K J=>?_;simp;apply J;clear J K;refine Wa Xv fun K J=>?_;simp[se1,Xn,Kw,X8,unS,Xa,Ev.eta',hr];apply J;clear J K;refine Wp.ret ?_;simp
 ·refine Wa Xv fun K J=>?_;simp;apply J;clear J K;refine Wa Xv fun K J=>?_;simp[se1,Xn,Kw,X8,unS,Xa,Ev.eta',hr];apply J;clear J K;refine Wp.ret ?_;simp
theorem Xxg(z:Bool)(xs:List Int)(n:Int)(hn:xs.length≤1000000):Xq Tryz.prog 115 [sV z 1 (Xj xs),iV .i64 n] (.val (bV (inB xs n))):=by
 refine Xi (rs:=[.tmp 4]) (Xk _) Tryz.func115 rfl Tryz.ntmps115 rfl (by simp) ?_;refine Wa Xv fun K J=>?_;simp;apply J;clear J K;refine We fun S hS=>?_;refine Wa Xv fun K J=>?_;simp;apply J;clear J K;refine Wp.block ?_;refine Wp.loop (fun k s=>∃i:Nat,i+k=xs.length∧inB (xs.drop i) n=inB xs n∧s=⟨[(0,sV z 1 (Xj xs)),(1,iV .i64 n),(4,bV false),(5,iV .i64 i)],[]⟩)
  xs.length (s0:=⟨[(0,sV z 1 (Xj xs)),(1,iV .i64 n),(4,bV false),(5,iV .i64 (0:Nat))],[]⟩) ?_ ⟨0,by simp,by simp,rfl⟩ fun k s ⟨i,hik,hr,hs⟩=>?_
 ·apply Gh.of<;>simp
 subst hs;refine We fun S hS=>?_;refine Wa Xv fun K J=>?_;simp[Xf];apply J;clear J K;refine Wp.cond rfl (fun hc=>?_) (fun hc=>?_)
 ·have hi:i<xs.length:=by simpa using hc
  have hw:IntKind.i64.wrap ((i:Int)+1)=(i+1:Nat):=by rw[wrap_small]<;>omega
  rw[List.drop_eq_getElem_cons hi]at hr;by_cases hx:xs[i]=n
  ·refine Wp.skip ?_;refine hS _ ?_;clear hS S;refine We fun S hS=>?_;refine Wp.block ?_;refine Wa Xv fun K J=>?_;simp[hi,Xf,Xg,hx];apply J;clear J K;refine Wt (by simp) ?_;refine Wa Xv fun K J=>?_;simp;apply J;clear J K;refine Wp.ret ?_;simp;rw[←hr,hx];simp[inB]
  ·refine Wp.skip ?_;refine hS _ ?_;clear hS S;refine We fun S hS=>?_;refine Wp.block ?_;refine Wa Xv fun K J=>?_;simp[hi,Xf,Xg,hx];apply J;clear J K;refine Wf (by simp) ?_;refine Wp.skip ?_;refine hS _ ?_;clear hS S;refine Wb Xv fun K J=>?_;simp[hw];apply J;clear J K;refine⟨⟨[(0,sV z 1 (Xj xs)),(1,iV .i64 n),(4,bV false),(5,iV .i64 (i+1:Nat))],[]⟩,k - 1,?_,by omega,i+1,by omega,?_,rfl⟩
   ·apply Gh.of<;>simp
   rw[←hr];have:¬n=xs[i]:=fun e=>hx e.symm;unfold inB;simp only[List.mem_cons,this,false_or]
 ·have hi:¬i<xs.length:=by simpa using hc
  rw[List.drop_eq_nil_of_le (by omega)]at hr;refine Wp.exit ?_;simp only[XV,Xx,if_true];clear hS S;refine hS _ ?_;clear hS S;refine Wa Xv fun K J=>?_;simp;apply J;clear J K;refine Wp.ret ?_;simp;rw[←hr];simp[inB]
theorem Xo7(p:Int)(x:Ez)(h0:0≤p)(h1:p≤15):Xq Tryz.prog 114 [iV .i64 p,evV x] (.val (bV (Xf8 p x.e.kind))):=by
 have d1:IntKind.i64.wrap p=p:=by rw[wrap_small]<;>omega
 have d2:IntKind.i64.wrap (p.tdiv 2)=p / 2:=by rw[Int.tdiv_eq_ediv_of_nonneg h0,wrap_small]<;>omega
 have m1:p.tmod 2=p%2:=Int.tmod_eq_emod_of_nonneg h0;have m2:(p / 2).tmod 2=p / 2%2:=Int.tmod_eq_emod_of_nonneg (by omega);have hb:Xf8 p x.e.kind=(decide (p / 2%2=1)&&x.e.reads||decide (p%2=1)&&x.e.writes):=rfl;rw[hb];clear hb;unfold evV;refine Xi (rs:=[.tmp 4]) (Xk _) Tryz.func114 rfl Tryz.ntmps114 rfl (by simp) ?_;obtain⟨q1,e1⟩:∃q,p / 2%2=q:=⟨_,rfl⟩;obtain⟨q2,e2⟩:∃q,p%2=q:=⟨_,rfl⟩;cases hr:x.e.reads<;>by_cases g1:q1=1<;>by_cases g2:q2=1
 all_goals
  repeat(first|((first|refine Wa Xv fun K J=>?_|refine Wb Xv fun K J=>?_|refine Wc Xv [] fun K J=>?_|refine Wd Xv [] fun K J=>?_);simp[se1,Xn,Kw,X8,unS,Xa,Ev.eta',d1,d2,m1,m2,e1,e2,hr,g1,g2];done)|((first|refine Wa Xv fun K J=>?_|refine Wb Xv fun K J=>?_|refine Wc Xv [] fun K J=>?_|refine Wd Xv [] fun K J=>?_);simp[se1,Xn,Kw,X8,unS,Xa,Ev.eta',d1,d2,m1,m2,e1,e2,hr,g1,g2];with_reducible refine J _ ?_;clear J K)|((first|refine Wa Xv fun K J=>?_|refine Wb Xv fun K J=>?_|refine Wc Xv [] fun K J=>?_|refine Wd Xv [] fun K J=>?_);simp[se1,Xn,Kw,X8,unS,Xa,Ev.eta',d1,d2,m1,m2,e1,e2,hr,g1,g2];apply And.intro;(·kernel_rfl);with_reducible refine J _ ?_;clear J K)|(refine We fun S hS=>?_)|(refine Wp.block ?_)|(refine Wp.skip ?_)|(apply Wp.condT; · (simp[se1,Xn,Kw,X8,unS,Xa,Ev.eta',d1,d2,m1,m2,e1,e2,hr,g1,g2];done))|(apply Wp.condF; · (simp[se1,Xn,Kw,X8,unS,Xa,Ev.eta',d1,d2,m1,m2,e1,e2,hr,g1,g2];done))|(refine hS _ ?_;clear hS S)|(clear hS S;refine hS _ ?_;clear hS S)|(clear hS S;clear hS S;refine hS _ ?_;clear hS S)|(clear hS S;clear hS S;clear hS S;refine hS _ ?_;clear hS S))
  refine Wp.ret ?_;simp[e1,e2,g1,g2]
def Xwf:List EV→Option (Prop×YX)
 |[.one (.c (.sl _ 1 els)), .one (.c (.sc (.int .i64 n)))]=>(match unI els with|some xs=>some (xs.length≤1000000, .val (bV (inB xs n)))|none=>none)
 |_=>none
def Xjs:List EV→Option (Prop×YX)
 |[.one (.c (.sc (.int .i64 p))),v]=>(match X8 v with|some x=>some (0≤p∧p≤15, .val (bV (Xf8 p x.e.kind)))|none=>none)
 |_=>none
def se2:Dw.Spec:=Xn 16 (Kw Ev.mem) (Xn 115 Xwf (Xn 114 Xjs se1))
theorem Hb:XF Tryz.prog se2:=by
 refine Xp ⟨⟨_,Tryz.func16,rfl,rfl⟩⟩ (Xay ZG) (Xp ⟨⟨_,Tryz.func115,rfl,rfl⟩⟩ (fun vs p r h hp=>?_) (Xp ⟨⟨_,Tryz.func114,rfl,rfl⟩⟩ (fun vs p r h hp=>?_) Xv))
 ·unfold Xwf at h;split at h
  ·split at h
   ·rename_i xs hx;simp only[Option.some.injEq,Prod.mk.injEq]at h;obtain⟨rfl,rfl⟩:=h;rw[YK hx];exact Xxg _ _ _ hp
   ·cases h
  ·cases h
 ·unfold Xjs at h;split at h
  ·split at h
   ·rename_i x hx;simp only[Option.some.injEq,Prod.mk.injEq]at h;obtain⟨rfl,rfl⟩:=h;refine Yy (.cons (Leq.refl _) (.cons (Kx hx) .nil)) (Xo7 _ _ hp.1 hp.2)
   ·cases h
  ·cases h
theorem Xio(z:Bool)(xs:List Int)(hn:xs.length≤1000000):Xq Tryz.prog 122 [sV z 1 (Xj xs)] (.val (bV (rising xs))):=by
 refine Xi (rs:=[.tmp 2]) (Xk _) Tryz.func122 rfl Tryz.ntmps122 rfl (by simp) ?_;refine Wa Xb fun K J=>?_;simp;apply J;clear J K;refine We fun S hS=>?_;refine Wa Xb fun K J=>?_;simp;apply J;clear J K;refine Wp.block ?_;refine Wp.loop (fun k s=>∃i:Nat,i+k=xs.length∧(∀j,j<i→Xbe xs j=true)∧s=⟨[(0,sV z 1 (Xj xs)),(3,iV .i64 i)],[]⟩)
  xs.length (s0:=⟨[(0,sV z 1 (Xj xs)),(3,iV .i64 (0:Nat))],[]⟩) ?_ ⟨0,by simp,by simp,rfl⟩ fun k s ⟨i,hik,hr,hs⟩=>?_
 ·apply Gh.of<;>simp
 subst hs;refine We fun S hS=>?_;refine Wa Xb fun K J=>?_;simp[Xf];apply J;clear J K;refine Wp.cond rfl (fun hc=>?_) (fun hc=>?_)
 ·have hi:i<xs.length:=by simpa using hc
  have hw:IntKind.i64.wrap ((i:Int)+1)=(i+1:Nat):=by rw[wrap_small]<;>omega
  have hgi:xs.getD i 0=xs[i]:=by simp[List.getD_eq_getElem?_getD,List.getElem?_eq_getElem hi]
  clear hc;have no:¬Xbe xs i=true→rising xs=false:=fun h=>all_false hi (by simpa using h);by_cases h8:xs[i]<0
  ·repeat(first|(refine We fun S hS=>?_)|(refine Wp.block ?_)|(refine Wp.skip ?_)|(refine hS _ ?_;clear hS S)|(clear hS S;refine hS _ ?_;clear hS S)|(clear hS S;clear hS S;refine hS _ ?_;clear hS S))
   ((first|refine Wa Xb fun K J=>?_|refine Wb Xb fun K J=>?_|refine Wc Xb [] fun K J=>?_|refine Wd Xb [] fun K J=>?_);simp[hi,Xf,Xg,h8];apply And.intro;(·kernel_rfl);with_reducible refine J _ ?_;clear J K)
   refine hS _ ?_;clear hS S;refine Wt (by simp) ?_;refine Wa Xb fun K J=>?_;simp;apply J;clear J K;refine Wp.ret ?_;simp;exact no (by simp[Xbe,hi];intro;omega)
  by_cases h0:0<i
  case neg=>
   obtain rfl:i=0:=by omega
   repeat(first|(refine We fun S hS=>?_)|(refine Wp.block ?_)|(refine Wp.skip ?_)|(refine hS _ ?_;clear hS S)|(clear hS S;refine hS _ ?_;clear hS S)|(clear hS S;clear hS S;refine hS _ ?_;clear hS S))
   ((first|refine Wa Xb fun K J=>?_|refine Wb Xb fun K J=>?_|refine Wc Xb [] fun K J=>?_|refine Wd Xb [] fun K J=>?_);simp[hi,Xf,Xg,h8];apply And.intro;(·kernel_rfl);with_reducible refine J _ ?_;clear J K)
   refine hS _ ?_;clear hS S;refine Wf (by simp) ?_;refine Wp.skip ?_;refine hS _ ?_;clear hS S;refine Wb Xb fun K J=>?_;simp;apply J;clear J K;refine⟨⟨[(0,sV z 1 (Xj xs)),(3,iV .i64 (0+1:Nat))],[]⟩,k - 1,?_,by omega,0+1,by omega,Y7 hr ?_,rfl⟩
   ·apply Gh.of<;>simp[IntKind.wrap,IntKind.bits,IntKind.signed]
   simp[Xbe,hi];omega
  have hj:i - 1<xs.length:=by omega
  have hw1:IntKind.i64.wrap ((i:Int) - 1)=((i - 1:Nat):Int):=by rw[wrap_small]<;>omega
  by_cases hlt:xs[i]≤xs[i - 1]
  ·repeat(first|(refine We fun S hS=>?_)|(refine Wp.block ?_)|(refine Wp.skip ?_)|(refine hS _ ?_;clear hS S)|(clear hS S;refine hS _ ?_;clear hS S)|(clear hS S;clear hS S;refine hS _ ?_;clear hS S))
   ((first|refine Wa Xb fun K J=>?_|refine Wb Xb fun K J=>?_|refine Wc Xb [] fun K J=>?_|refine Wd Xb [] fun K J=>?_);simp[hi,Xf,Xg,h8,h0,hw1,hj,hlt];apply And.intro;(·kernel_rfl);with_reducible refine J _ ?_;clear J K)
   refine hS _ ?_;clear hS S;refine Wt (by simp) ?_;refine Wa Xb fun K J=>?_;simp;apply J;clear J K;refine Wp.ret ?_;simp;exact no (by simp[Xbe,hi,hj,h0];intro;omega)
  ·repeat(first|(refine We fun S hS=>?_)|(refine Wp.block ?_)|(refine Wp.skip ?_)|(refine hS _ ?_;clear hS S)|(clear hS S;refine hS _ ?_;clear hS S)|(clear hS S;clear hS S;refine hS _ ?_;clear hS S))
   ((first|refine Wa Xb fun K J=>?_|refine Wb Xb fun K J=>?_|refine Wc Xb [] fun K J=>?_|refine Wd Xb [] fun K J=>?_);simp[hi,Xf,Xg,h8,h0,hw1,hj,hlt];apply And.intro;(·kernel_rfl);with_reducible refine J _ ?_;clear J K)
   refine hS _ ?_;clear hS S;refine Wf (by simp) ?_;refine Wp.skip ?_;refine hS _ ?_;clear hS S;refine Wb Xb fun K J=>?_;simp[hw];apply J;clear J K;refine⟨⟨[(0,sV z 1 (Xj xs)),(3,iV .i64 (i+1:Nat))],[]⟩,k - 1,?_,by omega,i+1,by omega,Y7 hr ?_,rfl⟩
   ·apply Gh.of<;>simp
   simp[Xbe,hi,hj];omega
 ·have hi:¬i<xs.length:=by simpa using hc
  have hv:rising xs=true:=all_true fun j hj=>hr j (by omega);refine Wp.exit ?_;simp only[XV,Xx,if_true];clear hS S;refine hS _ ?_;clear hS S;refine Wa Xb fun K J=>?_;simp;apply J;clear J K;refine Wp.ret ?_;simp;exact hv
def ZX:List EV→Option (Prop×YX)
 |[.one (.c (.sl _ 1 els))]=>(match unI els with|some xs=>some (xs.length≤1000000, .val (bV (rising xs)))|none=>none)
 |_=>none
def sb1:Dw.Spec:=Xn 122 ZX Xao
theorem Xe3:XF Tryz.prog sb1:=by
 refine Xp ⟨⟨_,Tryz.func122,rfl,rfl⟩⟩ (fun vs p r h hp=>?_) Xb;unfold ZX at h;split at h
 ·split at h
  ·rename_i xs hx;simp only[Option.some.injEq,Prod.mk.injEq]at h;obtain⟨rfl,rfl⟩:=h;rw[YK hx];exact Xio _ _ hp
  ·cases h
 ·cases h
theorem Xlz(z:Bool)(xs:List Int)(m:Int)(hn:xs.length≤1000000):Xq Tryz.prog 89 [sV z 1 (Xj xs),iV .i64 m] (.val (bV (X3 xs m))):=by
 refine Xi (rs:=[.tmp 4]) (Xk _) Tryz.func89 rfl Tryz.ntmps89 rfl (by simp) ?_;have hb:X3 xs m=(rising xs&&(decide (xs.length=0)||decide (xs.getD (xs.length - 1) 0<m))):=rfl;rw[hb];clear hb;cases hr:rising xs
 ·refine Wa Xe3 fun K J=>?_;simp;apply J;clear J K;refine Wa Xe3 fun K J=>?_;simp[sb1,Xn,ZX,Xa,hn,hr];apply J;clear J K;refine Wp.ret ?_;simp
 ·by_cases h0:xs.length=0
  ·refine Wa Xe3 fun K J=>?_;simp;apply J;clear J K;refine Wa Xe3 fun K J=>?_;simp[sb1,Xn,ZX,Xa,hr,Xf,h0];apply J;clear J K;refine Wp.ret ?_;simp[h0]
  ·have hj:xs.length - 1<xs.length:=by omega
   have e0:=eq_false h0;have hw1:IntKind.i64.wrap ((xs.length:Int) - 1)=((xs.length - 1:Nat):Int):=by rw[wrap_small]<;>omega
   have hgi:xs.getD (xs.length - 1) 0=xs[xs.length - 1]:=by simp[List.getD_eq_getElem?_getD,List.getElem?_eq_getElem hj]
   rw[hgi];have hne:¬xs=[]:=fun q=>h0 (by rw[q];rfl);refine Wa Xe3 fun K J=>?_;simp;apply J;clear J K;refine Wa Xe3 fun K J=>?_;simp[sb1,Xn,ZX,Xa,hn,hr,Xf,Xg,e0,hw1,hj];apply J;clear J K;refine Wp.ret ?_;simp[h0]
def Zt:List EV→Option (Prop×YX)
 |[.one (.c (.sl _ 1 els)), .one (.c (.sc (.int .i64 m)))]=>(match unI els with|some xs=>some (xs.length≤1000000, .val (bV (X3 xs m)))|none=>none)
 |_=>none
def sb2:Dw.Spec:=Xn 89 Zt (Xn 16 (Kw Ev.mem) se1)
theorem YY:XF Tryz.prog sb2:=by
 refine Xp ⟨⟨_,Tryz.func89,rfl,rfl⟩⟩ (fun vs p r h hp=>?_) (Xp ⟨⟨_,Tryz.func16,rfl,rfl⟩⟩ (Xay ZG) Xv);unfold Zt at h;split at h
 ·split at h
  ·rename_i xs hx;simp only[Option.some.injEq,Prod.mk.injEq]at h;obtain⟨rfl,rfl⟩:=h;rw[YK hx];exact Xlz _ _ _ hp
  ·cases h
 ·cases h
end Go.Proofs.YtjhfcfpkgfpoiaaGreatDoor
