/- What the program and the document compute, as plain data, and laws of it. No condition. -/
import Derived.BigQuiet
import Derived.Deep.QuietTactic
import Derived.IntWalk
import Derived.KernelRfl
import Derived.Lib.Hide
import Derived.WalkKit
import Derived.WalkLawsBesides
import Derived.WalkSpells
import Derived.Test.YtjhfcfpkgfpoiaaGreatDoorDe
import Derived.Test.YtjhfcfpkgfpoiaaGreatDoorProg
import Derived.Test.YtjhfcfpkgfpoiaaGreatDoorWf
import Derived.Test.YtjhfcfpkgfpoiaaGreatDoorWh
namespace Go.Proofs.YtjhfcfpkgfpoiaaGreatDoor
open Go Go.RowKit Dw
set_option maxRecDepth 100000
attribute [local simp] Xbs Kb Xaf opE KM evO cEV_int cEV_bool cEV_str cEV_nil cEV_fn Dw.look Dw.put Dw.setD Dw.Xhq shI Xho Xhp unE GM X5 Jj Gx Je YJ XA Jf Hn Kq KD JD Kd K3 K0 Xd6 KK GF VD Xbr Xec Vr Gw Xgy Y4 Xf6 Yq Xf3 Xh1 Yw Xfi K9 chunks Dw.unC Xd7 JK YL Vc Vv KW YZ KP Xbw refs YS Vd over Xd5 eqC List.getElem?_cons_zero List.getElem?_cons_succ List.all_cons List.all_nil ty3 D3 ty4 D4 ty9 D9 Xkn Xkv D22 Xkm Xku D23 Xkl Xkt D24 Xib J7 J6 J5 J4 Xk0 ty31 D31 Xkk D38 Xkj Xks D44 Xki Xkr D50 Xia J3 fo57_1 fo57_2 fo57_3 Xkz eq57 Xh9 J2 J1 Xky Xh8 J0 JZ JY Xkx Xh7 JX JW JV JU JT JS JR JQ JP JO KI KH Xkw ty71 Xkq D71 Xkh JN JM bu75 eq75 ty97 D97 HW H3 Xk5 G9 H2 Xkg ty112 HZ D112 HV Xk4 G8 Xk3 G7 H1 Xkf G0 fo231_0 fo231_1 fo231_2 fo231_3 fo231_4 fo231_5 fo231_6 fo231_7 fo231_8 fo231_9 fo231_10 H4 H0 H6 H5 init0 init1 init2 init3 init4 init5 init6 Jz Xb9 Xdm rdL rdG rdO Xbu Zg Ge G4 Dw.del KB XV Xx YP Xex J9 Xe0 Kl erefs_agg_c XJ XT XI XQ inH Gt Gu VT Kt
set_option maxHeartbeats 4000000 in
theorem Ydh(x:Ez)(hx:GL x.e)(hk:x.e.kind=3):Xq Tryz.prog 82 [evV x] (.val (iV .i64 (Yt (Xl x.e)))):=by
 obtain⟨n1,n2,n3⟩:=hx;have m1:x.e.da.length≤1000000:=by omega
 have m2:x.e.dd.length≤1000000:=by omega
 have m3:x.e.dw.length≤1000000:=by omega
 refine Xi (rs:=[.tmp 2]) (Xk _) Tryz.func82 rfl Tryz.ntmps82 rfl (by simp) ?_;unfold evV;refine Wa Xc fun K J=>?_;simp[hk];apply J;clear J K;refine Wa Xc fun K J=>?_;simp[sp4,sp3,sp2,sp1,Xn,Xuq,hasB];apply J;clear J K;refine Wa Xc fun K J=>?_;simp;apply J;clear J K;refine Wa Xc fun K J=>?_;simp;apply J;clear J K;refine We fun S hS=>?_;refine Wa Xc fun K J=>?_;simp[IntKind.wrap,IntKind.bits,IntKind.signed];apply J;clear J K;refine Wf (by simp) ?_
 ((first|refine Wa Xc fun K J=>?_|refine Wb Xc fun K J=>?_|refine Wc Xc [5] fun K J=>?_|refine Wd Xc [5] fun K J=>?_);simp;apply And.intro;(·kernel_rfl);with_reducible refine J _ ?_;clear J K)
 refine hS _ ?_;clear hS S;refine We fun S hS=>?_;refine Wa Xc fun K J=>?_;simp[IntKind.wrap,IntKind.bits,IntKind.signed];apply J;clear J K;refine Wt (by simp) ?_;refine Wb Xc fun K J=>?_;simp;apply J;clear J K;refine hS _ ?_;clear hS S;refine We fun S hS=>?_;refine Wa Xc fun K J=>?_;simp[IntKind.wrap,IntKind.bits,IntKind.signed];apply J;clear J K;refine Wf (by simp) ?_;refine Wp.skip ?_;refine hS _ ?_;clear hS S;refine We fun S hS=>?_;refine Wa Xc fun K J=>?_;simp[IntKind.wrap,IntKind.bits,IntKind.signed];apply J;clear J K;refine Wt (by simp) ?_
 ((first|refine Wa Xc fun K J=>?_|refine Wb Xc fun K J=>?_|refine Wc Xc [5] fun K J=>?_|refine Wd Xc [5] fun K J=>?_);simp;apply And.intro;(·kernel_rfl);with_reducible refine J _ ?_;clear J K)
 refine hS _ ?_;clear hS S;refine We fun S hS=>?_;refine Wa Xc fun K J=>?_;simp[IntKind.wrap,IntKind.bits,IntKind.signed];apply J;clear J K;refine Wf (by simp) ?_;refine Wp.skip ?_;refine hS _ ?_;clear hS S;refine We fun S hS=>?_;refine Wp.block ?_;refine We fun S hS=>?_;refine Wa Xc fun K J=>?_;simp;apply J;clear J K;refine Wf (by simp) ?_;refine Wa Xc fun K J=>?_;simp;apply J;clear J K;refine Wp.cond rfl (fun hc=>?_) (fun hc=>?_)
 ·have hq:x.e.hart<0:=by simpa using hc
  have hv:Xl x.e=false:=by
   cases hv:Xl x.e
   ·rfl
   exfalso;simp[Xl,XM,XY,Ev.mem,Ev.reads,Ev.writes,Jn,XD,Xu,hk]at hv;grind
  refine Wp.skip ?_;refine hS _ ?_;clear hS S;refine Wt (by simp[hq]) ?_;refine Wa Xc fun K J=>?_;simp[hq];apply J;clear J K;refine Wp.ret ?_;simp[hv,Yt]
 have hc1:¬(x.e.hart<0):=by simpa using hc
 clear hc;refine Wa Xc fun K J=>?_;simp[hc1];apply J;clear J K;refine Wp.cond rfl (fun hc=>?_) (fun hc=>?_)
 ·have hq:8≤x.e.hart:=by simpa using hc
  have hv:Xl x.e=false:=by
   cases hv:Xl x.e
   ·rfl
   exfalso;simp[Xl,XM,XY,Ev.mem,Ev.reads,Ev.writes,Jn,XD,Xu,hk]at hv;grind
  refine Wp.skip ?_;refine hS _ ?_;clear hS S;refine Wt (by simp[hq]) ?_;refine Wa Xc fun K J=>?_;simp[hq];apply J;clear J K;refine Wp.ret ?_;simp[hv,Yt]
 have hc2:¬(8≤x.e.hart):=by simpa using hc
 clear hc;refine Wa Xc fun K J=>?_;simp[hc2];apply J;clear J K;refine Wp.cond rfl (fun hc=>?_) (fun hc=>?_)
 ·have hq:x.e.pos<0:=by simpa using hc
  have hv:Xl x.e=false:=by
   cases hv:Xl x.e
   ·rfl
   exfalso;simp[Xl,XM,XY,Ev.mem,Ev.reads,Ev.writes,Jn,XD,Xu,hk]at hv;grind
  refine Wp.skip ?_;refine hS _ ?_;clear hS S;refine Wt (by simp[hq]) ?_;refine Wa Xc fun K J=>?_;simp[hq];apply J;clear J K;refine Wp.ret ?_;simp[hv,Yt]
 have hc3:¬(x.e.pos<0):=by simpa using hc
 clear hc;refine Wb Xc fun K J=>?_;simp[hc3,sp4,Xn,Xjq,X8,unS,Xa,m1,m3,Ez.small];apply J;clear J K;refine hS _ ?_;clear hS S;refine Wp.cond rfl (fun hc=>?_) (fun hc=>?_)
 ·have hv:Xl x.e=false:=by
   cases hv:Xl x.e
   ·rfl
   exfalso;simp[Xl,XM,XY,Ev.mem,Ev.reads,Ev.writes,Jn,XD,Xu,hk]at hv;simp[YT]at hc;grind
  have hq:=hc;refine Wa Xc fun K J=>?_;simp[hq];apply J;clear J K;refine Wp.ret ?_;simp[hv,Yt]
 have qpred:x.e.pred=0:=by simp[YT]at hc;grind
 have qsucc:x.e.succ=0:=by simp[YT]at hc;grind
 have qstore:x.e.store=0:=by simp[YT]at hc;grind
 have qdd:x.e.dd=[]:=by simp[YT]at hc;grind
 have qpair:x.e.pair=0:=by simp[YT]at hc;grind
 have hs:=hc;clear hc;refine We fun S hS=>?_;refine Wa Xc fun K J=>?_;simp[qpred,qsucc,qstore,qdd,qpair];apply J;clear J K;refine Wp.cond rfl (fun hc=>?_) (fun hc=>?_)
 ·have hq:¬x.e.addr.tmod 8=0:=by simpa using hc
  have hv:Xl x.e=false:=by
   cases hv:Xl x.e
   ·rfl
   exfalso;simp[Xl,XM,XY,Ev.mem,Ev.reads,Ev.writes,Jn,XD,Xu,hk]at hv;grind
  refine Wp.skip ?_;refine hS _ ?_;clear hS S;refine Wt (by simp[hq]) ?_;refine Wa Xc fun K J=>?_;simp[hq];apply J;clear J K;refine Wp.ret ?_;simp[hv,Yt]
 have hc4:¬(¬x.e.addr.tmod 8=0):=by simpa using hc
 clear hc;refine Wa Xc fun K J=>?_;simp;apply J;clear J K;refine Wf (by simp) ?_;refine Wa Xc fun K J=>?_;simp;apply J;clear J K;refine Wf (by simp) ?_;refine Wa Xc fun K J=>?_;simp;apply J;clear J K;refine Wf (by simp) ?_;refine Wb Xc fun K J=>?_;simp;apply J;clear J K;refine hS _ ?_;clear hS S;refine Wf (by simp) ?_;refine We fun S hS=>?_;refine Wa Xc fun K J=>?_;simp[IntKind.wrap,IntKind.bits,IntKind.signed];apply J;clear J K;refine Wf (by simp) ?_;refine Wa Xc fun K J=>?_;simp[sp4,Xn,KX,Xa,m1];apply J;clear J K;refine Wp.cond rfl (fun hc=>?_) (fun hc=>?_)
 ·have hq:X3 x.e.da x.e.pos=false:=by simpa using hc
  have hv:Xl x.e=false:=by
   cases hv:Xl x.e
   ·rfl
   exfalso;simp[Xl,XM,XY,Ev.mem,Ev.reads,Ev.writes,Jn,XD,Xu,hk]at hv;grind
  refine Wp.skip ?_;refine hS _ ?_;clear hS S;refine Wt (by simp[hq]) ?_;refine Wa Xc fun K J=>?_;simp[hq];apply J;clear J K;refine Wp.ret ?_;simp[hv,Yt]
 have hc5:¬(X3 x.e.da x.e.pos=false):=by simpa using hc
 clear hc;refine Wa Xc fun K J=>?_;simp[hc5,sp4,Xn,KX,Xa,Jv];apply J;clear J K;refine Wf (by simp) ?_;refine Wb Xc fun K J=>?_;simp[sp4,Xn,KX,Xa,m3];apply J;clear J K;refine hS _ ?_;clear hS S;refine Wp.cond rfl (fun hc=>?_) (fun hc=>?_)
 ·have hq:X3 x.e.dw x.e.pos=false:=by simpa using hc
  have hv:Xl x.e=false:=by
   cases hv:Xl x.e
   ·rfl
   exfalso;simp[Xl,XM,XY,Ev.mem,Ev.reads,Ev.writes,Jn,XD,Xu,hk]at hv;grind
  refine Wa Xc fun K J=>?_;simp[hq];apply J;clear J K;refine Wp.ret ?_;simp[hv,Yt]
 have hc6:¬(X3 x.e.dw x.e.pos=false):=by simpa using hc
 clear hc;refine Wp.skip ?_;refine hS _ ?_;clear hS S;refine Wa Xc fun K J=>?_;simp[hc6];apply J;clear J K;refine Wp.ret ?_;simp;simp[Yt,Xl,XM,XY,Ev.mem,Ev.reads,Ev.writes,Jn,XD,Xu,hk,Jv,qpred,qsucc,qstore,qdd,qpair];grind
set_option maxHeartbeats 4000000 in
theorem Ydg(x:Ez)(hx:GL x.e)(hk:x.e.kind=4):Xq Tryz.prog 82 [evV x] (.val (iV .i64 (Yt (Xl x.e)))):=by
 obtain⟨n1,n2,n3⟩:=hx;have m1:x.e.da.length≤1000000:=by omega
 have m2:x.e.dd.length≤1000000:=by omega
 have m3:x.e.dw.length≤1000000:=by omega
 refine Xi (rs:=[.tmp 2]) (Xk _) Tryz.func82 rfl Tryz.ntmps82 rfl (by simp) ?_;unfold evV;refine Wa Xc fun K J=>?_;simp[hk];apply J;clear J K;refine Wa Xc fun K J=>?_;simp[sp4,sp3,sp2,sp1,Xn,Xuq,hasB];apply J;clear J K;refine Wa Xc fun K J=>?_;simp;apply J;clear J K;refine Wa Xc fun K J=>?_;simp;apply J;clear J K;refine We fun S hS=>?_;refine Wa Xc fun K J=>?_;simp[IntKind.wrap,IntKind.bits,IntKind.signed];apply J;clear J K;refine Wf (by simp) ?_
 ((first|refine Wa Xc fun K J=>?_|refine Wb Xc fun K J=>?_|refine Wc Xc [5] fun K J=>?_|refine Wd Xc [5] fun K J=>?_);simp;apply And.intro;(·kernel_rfl);with_reducible refine J _ ?_;clear J K)
 refine hS _ ?_;clear hS S;refine We fun S hS=>?_;refine Wa Xc fun K J=>?_;simp[IntKind.wrap,IntKind.bits,IntKind.signed];apply J;clear J K;refine Wf (by simp) ?_;refine Wp.skip ?_;refine hS _ ?_;clear hS S;refine We fun S hS=>?_;refine Wa Xc fun K J=>?_;simp[IntKind.wrap,IntKind.bits,IntKind.signed];apply J;clear J K;refine Wt (by simp) ?_
 ((first|refine Wa Xc fun K J=>?_|refine Wb Xc fun K J=>?_|refine Wc Xc [5] fun K J=>?_|refine Wd Xc [5] fun K J=>?_);simp;apply And.intro;(·kernel_rfl);with_reducible refine J _ ?_;clear J K)
 refine hS _ ?_;clear hS S;refine We fun S hS=>?_;refine Wa Xc fun K J=>?_;simp[IntKind.wrap,IntKind.bits,IntKind.signed];apply J;clear J K;refine Wt (by simp) ?_
 ((first|refine Wa Xc fun K J=>?_|refine Wb Xc fun K J=>?_|refine Wc Xc [5] fun K J=>?_|refine Wd Xc [5] fun K J=>?_);simp;apply And.intro;(·kernel_rfl);with_reducible refine J _ ?_;clear J K)
 refine hS _ ?_;clear hS S;refine We fun S hS=>?_;refine Wa Xc fun K J=>?_;simp[IntKind.wrap,IntKind.bits,IntKind.signed];apply J;clear J K;refine Wt (by simp) ?_;refine Wb Xc fun K J=>?_;simp;apply J;clear J K;refine hS _ ?_;clear hS S;refine We fun S hS=>?_;refine Wp.block ?_;refine We fun S hS=>?_;refine Wa Xc fun K J=>?_;simp;apply J;clear J K;refine Wf (by simp) ?_;refine Wa Xc fun K J=>?_;simp;apply J;clear J K;refine Wp.cond rfl (fun hc=>?_) (fun hc=>?_)
 ·have hq:x.e.hart<0:=by simpa using hc
  have hv:Xl x.e=false:=by
   cases hv:Xl x.e
   ·rfl
   exfalso;simp[Xl,XM,XY,Ev.mem,Ev.reads,Ev.writes,Jn,XD,Xu,hk]at hv;grind
  refine Wp.skip ?_;refine hS _ ?_;clear hS S;refine Wt (by simp[hq]) ?_;refine Wa Xc fun K J=>?_;simp[hq];apply J;clear J K;refine Wp.ret ?_;simp[hv,Yt]
 have hc1:¬(x.e.hart<0):=by simpa using hc
 clear hc;refine Wa Xc fun K J=>?_;simp[hc1];apply J;clear J K;refine Wp.cond rfl (fun hc=>?_) (fun hc=>?_)
 ·have hq:8≤x.e.hart:=by simpa using hc
  have hv:Xl x.e=false:=by
   cases hv:Xl x.e
   ·rfl
   exfalso;simp[Xl,XM,XY,Ev.mem,Ev.reads,Ev.writes,Jn,XD,Xu,hk]at hv;grind
  refine Wp.skip ?_;refine hS _ ?_;clear hS S;refine Wt (by simp[hq]) ?_;refine Wa Xc fun K J=>?_;simp[hq];apply J;clear J K;refine Wp.ret ?_;simp[hv,Yt]
 have hc2:¬(8≤x.e.hart):=by simpa using hc
 clear hc;refine Wa Xc fun K J=>?_;simp[hc2];apply J;clear J K;refine Wp.cond rfl (fun hc=>?_) (fun hc=>?_)
 ·have hq:x.e.pos<0:=by simpa using hc
  have hv:Xl x.e=false:=by
   cases hv:Xl x.e
   ·rfl
   exfalso;simp[Xl,XM,XY,Ev.mem,Ev.reads,Ev.writes,Jn,XD,Xu,hk]at hv;grind
  refine Wp.skip ?_;refine hS _ ?_;clear hS S;refine Wt (by simp[hq]) ?_;refine Wa Xc fun K J=>?_;simp[hq];apply J;clear J K;refine Wp.ret ?_;simp[hv,Yt]
 have hc3:¬(x.e.pos<0):=by simpa using hc
 clear hc;refine Wb Xc fun K J=>?_;simp[hc3,sp4,Xn,Xjq,X8,unS,Xa,m1,m2,m3,Ez.small];apply J;clear J K;refine hS _ ?_;clear hS S;refine Wp.cond rfl (fun hc=>?_) (fun hc=>?_)
 ·have hv:Xl x.e=false:=by
   cases hv:Xl x.e
   ·rfl
   exfalso;simp[Xl,XM,XY,Ev.mem,Ev.reads,Ev.writes,Jn,XD,Xu,hk]at hv;simp[YT]at hc;grind
  have hq:=hc;refine Wa Xc fun K J=>?_;simp[hq];apply J;clear J K;refine Wp.ret ?_;simp[hv,Yt]
 have qpred:x.e.pred=0:=by simp[YT]at hc;grind
 have qsucc:x.e.succ=0:=by simp[YT]at hc;grind
 have qload:x.e.load=0:=by simp[YT]at hc;grind
 have hs:=hc;clear hc;refine We fun S hS=>?_;refine Wa Xc fun K J=>?_;simp[qpred,qsucc,qload];apply J;clear J K;refine Wp.cond rfl (fun hc=>?_) (fun hc=>?_)
 ·have hq:¬x.e.addr.tmod 8=0:=by simpa using hc
  have hv:Xl x.e=false:=by
   cases hv:Xl x.e
   ·rfl
   exfalso;simp[Xl,XM,XY,Ev.mem,Ev.reads,Ev.writes,Jn,XD,Xu,hk]at hv;grind
  refine Wp.skip ?_;refine hS _ ?_;clear hS S;refine Wt (by simp[hq]) ?_;refine Wa Xc fun K J=>?_;simp[hq];apply J;clear J K;refine Wp.ret ?_;simp[hv,Yt]
 have hc4:¬(¬x.e.addr.tmod 8=0):=by simpa using hc
 clear hc;refine Wa Xc fun K J=>?_;simp;apply J;clear J K;refine Wf (by simp) ?_;refine Wa Xc fun K J=>?_;simp;apply J;clear J K;refine Wf (by simp) ?_;refine Wa Xc fun K J=>?_;simp;apply J;clear J K;refine Wf (by simp) ?_;refine Wb Xc fun K J=>?_;simp;apply J;clear J K;refine hS _ ?_;clear hS S;refine Wf (by simp) ?_;refine We fun S hS=>?_;refine We fun S hS=>?_;by_cases hp:x.e.pair<0
 ·have hv:Xl x.e=false:=by
   cases hv:Xl x.e
   ·rfl
   exfalso;simp[Xl,XM,XY,Ev.mem,Ev.reads,Ev.writes,Jn,XD,Xu,hk]at hv;grind
  refine Wb Xc fun K J=>?_;simp[hp,IntKind.wrap,IntKind.bits,IntKind.signed];apply J;clear J K;refine hS _ ?_;clear hS S;refine Wt (by simp) ?_;refine Wp.skip ?_;refine hS _ ?_;clear hS S;refine Wt (by simp) ?_;refine Wa Xc fun K J=>?_;simp;apply J;clear J K;refine Wp.ret ?_;simp[hv,Yt]
 refine Wb Xc fun K J=>?_;simp[hp,IntKind.wrap,IntKind.bits,IntKind.signed];apply J;clear J K;refine hS _ ?_;clear hS S;refine Wp.cond rfl (fun hc=>?_) (fun hc=>?_)
 ·have hq:x.e.pos≤x.e.pair:=by simpa using hc
  have hv:Xl x.e=false:=by
   cases hv:Xl x.e
   ·rfl
   exfalso;simp[Xl,XM,XY,Ev.mem,Ev.reads,Ev.writes,Jn,XD,Xu,hk]at hv;grind
  refine Wp.skip ?_;refine hS _ ?_;clear hS S;refine Wt (by simp[hq]) ?_;refine Wa Xc fun K J=>?_;simp[hq];apply J;clear J K;refine Wp.ret ?_;simp[hv,Yt]
 have hc5:¬(x.e.pos≤x.e.pair):=by simpa using hc
 clear hc;refine Wa Xc fun K J=>?_;simp[hc5,sp4,Xn,KX,Xa,m1];apply J;clear J K;refine Wp.cond rfl (fun hc=>?_) (fun hc=>?_)
 ·have hq:X3 x.e.da x.e.pos=false:=by simpa using hc
  have hv:Xl x.e=false:=by
   cases hv:Xl x.e
   ·rfl
   exfalso;simp[Xl,XM,XY,Ev.mem,Ev.reads,Ev.writes,Jn,XD,Xu,hk]at hv;grind
  refine Wp.skip ?_;refine hS _ ?_;clear hS S;refine Wt (by simp[hq]) ?_;refine Wa Xc fun K J=>?_;simp[hq];apply J;clear J K;refine Wp.ret ?_;simp[hv,Yt]
 have hc6:¬(X3 x.e.da x.e.pos=false):=by simpa using hc
 clear hc;refine Wa Xc fun K J=>?_;simp[hc6,sp4,Xn,KX,Xa,m2];apply J;clear J K;refine Wp.cond rfl (fun hc=>?_) (fun hc=>?_)
 ·have hq:X3 x.e.dd x.e.pos=false:=by simpa using hc
  have hv:Xl x.e=false:=by
   cases hv:Xl x.e
   ·rfl
   exfalso;simp[Xl,XM,XY,Ev.mem,Ev.reads,Ev.writes,Jn,XD,Xu,hk]at hv;grind
  refine Wp.skip ?_;refine hS _ ?_;clear hS S;refine Wt (by simp[hq]) ?_;refine Wa Xc fun K J=>?_;simp[hq];apply J;clear J K;refine Wp.ret ?_;simp[hv,Yt]
 have hc7:¬(X3 x.e.dd x.e.pos=false):=by simpa using hc
 clear hc;refine Wb Xc fun K J=>?_;simp[hc7,sp4,Xn,KX,Xa,m3];apply J;clear J K;refine hS _ ?_;clear hS S;refine Wp.cond rfl (fun hc=>?_) (fun hc=>?_)
 ·have hq:X3 x.e.dw x.e.pos=false:=by simpa using hc
  have hv:Xl x.e=false:=by
   cases hv:Xl x.e
   ·rfl
   exfalso;simp[Xl,XM,XY,Ev.mem,Ev.reads,Ev.writes,Jn,XD,Xu,hk]at hv;grind
  refine Wa Xc fun K J=>?_;simp[hq];apply J;clear J K;refine Wp.ret ?_;simp[hv,Yt]
 have hc8:¬(X3 x.e.dw x.e.pos=false):=by simpa using hc
 clear hc;refine Wp.skip ?_;refine hS _ ?_;clear hS S;refine Wa Xc fun K J=>?_;simp[hc8];apply J;clear J K;refine Wp.ret ?_;simp;simp[Yt,Xl,XM,XY,Ev.mem,Ev.reads,Ev.writes,Jn,XD,Xu,hk,qpred,qsucc,qload];grind
set_option maxHeartbeats 4000000 in
theorem Ydf(x:Ez)(hx:GL x.e)(hk:x.e.kind=5):Xq Tryz.prog 82 [evV x] (.val (iV .i64 (Yt (Xl x.e)))):=by
 obtain⟨n1,n2,n3⟩:=hx;have m1:x.e.da.length≤1000000:=by omega
 have m2:x.e.dd.length≤1000000:=by omega
 have m3:x.e.dw.length≤1000000:=by omega
 refine Xi (rs:=[.tmp 2]) (Xk _) Tryz.func82 rfl Tryz.ntmps82 rfl (by simp) ?_;unfold evV;refine Wa Xc fun K J=>?_;simp[hk];apply J;clear J K;refine Wa Xc fun K J=>?_;simp[sp4,sp3,sp2,sp1,Xn,Xuq,hasB];apply J;clear J K;refine Wa Xc fun K J=>?_;simp;apply J;clear J K;refine Wa Xc fun K J=>?_;simp;apply J;clear J K;refine We fun S hS=>?_;refine Wa Xc fun K J=>?_;simp[IntKind.wrap,IntKind.bits,IntKind.signed];apply J;clear J K;refine Wf (by simp) ?_
 ((first|refine Wa Xc fun K J=>?_|refine Wb Xc fun K J=>?_|refine Wc Xc [5] fun K J=>?_|refine Wd Xc [5] fun K J=>?_);simp;apply And.intro;(·kernel_rfl);with_reducible refine J _ ?_;clear J K)
 refine hS _ ?_;clear hS S;refine We fun S hS=>?_;refine Wa Xc fun K J=>?_;simp[IntKind.wrap,IntKind.bits,IntKind.signed];apply J;clear J K;refine Wt (by simp) ?_;refine Wb Xc fun K J=>?_;simp;apply J;clear J K;refine hS _ ?_;clear hS S;refine We fun S hS=>?_;refine Wa Xc fun K J=>?_;simp[IntKind.wrap,IntKind.bits,IntKind.signed];apply J;clear J K;refine Wt (by simp) ?_
 ((first|refine Wa Xc fun K J=>?_|refine Wb Xc fun K J=>?_|refine Wc Xc [5] fun K J=>?_|refine Wd Xc [5] fun K J=>?_);simp;apply And.intro;(·kernel_rfl);with_reducible refine J _ ?_;clear J K)
 refine hS _ ?_;clear hS S;refine We fun S hS=>?_;refine Wa Xc fun K J=>?_;simp[IntKind.wrap,IntKind.bits,IntKind.signed];apply J;clear J K;refine Wt (by simp) ?_
 ((first|refine Wa Xc fun K J=>?_|refine Wb Xc fun K J=>?_|refine Wc Xc [5] fun K J=>?_|refine Wd Xc [5] fun K J=>?_);simp;apply And.intro;(·kernel_rfl);with_reducible refine J _ ?_;clear J K)
 refine hS _ ?_;clear hS S;refine We fun S hS=>?_;refine Wa Xc fun K J=>?_;simp[IntKind.wrap,IntKind.bits,IntKind.signed];apply J;clear J K;refine Wf (by simp) ?_;refine Wp.skip ?_;refine hS _ ?_;clear hS S;refine We fun S hS=>?_;refine Wp.block ?_;refine We fun S hS=>?_;refine Wa Xc fun K J=>?_;simp;apply J;clear J K;refine Wf (by simp) ?_;refine Wa Xc fun K J=>?_;simp;apply J;clear J K;refine Wp.cond rfl (fun hc=>?_) (fun hc=>?_)
 ·have hq:x.e.hart<0:=by simpa using hc
  have hv:Xl x.e=false:=by
   cases hv:Xl x.e
   ·rfl
   exfalso;simp[Xl,XM,XY,Ev.mem,Ev.reads,Ev.writes,Jn,XD,Xu,hk]at hv;grind
  refine Wp.skip ?_;refine hS _ ?_;clear hS S;refine Wt (by simp[hq]) ?_;refine Wa Xc fun K J=>?_;simp[hq];apply J;clear J K;refine Wp.ret ?_;simp[hv,Yt]
 have hc1:¬(x.e.hart<0):=by simpa using hc
 clear hc;refine Wa Xc fun K J=>?_;simp[hc1];apply J;clear J K;refine Wp.cond rfl (fun hc=>?_) (fun hc=>?_)
 ·have hq:8≤x.e.hart:=by simpa using hc
  have hv:Xl x.e=false:=by
   cases hv:Xl x.e
   ·rfl
   exfalso;simp[Xl,XM,XY,Ev.mem,Ev.reads,Ev.writes,Jn,XD,Xu,hk]at hv;grind
  refine Wp.skip ?_;refine hS _ ?_;clear hS S;refine Wt (by simp[hq]) ?_;refine Wa Xc fun K J=>?_;simp[hq];apply J;clear J K;refine Wp.ret ?_;simp[hv,Yt]
 have hc2:¬(8≤x.e.hart):=by simpa using hc
 clear hc;refine Wa Xc fun K J=>?_;simp[hc2];apply J;clear J K;refine Wp.cond rfl (fun hc=>?_) (fun hc=>?_)
 ·have hq:x.e.pos<0:=by simpa using hc
  have hv:Xl x.e=false:=by
   cases hv:Xl x.e
   ·rfl
   exfalso;simp[Xl,XM,XY,Ev.mem,Ev.reads,Ev.writes,Jn,XD,Xu,hk]at hv;grind
  refine Wp.skip ?_;refine hS _ ?_;clear hS S;refine Wt (by simp[hq]) ?_;refine Wa Xc fun K J=>?_;simp[hq];apply J;clear J K;refine Wp.ret ?_;simp[hv,Yt]
 have hc3:¬(x.e.pos<0):=by simpa using hc
 clear hc;refine Wb Xc fun K J=>?_;simp[hc3,sp4,Xn,Xjq,X8,unS,Xa,m1,m2,m3,Ez.small];apply J;clear J K;refine hS _ ?_;clear hS S;refine Wp.cond rfl (fun hc=>?_) (fun hc=>?_)
 ·have hv:Xl x.e=false:=by
   cases hv:Xl x.e
   ·rfl
   exfalso;simp[Xl,XM,XY,Ev.mem,Ev.reads,Ev.writes,Jn,XD,Xu,hk]at hv;simp[YT]at hc;grind
  have hq:=hc;refine Wa Xc fun K J=>?_;simp[hq];apply J;clear J K;refine Wp.ret ?_;simp[hv,Yt]
 have qpred:x.e.pred=0:=by simp[YT]at hc;grind
 have qsucc:x.e.succ=0:=by simp[YT]at hc;grind
 have qpair:x.e.pair=0:=by simp[YT]at hc;grind
 have hs:=hc;clear hc;refine We fun S hS=>?_;refine Wa Xc fun K J=>?_;simp[qpred,qsucc,qpair];apply J;clear J K;refine Wp.cond rfl (fun hc=>?_) (fun hc=>?_)
 ·have hq:¬x.e.addr.tmod 8=0:=by simpa using hc
  have hv:Xl x.e=false:=by
   cases hv:Xl x.e
   ·rfl
   exfalso;simp[Xl,XM,XY,Ev.mem,Ev.reads,Ev.writes,Jn,XD,Xu,hk]at hv;grind
  refine Wp.skip ?_;refine hS _ ?_;clear hS S;refine Wt (by simp[hq]) ?_;refine Wa Xc fun K J=>?_;simp[hq];apply J;clear J K;refine Wp.ret ?_;simp[hv,Yt]
 have hc4:¬(¬x.e.addr.tmod 8=0):=by simpa using hc
 clear hc;refine Wa Xc fun K J=>?_;simp;apply J;clear J K;refine Wf (by simp) ?_;refine Wa Xc fun K J=>?_;simp;apply J;clear J K;refine Wf (by simp) ?_;refine Wa Xc fun K J=>?_;simp;apply J;clear J K;refine Wf (by simp) ?_;refine Wb Xc fun K J=>?_;simp;apply J;clear J K;refine hS _ ?_;clear hS S;refine Wf (by simp) ?_;refine We fun S hS=>?_;refine Wa Xc fun K J=>?_;simp[IntKind.wrap,IntKind.bits,IntKind.signed];apply J;clear J K;refine Wf (by simp) ?_;refine Wa Xc fun K J=>?_;simp[sp4,Xn,KX,Xa,m1];apply J;clear J K;refine Wp.cond rfl (fun hc=>?_) (fun hc=>?_)
 ·have hq:X3 x.e.da x.e.pos=false:=by simpa using hc
  have hv:Xl x.e=false:=by
   cases hv:Xl x.e
   ·rfl
   exfalso;simp[Xl,XM,XY,Ev.mem,Ev.reads,Ev.writes,Jn,XD,Xu,hk]at hv;grind
  refine Wp.skip ?_;refine hS _ ?_;clear hS S;refine Wt (by simp[hq]) ?_;refine Wa Xc fun K J=>?_;simp[hq];apply J;clear J K;refine Wp.ret ?_;simp[hv,Yt]
 have hc5:¬(X3 x.e.da x.e.pos=false):=by simpa using hc
 clear hc;refine Wa Xc fun K J=>?_;simp[hc5,sp4,Xn,KX,Xa,m2];apply J;clear J K;refine Wp.cond rfl (fun hc=>?_) (fun hc=>?_)
 ·have hq:X3 x.e.dd x.e.pos=false:=by simpa using hc
  have hv:Xl x.e=false:=by
   cases hv:Xl x.e
   ·rfl
   exfalso;simp[Xl,XM,XY,Ev.mem,Ev.reads,Ev.writes,Jn,XD,Xu,hk]at hv;grind
  refine Wp.skip ?_;refine hS _ ?_;clear hS S;refine Wt (by simp[hq]) ?_;refine Wa Xc fun K J=>?_;simp[hq];apply J;clear J K;refine Wp.ret ?_;simp[hv,Yt]
 have hc6:¬(X3 x.e.dd x.e.pos=false):=by simpa using hc
 clear hc;refine Wb Xc fun K J=>?_;simp[hc6,sp4,Xn,KX,Xa,m3];apply J;clear J K;refine hS _ ?_;clear hS S;refine Wp.cond rfl (fun hc=>?_) (fun hc=>?_)
 ·have hq:X3 x.e.dw x.e.pos=false:=by simpa using hc
  have hv:Xl x.e=false:=by
   cases hv:Xl x.e
   ·rfl
   exfalso;simp[Xl,XM,XY,Ev.mem,Ev.reads,Ev.writes,Jn,XD,Xu,hk]at hv;grind
  refine Wa Xc fun K J=>?_;simp[hq];apply J;clear J K;refine Wp.ret ?_;simp[hv,Yt]
 have hc7:¬(X3 x.e.dw x.e.pos=false):=by simpa using hc
 clear hc;refine Wp.skip ?_;refine hS _ ?_;clear hS S;refine Wa Xc fun K J=>?_;simp[hc7];apply J;clear J K;refine Wp.ret ?_;simp;simp[Yt,Xl,XM,XY,Ev.mem,Ev.reads,Ev.writes,Jn,XD,Xu,hk,qpred,qsucc,qpair];grind
set_option maxHeartbeats 4000000 in
theorem Yde(x:Ez)(hx:GL x.e)(hk:x.e.kind=6):Xq Tryz.prog 82 [evV x] (.val (iV .i64 (Yt (Xl x.e)))):=by
 obtain⟨n1,n2,n3⟩:=hx;have m1:x.e.da.length≤1000000:=by omega
 have m2:x.e.dd.length≤1000000:=by omega
 have m3:x.e.dw.length≤1000000:=by omega
 refine Xi (rs:=[.tmp 2]) (Xk _) Tryz.func82 rfl Tryz.ntmps82 rfl (by simp) ?_;unfold evV;refine Wa Xc fun K J=>?_;simp[hk];apply J;clear J K;refine Wa Xc fun K J=>?_;simp[sp4,sp3,sp2,sp1,Xn,Xuq,hasB];apply J;clear J K;refine Wa Xc fun K J=>?_;simp;apply J;clear J K;refine Wa Xc fun K J=>?_;simp;apply J;clear J K;refine We fun S hS=>?_;refine Wa Xc fun K J=>?_;simp[IntKind.wrap,IntKind.bits,IntKind.signed];apply J;clear J K;refine Wt (by simp) ?_
 ((first|refine Wa Xc fun K J=>?_|refine Wb Xc fun K J=>?_|refine Wc Xc [5] fun K J=>?_|refine Wd Xc [5] fun K J=>?_);simp;apply And.intro;(·kernel_rfl);with_reducible refine J _ ?_;clear J K)
 refine hS _ ?_;clear hS S;refine We fun S hS=>?_;refine Wa Xc fun K J=>?_;simp[IntKind.wrap,IntKind.bits,IntKind.signed];apply J;clear J K;refine Wf (by simp) ?_;refine Wp.skip ?_;refine hS _ ?_;clear hS S;refine We fun S hS=>?_;refine Wa Xc fun K J=>?_;simp[IntKind.wrap,IntKind.bits,IntKind.signed];apply J;clear J K;refine Wf (by simp) ?_;refine Wp.skip ?_;refine hS _ ?_;clear hS S;refine We fun S hS=>?_;refine Wa Xc fun K J=>?_;simp[IntKind.wrap,IntKind.bits,IntKind.signed];apply J;clear J K;refine Wf (by simp) ?_;refine Wp.skip ?_;refine hS _ ?_;clear hS S;refine We fun S hS=>?_;refine Wa Xc fun K J=>?_;simp[IntKind.wrap,IntKind.bits,IntKind.signed];apply J;clear J K;refine Wf (by simp) ?_;refine Wp.skip ?_;refine hS _ ?_;clear hS S;refine We fun S hS=>?_;refine Wp.block ?_;refine We fun S hS=>?_;refine Wa Xc fun K J=>?_;simp;apply J;clear J K;refine Wf (by simp) ?_;refine Wa Xc fun K J=>?_;simp;apply J;clear J K;refine Wp.cond rfl (fun hc=>?_) (fun hc=>?_)
 ·have hq:x.e.hart<0:=by simpa using hc
  have hv:Xl x.e=false:=by
   cases hv:Xl x.e
   ·rfl
   exfalso;simp[Xl,XM,Gk,hk]at hv;grind
  refine Wp.skip ?_;refine hS _ ?_;clear hS S;refine Wt (by simp[hq]) ?_;refine Wa Xc fun K J=>?_;simp[hq];apply J;clear J K;refine Wp.ret ?_;simp[hv,Yt]
 have hc1:¬(x.e.hart<0):=by simpa using hc
 clear hc;refine Wa Xc fun K J=>?_;simp[hc1];apply J;clear J K;refine Wp.cond rfl (fun hc=>?_) (fun hc=>?_)
 ·have hq:8≤x.e.hart:=by simpa using hc
  have hv:Xl x.e=false:=by
   cases hv:Xl x.e
   ·rfl
   exfalso;simp[Xl,XM,Gk,hk]at hv;grind
  refine Wp.skip ?_;refine hS _ ?_;clear hS S;refine Wt (by simp[hq]) ?_;refine Wa Xc fun K J=>?_;simp[hq];apply J;clear J K;refine Wp.ret ?_;simp[hv,Yt]
 have hc2:¬(8≤x.e.hart):=by simpa using hc
 clear hc;refine Wa Xc fun K J=>?_;simp[hc2];apply J;clear J K;refine Wp.cond rfl (fun hc=>?_) (fun hc=>?_)
 ·have hq:x.e.pos<0:=by simpa using hc
  have hv:Xl x.e=false:=by
   cases hv:Xl x.e
   ·rfl
   exfalso;simp[Xl,XM,Gk,hk]at hv;grind
  refine Wp.skip ?_;refine hS _ ?_;clear hS S;refine Wt (by simp[hq]) ?_;refine Wa Xc fun K J=>?_;simp[hq];apply J;clear J K;refine Wp.ret ?_;simp[hv,Yt]
 have hc3:¬(x.e.pos<0):=by simpa using hc
 clear hc;refine Wb Xc fun K J=>?_;simp[hc3,sp4,Xn,Xjq,X8,unS,Xa,Ez.small];apply J;clear J K;refine hS _ ?_;clear hS S;refine Wp.cond rfl (fun hc=>?_) (fun hc=>?_)
 ·have hv:Xl x.e=false:=by
   cases hv:Xl x.e
   ·rfl
   exfalso;simp[Xl,XM,Gk,hk]at hv;simp[YT]at hc;grind
  have hq:=hc;refine Wa Xc fun K J=>?_;simp[hq];apply J;clear J K;refine Wp.ret ?_;simp[hv,Yt]
 have qaddr:x.e.addr=0:=by simp[YT]at hc;grind
 have qload:x.e.load=0:=by simp[YT]at hc;grind
 have qstore:x.e.store=0:=by simp[YT]at hc;grind
 have qda:x.e.da=[]:=by simp[YT]at hc;grind
 have qdd:x.e.dd=[]:=by simp[YT]at hc;grind
 have qdw:x.e.dw=[]:=by simp[YT]at hc;grind
 have qaq:x.e.aq=false:=by simp[YT]at hc;grind
 have qrl:x.e.rl=false:=by simp[YT]at hc;grind
 have qpair:x.e.pair=0:=by simp[YT]at hc;grind
 have hs:=hc;clear hc;refine We fun S hS=>?_;refine Wa Xc fun K J=>?_;simp[qaddr,qload,qstore,qda,qdd,qdw,qaq,qrl,qpair];apply J;clear J K;refine Wf (by simp) ?_;refine Wa Xc fun K J=>?_;simp;apply J;clear J K;refine Wp.cond rfl (fun hc=>?_) (fun hc=>?_)
 ·have hq:x.e.pred<0:=by simpa using hc
  have hv:Xl x.e=false:=by
   cases hv:Xl x.e
   ·rfl
   exfalso;simp[Xl,XM,Gk,hk]at hv;grind
  refine Wp.skip ?_;refine hS _ ?_;clear hS S;refine Wt (by simp[hq]) ?_;refine Wa Xc fun K J=>?_;simp[hq];apply J;clear J K;refine Wp.ret ?_;simp[hv,Yt]
 have hc4:¬(x.e.pred<0):=by simpa using hc
 clear hc;refine Wa Xc fun K J=>?_;simp[hc4];apply J;clear J K;refine Wp.cond rfl (fun hc=>?_) (fun hc=>?_)
 ·have hq:15<x.e.pred:=by simpa using hc
  have hv:Xl x.e=false:=by
   cases hv:Xl x.e
   ·rfl
   exfalso;simp[Xl,XM,Gk,hk]at hv;grind
  refine Wp.skip ?_;refine hS _ ?_;clear hS S;refine Wt (by simp[hq]) ?_;refine Wa Xc fun K J=>?_;simp[hq];apply J;clear J K;refine Wp.ret ?_;simp[hv,Yt]
 have hc5:¬(15<x.e.pred):=by simpa using hc
 clear hc;refine Wa Xc fun K J=>?_;simp[hc5];apply J;clear J K;refine Wp.cond rfl (fun hc=>?_) (fun hc=>?_)
 ·have hq:x.e.succ<0:=by simpa using hc
  have hv:Xl x.e=false:=by
   cases hv:Xl x.e
   ·rfl
   exfalso;simp[Xl,XM,Gk,hk]at hv;grind
  refine Wp.skip ?_;refine hS _ ?_;clear hS S;refine Wt (by simp[hq]) ?_;refine Wa Xc fun K J=>?_;simp[hq];apply J;clear J K;refine Wp.ret ?_;simp[hv,Yt]
 have hc6:¬(x.e.succ<0):=by simpa using hc
 clear hc;refine Wb Xc fun K J=>?_;simp[hc6];apply J;clear J K;refine hS _ ?_;clear hS S;refine Wp.cond rfl (fun hc=>?_) (fun hc=>?_)
 ·have hq:15<x.e.succ:=by simpa using hc
  have hv:Xl x.e=false:=by
   cases hv:Xl x.e
   ·rfl
   exfalso;simp[Xl,XM,Gk,hk]at hv;grind
  refine Wa Xc fun K J=>?_;simp[hq];apply J;clear J K;refine Wp.ret ?_;simp[hv,Yt]
 have hc7:¬(15<x.e.succ):=by simpa using hc
 clear hc;refine We fun S hS=>?_;refine Wa Xc fun K J=>?_;simp[hc7,IntKind.wrap,IntKind.bits,IntKind.signed];apply J;clear J K;refine Wf (by simp) ?_;refine Wa Xc fun K J=>?_;simp[sp4,Xn,KX,Xa,Jv];apply J;clear J K;refine Wf (by simp) ?_;refine Wa Xc fun K J=>?_;simp[sp4,Xn,KX,Xa,Jv];apply J;clear J K;refine Wf (by simp) ?_;refine Wb Xc fun K J=>?_;simp[sp4,Xn,KX,Xa,Jv];apply J;clear J K;refine hS _ ?_;clear hS S;refine Wf (by simp) ?_;refine Wp.skip ?_;refine hS _ ?_;clear hS S;refine Wa Xc fun K J=>?_;simp;apply J;clear J K;refine Wp.ret ?_;simp;simp[Yt,Xl,XM,Gk,hk,qaddr,qload,qstore,qda,qdd,qdw,qaq,qrl,qpair];grind
theorem Xq0(x:Ez)(hx:GL x.e):Xq Tryz.prog 82 [evV x] (.val (iV .i64 (Yt (Xl x.e)))):=by
 by_cases h:x.e.kind<1∨6<x.e.kind
 ·exact Xqz x h
 ·have:x.e.kind=1∨x.e.kind=2∨x.e.kind=3∨x.e.kind=4∨x.e.kind=5∨x.e.kind=6:=by omega
  rcases this with h|h|h|h|h|h
  ·exact check_1 x hx h
  ·exact Ydi x hx h
  ·exact Ydh x hx h
  ·exact Ydg x hx h
  ·exact Ydf x hx h
  ·exact Yde x hx h
def Ze:List EV→Option (Prop×YX)
 |[v]=>(match X8 v with|some x=>some (GL x.e, .val (iV .i64 (Yt (Xl x.e))))|none=>none)
 |_=>none
def sp5:Dw.Spec:=Xn 82 Ze sp4
theorem X7:XF Tryz.prog sp5:=by
 refine Xp ⟨⟨_,Tryz.func82,rfl,rfl⟩⟩ (fun vs p r h hp=>?_) Xc;unfold Ze at h;split at h
 ·split at h
  ·rename_i x hx;simp only[Option.some.injEq,Prod.mk.injEq]at h;obtain⟨rfl,rfl⟩:=h;exact Yy (.cons (Kx hx) .nil) (Xq0 _ hp)
  ·cases h
 ·cases h
theorem Ev.eta(e:Ev):(⟨e.hart,e.pos,e.kind,e.addr,e.load,e.store,e.aq,e.rl,e.pred,e.succ,e.pair,e.da,e.dd,e.dw⟩:Ev)=e:=rfl
def Gs(hart:Int)(l:List Ez):Nat→Int→List Ez→Bool
 |_,_,[]=>true
 |i,last,x::r=>(Xl x.e&&(x.e.hart==hart&&x.e.pos==(i:Int)))&&(if x.e.kind=3 then Gs hart l (i+1) i r else if x.e.kind=4 then(x.e.pair==last&&(l.getD last.toNat default).e.addr==x.e.addr)&&Gs hart l (i+1) (-1) r else Gs hart l (i+1) last r)
theorem Xe6{l:List Ez}{i:Nat}(h:i<l.length)(hart:Int)(last:Int):Gs hart l i last (l.drop i)=((Xl l[i].e&&(l[i].e.hart==hart&&l[i].e.pos==(i:Int)))&&(if l[i].e.kind=3 then Gs hart l (i+1) i (l.drop (i+1))else if l[i].e.kind=4 then(l[i].e.pair==last&&(l.getD last.toNat default).e.addr==l[i].e.addr)&&Gs hart l (i+1) (-1) (l.drop (i+1))else Gs hart l (i+1) last (l.drop (i+1)))):=by
 rw[List.drop_eq_getElem_cons h];rfl
set_option maxHeartbeats 4000000 in
theorem Xu7(h:Int)(z:Bool)(l:List Ez)(hn:l.length≤1000)(hf:∀x∈l,GL x.e):Xq Tryz.prog 49 [iV .i64 h,sV z 14 (Yc l)] (.val (iV .i64 (Xqo (Gs h l 0 (-1) l)))):=by
 refine Xi (rs:=[.tmp 4]) (Xk _) Tryz.func49 rfl Tryz.ntmps49 rfl (by simp) ?_;refine Wa X7 fun K J=>?_;simp;apply J;clear J K;refine Wa X7 fun K J=>?_;simp;apply J;clear J K;refine We fun S hS=>?_;refine Wa X7 fun K J=>?_;simp[Xe];apply J;clear J K;refine Wp.block ?_;refine Wp.loop (fun k s=>∃(i:Nat) (last:Int),i+k=l.length∧(last= -1∨(0≤last∧last<i))∧s=⟨[(0,iV .i64 h),(1,sV z 14 (Yc l)),(4,iV .i64 0),(5,iV .i64 last),(8,sV z 14 (Yc l)),(9,iV .i64 l.length),(10,iV .i64 i)],[]⟩∧Gs h l i last (l.drop i)=Gs h l 0 (-1) l)
  l.length (s0:=⟨[(0,iV .i64 h),(1,sV z 14 (Yc l)),(4,iV .i64 0),(5,iV .i64 (-1)),(8,sV z 14 (Yc l)),(9,iV .i64 l.length),(10,iV .i64 0)],[]⟩) ?_ ⟨0, -1,by simp, .inl rfl,rfl,by simp⟩ fun k s ⟨i,last,hik,hla,hs,hr⟩=>?_
 ·apply Gh.of<;>simp
 subst hs;refine Wa X7 fun K J=>?_;simp;apply J;clear J K;refine We fun S hS=>?_;refine Wp.cond rfl (fun hc=>?_) (fun hc=>?_)
 ·have hi:i<l.length:=by simpa using hc
  have hd:=Xe6 hi h last;have hw:IntKind.i64.wrap ((i:Int)+1)=(i+1:Nat):=by rw[wrap_small]<;>omega
  have hfe:=hf l[i] (List.getElem_mem hi);refine Wp.skip ?_;refine hS _ ?_;clear hS S;refine We fun S hS=>?_;refine Wp.block ?_;refine Wa X7 fun K J=>?_;simp[hi,Xe,Xd,Ez.cv];apply J;clear J K;refine We fun S hS=>?_;refine We fun S hS=>?_;cases he:Xl l[i].e
  ·have:=he;refine Wb X7 fun K J=>?_;simp[sp5,Xn,Ze,X8,unS,Xa,Ev.eta,hfe,he,Yt];apply J;clear J K;refine hS _ ?_;clear hS S;refine Wt (by simp) ?_;refine Wa X7 fun K J=>?_;simp;apply J;clear J K;refine Wp.ret ?_;simp;rw[←hr,hd];simp[he,Xqo]
  by_cases hh:l[i].e.hart=h
  case neg=>
   have qhh:=eq_false hh;refine Wb X7 fun K J=>?_;simp[sp5,Xn,Ze,X8,unS,Xa,Ev.eta,hfe,he,Yt,qhh];apply J;clear J K;refine hS _ ?_;clear hS S;refine Wt (by simp) ?_;refine Wa X7 fun K J=>?_;simp;apply J;clear J K;refine Wp.ret ?_;simp;rw[←hr,hd];simp[he,hh,Xqo]
  have qhh:=eq_true hh;by_cases hp:l[i].e.pos=(i:Int)
  case neg=>
   have qhp:=eq_false hp;refine Wb X7 fun K J=>?_;simp[sp5,Xn,Ze,X8,unS,Xa,Ev.eta,hfe,he,Yt,qhh,qhp];apply J;clear J K;refine hS _ ?_;clear hS S;refine Wt (by simp) ?_;refine Wa X7 fun K J=>?_;simp;apply J;clear J K;refine Wp.ret ?_;simp;rw[←hr,hd];simp[he,hp,Xqo]
  have qhp:=eq_true hp;by_cases k3:l[i].e.kind=3
  case pos=>
   have qk3:=eq_true k3;refine Wb X7 fun K J=>?_;simp[sp5,Xn,Ze,X8,unS,Xa,Ev.eta,hfe,he,Yt,qhh,qhp];apply J;clear J K;refine hS _ ?_;clear hS S;refine Wf (by simp) ?_;refine Wp.skip ?_;refine hS _ ?_;clear hS S;refine Wa X7 fun K J=>?_;simp;apply J;clear J K;refine Wp.block ?_;refine Wa X7 fun K J=>?_;simp[qk3];apply J;clear J K;refine Wt (by simp) ?_;refine Wb X7 fun K J=>?_;simp;apply J;clear J K;refine hS _ ?_;clear hS S;refine Wb X7 fun K J=>?_;simp[hw];apply J;clear J K;refine⟨⟨[(0,iV .i64 h),(1,sV z 14 (Yc l)),(4,iV .i64 0),(5,iV .i64 (i:Int)),(8,sV z 14 (Yc l)),(9,iV .i64 l.length),(10,iV .i64 (i+1:Nat))],[]⟩,k - 1,?_,by omega,i+1,(i:Int),by omega,by omega,rfl,?_⟩
   ·apply Gh.of<;>simp
   rw[←hr,hd];simp[he,hh,hp,k3]
  have qk3:=eq_false k3;by_cases k4:l[i].e.kind=4
  case neg=>
   have qk4:=eq_false k4;refine Wb X7 fun K J=>?_;simp[sp5,Xn,Ze,X8,unS,Xa,Ev.eta,hfe,he,Yt,qhh,qhp];apply J;clear J K;refine hS _ ?_;clear hS S;refine Wf (by simp) ?_;refine Wp.skip ?_;refine hS _ ?_;clear hS S;refine Wa X7 fun K J=>?_;simp;apply J;clear J K;refine Wp.block ?_;refine Wa X7 fun K J=>?_;simp[qk3];apply J;clear J K;refine Wf (by simp) ?_;refine Wa X7 fun K J=>?_;simp[qk4];apply J;clear J K;refine Wf (by simp) ?_;refine Wp.skip ?_;refine hS _ ?_;clear hS S;refine Wb X7 fun K J=>?_;simp[hw];apply J;clear J K;refine⟨⟨[(0,iV .i64 h),(1,sV z 14 (Yc l)),(4,iV .i64 0),(5,iV .i64 last),(8,sV z 14 (Yc l)),(9,iV .i64 l.length),(10,iV .i64 (i+1:Nat))],[]⟩,k - 1,?_,by omega,i+1,last,by omega,by omega,rfl,?_⟩
   ·apply Gh.of<;>simp
   rw[←hr,hd];simp[he,hh,hp,k3,k4]
  have qk4:=eq_true k4;by_cases kp:l[i].e.pair=last
  case neg=>
   have qkp:=eq_false kp;refine Wb X7 fun K J=>?_;simp[sp5,Xn,Ze,X8,unS,Xa,Ev.eta,hfe,he,Yt,qhh,qhp];apply J;clear J K;refine hS _ ?_;clear hS S;refine Wf (by simp) ?_;refine Wp.skip ?_;refine hS _ ?_;clear hS S;refine Wa X7 fun K J=>?_;simp;apply J;clear J K;refine Wp.block ?_;refine Wa X7 fun K J=>?_;simp[qk3];apply J;clear J K;refine Wf (by simp) ?_;refine Wa X7 fun K J=>?_;simp[qk4];apply J;clear J K;refine Wt (by simp) ?_;refine We fun S hS=>?_;refine Wc X7 [] fun K J=>?_;simp[qkp];apply And.intro;(·kernel_rfl);apply J;clear J K;refine Wt (by simp) ?_;refine Wa X7 fun K J=>?_;simp;apply J;clear J K;refine Wp.ret ?_;simp;rw[←hr,hd];simp[he,k4,kp,Xqo]
  have qkp:=eq_true kp;have hl0:0≤last:=by have:=(HS he k4).1;omega
  have hl1:last<(l.length:Int):=by omega
  have hl2:last.toNat<l.length:=by omega
  have hg:(l.getD last.toNat default)=l[last.toNat]:=by simp[List.getD_eq_getElem?_getD,List.getElem?_eq_getElem hl2]
  by_cases ka:l[last.toNat].e.addr=l[i].e.addr
  ·have qka:=eq_true ka;refine Wb X7 fun K J=>?_;simp[sp5,Xn,Ze,X8,unS,Xa,Ev.eta,hfe,he,Yt,qhh,qhp];apply J;clear J K;refine hS _ ?_;clear hS S;refine Wf (by simp) ?_;refine Wp.skip ?_;refine hS _ ?_;clear hS S;refine Wa X7 fun K J=>?_;simp;apply J;clear J K;refine Wp.block ?_;refine Wa X7 fun K J=>?_;simp[qk3];apply J;clear J K;refine Wf (by simp) ?_;refine Wa X7 fun K J=>?_;simp[qk4];apply J;clear J K;refine Wt (by simp) ?_;refine We fun S hS=>?_;refine Wc X7 [] fun K J=>?_;simp[Xe,Xd,Ez.cv,qkp,hl0,hl1,hl2,qka];apply And.intro;(·kernel_rfl);apply J;clear J K;refine Wf (by simp) ?_;refine Wp.skip ?_;refine hS _ ?_;clear hS S;refine Wb X7 fun K J=>?_;simp;apply J;clear J K;refine hS _ ?_;clear hS S;refine Wb X7 fun K J=>?_;simp[hw];apply J;clear J K;refine⟨⟨[(0,iV .i64 h),(1,sV z 14 (Yc l)),(4,iV .i64 0),(5,iV .i64 (-1)),(8,sV z 14 (Yc l)),(9,iV .i64 l.length),(10,iV .i64 (i+1:Nat))],[]⟩,k - 1,?_,by omega,i+1,(-1),by omega,by omega,rfl,?_⟩
   ·apply Gh.of<;>simp
   rw[←hr,hd];simp[he,hh,hp,k4,kp,hl2,ka]
  ·have qka:=eq_false ka;refine Wb X7 fun K J=>?_;simp[sp5,Xn,Ze,X8,unS,Xa,Ev.eta,hfe,he,Yt,qhh,qhp];apply J;clear J K;refine hS _ ?_;clear hS S;refine Wf (by simp) ?_;refine Wp.skip ?_;refine hS _ ?_;clear hS S;refine Wa X7 fun K J=>?_;simp;apply J;clear J K;refine Wp.block ?_;refine Wa X7 fun K J=>?_;simp[qk3];apply J;clear J K;refine Wf (by simp) ?_;refine Wa X7 fun K J=>?_;simp[qk4];apply J;clear J K;refine Wt (by simp) ?_;refine We fun S hS=>?_;refine Wc X7 [] fun K J=>?_;simp[Xe,Xd,Ez.cv,qkp,hl0,hl1,hl2,qka];apply And.intro;(·kernel_rfl);apply J;clear J K;refine Wt (by simp) ?_;refine Wa X7 fun K J=>?_;simp;apply J;clear J K;refine Wp.ret ?_;simp;rw[←hr,hd];simp[he,hh,hp,k4,kp,hl2,ka,Xqo]
 ·have hi:¬i<l.length:=by simpa using hc
  refine Wp.exit ?_;simp only[XV,Xx,if_true];clear hS S;refine hS _ ?_;clear hS S;refine Wa X7 fun K J=>?_;simp;apply J;clear J K;refine Wp.ret ?_;simp;rw[←hr,List.drop_eq_nil_of_le (by omega)];rfl
set_option maxHeartbeats 1000000 in
theorem Xmy(z:Bool)(xs:List (Int×Int))(hn:xs.length≤1000000):Xq Tryz.prog 48 [sV z 2 (KY xs)] (.val (bV (VC xs))):=by
 refine Xi (rs:=[.tmp 2]) (Xk _) Tryz.func48 rfl Tryz.ntmps48 rfl (by simp) ?_;refine Wa Xb fun K J=>?_;simp;apply J;clear J K;refine We fun S hS=>?_;refine Wa Xb fun K J=>?_;simp[XZ];apply J;clear J K;refine Wp.block ?_;refine Wp.loop (fun k s=>∃(i:Nat),i+k=xs.length∧i≤xs.length∧s=⟨[(0,sV z 2 (KY xs)),(2,bV false),(5,sV z 2 (KY xs)),(6,iV .i64 xs.length),(7,iV .i64 i)],[]⟩∧∀j,j<i→cellAt xs j=true)
  xs.length (s0:=⟨[(0,sV z 2 (KY xs)),(2,bV false),(5,sV z 2 (KY xs)),(6,iV .i64 xs.length),(7,iV .i64 0)],[]⟩) ?_ ⟨0,by simp,by simp,rfl,by simp⟩ fun k s ⟨i,hik,hil,hs,hr⟩=>?_
 ·apply Gh.of<;>simp
 subst hs;refine Wa Xb fun K J=>?_;simp;apply J;clear J K;refine We fun S hS=>?_;refine Wp.cond rfl (fun hc=>?_) (fun hc=>?_)
 ·have hi:i<xs.length:=by simpa using hc
  have hw:IntKind.i64.wrap ((i:Int)+1)=(i+1:Nat):=by rw[wrap_small]<;>omega
  have hgi:xs.getD i (0,0)=xs[i]:=by simp[List.getD_eq_getElem?_getD,List.getElem?_eq_getElem hi]
  have no:¬cellAt xs i=true→VC xs=false:=fun h=>all_false hi (by simpa using h);by_cases h8:(xs[i].1).tmod 8=0
  case neg=>
   refine Wp.skip ?_;refine hS _ ?_;clear hS S;refine We fun S hS=>?_;refine Wp.block ?_;refine Wa Xb fun K J=>?_;simp[hi,XZ,XX];apply J;clear J K;refine Wc Xb [] fun K J=>?_;simp[h8];apply And.intro;(·kernel_rfl);apply J;clear J K;refine Wt (by simp) ?_;refine Wa Xb fun K J=>?_;simp;apply J;clear J K;refine Wp.ret ?_;simp;exact no (by simp[cellAt,hi,h8])
  by_cases h0:0<i
  case neg=>
   obtain rfl:i=0:=by omega
   refine Wp.skip ?_;refine hS _ ?_;clear hS S;refine We fun S hS=>?_;refine Wp.block ?_;refine Wa Xb fun K J=>?_;simp[hi,XZ,XX];apply J;clear J K;refine Wc Xb [] fun K J=>?_;simp[h8];apply And.intro;(·kernel_rfl);apply J;clear J K;refine Wf (by simp) ?_;refine Wp.skip ?_;refine hS _ ?_;clear hS S;refine Wb Xb fun K J=>?_;simp;apply J;clear J K;refine⟨⟨[(0,sV z 2 (KY xs)),(2,bV false),(5,sV z 2 (KY xs)),(6,iV .i64 xs.length),(7,iV .i64 (0+1:Nat))],[]⟩,k - 1,?_,by omega,0+1,by omega,by omega,rfl,Y7 hr ?_⟩
   ·apply Gh.of<;>simp[IntKind.wrap,IntKind.bits,IntKind.signed]
   simp[cellAt,hi,h8]
  have hj:i - 1<xs.length:=by omega
  have hw1:IntKind.i64.wrap ((i:Int) - 1)=((i - 1:Nat):Int):=by rw[wrap_small]<;>omega
  by_cases hlt:xs[i - 1].1<xs[i].1
  case neg=>
   have hle:xs[i].1≤xs[i - 1].1:=by omega
   refine Wp.skip ?_;refine hS _ ?_;clear hS S;refine We fun S hS=>?_;refine Wp.block ?_;refine Wa Xb fun K J=>?_;simp[hi,XZ,XX];apply J;clear J K;refine Wc Xb [] fun K J=>?_;simp[XZ,XX,h8,h0,hw1,hj,hle];apply And.intro;(·kernel_rfl);apply J;clear J K;refine Wt (by simp) ?_;refine Wa Xb fun K J=>?_;simp;apply J;clear J K;refine Wp.ret ?_;simp;exact no (by simp[cellAt,hi,hj,h8,h0,hlt])
  ·have hle:¬xs[i].1≤xs[i - 1].1:=by omega
   refine Wp.skip ?_;refine hS _ ?_;clear hS S;refine We fun S hS=>?_;refine Wp.block ?_;refine Wa Xb fun K J=>?_;simp[hi,XZ,XX];apply J;clear J K;refine Wc Xb [] fun K J=>?_;simp[XZ,XX,h8,h0,hw1,hj,hle];apply And.intro;(·kernel_rfl);apply J;clear J K;refine Wf (by simp) ?_;refine Wp.skip ?_;refine hS _ ?_;clear hS S;refine Wb Xb fun K J=>?_;simp[hw];apply J;clear J K;refine⟨⟨[(0,sV z 2 (KY xs)),(2,bV false),(5,sV z 2 (KY xs)),(6,iV .i64 xs.length),(7,iV .i64 (i+1:Nat))],[]⟩,k - 1,?_,by omega,i+1,by omega,by omega,rfl,Y7 hr ?_⟩
   ·apply Gh.of<;>simp
   simp[cellAt,hi,hj,h8,hlt]
 ·have hi:¬i<xs.length:=by simpa using hc
  have hv:VC xs=true:=all_true fun j hj=>hr j (by omega);refine Wp.exit ?_;simp only[XV,Xx,if_true];clear hS S;refine hS _ ?_;clear hS S;refine Wa Xb fun K J=>?_;simp;apply J;clear J K;refine Wp.ret ?_;simp;exact hv
theorem Xqf(x:Int):Xq Tryz.prog 154 [iV .u64 x] (.val (bV false)):=by
 refine Xi (rs:=[.tmp 2]) (Xk _) Tryz.func154 rfl Tryz.ntmps154 rfl (by simp) ?_;refine Wa Xb fun K J=>?_;simp;apply J;clear J K;refine Wa Xb fun K J=>?_;simp;apply J;clear J K;refine Wp.ret ?_;simp
def Yal:List EV→Option (Prop×YX)
 |[.one (.c (.sc (.int .u64 _)))]=>some (True, .val (bV false))
 |_=>none
def sc1:Dw.Spec:=Xn 154 Yal Xao
theorem Kn:XF Tryz.prog sc1:=by
 refine Xp ⟨⟨_,Tryz.func154,rfl,rfl⟩⟩ (fun vs p r h hp=>?_) Xb;unfold Yal at h;split at h
 ·simp only[Option.some.injEq,Prod.mk.injEq]at h;obtain⟨rfl,rfl⟩:=h;exact Xqf _
 ·cases h
def Xqv(x y:Int):Int:=if x<y then -1 else if y<x then 1 else 0
theorem Xj2(x y:Int):Xq Tryz.prog 121 [iV .u64 x,iV .u64 y] (.val (iV .i64 (Xqv x y))):=by
 refine Xi (rs:=[.tmp 4]) (Xk _) Tryz.func121 rfl Tryz.ntmps121 rfl (by simp) ?_;by_cases h1:x<y
 ·refine Wa Kn fun K J=>?_;simp;apply J;clear J K;refine Wa Kn fun K J=>?_;simp[sc1,Xn,Yal];apply J;clear J K;refine Wa Kn fun K J=>?_;simp[sc1,Xn,Yal];apply J;clear J K;refine We fun S hS=>?_;refine Wa Kn fun K J=>?_;simp;apply J;clear J K;refine Wf (by simp) ?_;refine Wp.skip ?_;refine hS _ ?_;clear hS S;refine We fun S hS=>?_;refine Wa Kn fun K J=>?_;simp;apply J;clear J K;refine Wf (by simp) ?_;refine Wp.skip ?_;refine hS _ ?_;clear hS S;refine We fun S hS=>?_;refine Wa Kn fun K J=>?_;simp[h1];apply J;clear J K;refine Wt (by simp) ?_;refine Wa Kn fun K J=>?_;simp;apply J;clear J K;refine Wp.ret ?_;simp[Xqv,h1]
 ·by_cases h2:y<x
  ·refine Wa Kn fun K J=>?_;simp;apply J;clear J K;refine Wa Kn fun K J=>?_;simp[sc1,Xn,Yal];apply J;clear J K;refine Wa Kn fun K J=>?_;simp[sc1,Xn,Yal];apply J;clear J K;refine We fun S hS=>?_;refine Wa Kn fun K J=>?_;simp;apply J;clear J K;refine Wf (by simp) ?_;refine Wp.skip ?_;refine hS _ ?_;clear hS S;refine We fun S hS=>?_;refine Wa Kn fun K J=>?_;simp;apply J;clear J K;refine Wf (by simp) ?_;refine Wp.skip ?_;refine hS _ ?_;clear hS S;refine We fun S hS=>?_;refine Wa Kn fun K J=>?_;simp[h1];apply J;clear J K;refine Wf (by simp) ?_;refine Wp.skip ?_;refine hS _ ?_;clear hS S;refine We fun S hS=>?_;refine Wa Kn fun K J=>?_;simp[h2];apply J;clear J K;refine Wt (by simp) ?_;refine Wa Kn fun K J=>?_;simp;apply J;clear J K;refine Wp.ret ?_;simp[Xqv,h1,h2]
  ·refine Wa Kn fun K J=>?_;simp;apply J;clear J K;refine Wa Kn fun K J=>?_;simp[sc1,Xn,Yal];apply J;clear J K;refine Wa Kn fun K J=>?_;simp[sc1,Xn,Yal];apply J;clear J K;refine We fun S hS=>?_;refine Wa Kn fun K J=>?_;simp;apply J;clear J K;refine Wf (by simp) ?_;refine Wp.skip ?_;refine hS _ ?_;clear hS S;refine We fun S hS=>?_;refine Wa Kn fun K J=>?_;simp;apply J;clear J K;refine Wf (by simp) ?_;refine Wp.skip ?_;refine hS _ ?_;clear hS S;refine We fun S hS=>?_;refine Wa Kn fun K J=>?_;simp[h1];apply J;clear J K;refine Wf (by simp) ?_;refine Wp.skip ?_;refine hS _ ?_;clear hS S;refine We fun S hS=>?_;refine Wa Kn fun K J=>?_;simp[h2];apply J;clear J K;refine Wf (by simp) ?_;refine Wp.skip ?_;refine hS _ ?_;clear hS S;refine Wa Kn fun K J=>?_;simp;apply J;clear J K;refine Wp.ret ?_;simp[Xqv,h1,h2]
def Yiu:List EV→Option (Prop×YX)
 |[.one (.c (.sc (.int .u64 x))), .one (.c (.sc (.int .u64 y)))]=>some (True, .val (iV .i64 (Xqv x y)))
 |_=>none
def sc2:Dw.Spec:=Xn 121 Yiu sc1
theorem Xsn:XF Tryz.prog sc2:=by
 refine Xp ⟨⟨_,Tryz.func121,rfl,rfl⟩⟩ (fun vs p r h hp=>?_) Kn;unfold Yiu at h;split at h
 ·simp only[Option.some.injEq,Prod.mk.injEq]at h;obtain⟨rfl,rfl⟩:=h;exact Xj2 _ _
 ·cases h
theorem Xmn(x y a:Int):Xq Tryz.prog 120 [.agg [.c (.sc (.int .u64 x)), .c (.sc (.int .u64 y))],iV .u64 a] (.val (iV .i64 (Xqv x a))):=by
 refine Xi (rs:=[.tmp 4]) (Xk _) Tryz.func120 rfl Tryz.ntmps120 rfl (by simp) ?_;refine Wa Xsn fun K J=>?_;simp;apply J;clear J K;refine Wa Xsn fun K J=>?_;simp[sc2,Xn,Yiu];apply J;clear J K;refine Wp.ret ?_;simp
def gF1:List EV→Option (Prop×YX)
 |[.agg [.c (.sc (.int .u64 x)), .c (.sc (.int .u64 _))], .one (.c (.sc (.int .u64 a)))]=>some (True, .val (iV .i64 (Xqv x a)))
 |_=>none
def sc3:Dw.Spec:=Xn 120 gF1 sc2
theorem V9:XF Tryz.prog sc3:=by
 refine Xp ⟨⟨_,Tryz.func120,rfl,rfl⟩⟩ (fun vs p r h hp=>?_) Xsn;unfold gF1 at h;split at h
 ·simp only[Option.some.injEq,Prod.mk.injEq]at h;obtain⟨rfl,rfl⟩:=h;exact Xmn _ _ _
 ·cases h
def Xz1(xs:List (Int×Int)):Prop:=∀i j,i<j→j<xs.length→(xs.getD i (0,0)).1<(xs.getD j (0,0)).1
def Xx9(xs:List (Int×Int))(a:Int):Nat:=(xs.filter fun p=>decide (p.1<a)).length
theorem Xtz{xs:List (Int×Int)}{a:Int}{i:Nat}(hi:i≤xs.length)(h1:∀k,k<i→(xs.getD k (0,0)).1<a)(h2:∀k,i≤k→k<xs.length→¬(xs.getD k (0,0)).1<a):Xx9 xs a=i:=by
 have e:xs=xs.take i++xs.drop i:=(List.take_append_drop i xs).symm;have f1:(xs.take i).filter (fun p=>decide (p.1<a))=xs.take i:=by
  rw[List.filter_eq_self];intro p hp;obtain⟨k,hk,rfl⟩:=List.getElem_of_mem hp;have hk':k<i:=by simp at hk;omega
  have:=h1 k hk';simp only[List.getElem_take];have hkx:k<xs.length:=by omega
  simpa[List.getD_eq_getElem?_getD,List.getElem?_eq_getElem hkx]using this
 have f2:(xs.drop i).filter (fun p=>decide (p.1<a))=[]:=by
  rw[List.filter_eq_nil_iff];intro p hp;obtain⟨k,hk,rfl⟩:=List.getElem_of_mem hp;have hkx:i+k<xs.length:=by simp at hk;omega
  have:=h2 (i+k) (by omega) hkx;simp only[List.getElem_drop];simpa[List.getD_eq_getElem?_getD,List.getElem?_eq_getElem hkx]using this
 unfold Xx9
 conv=>lhs;rw[e]
 rw[List.filter_append,f1,f2];simp;omega
def atB(xs:List (Int×Int))(a:Int):Bool:=decide (Xx9 xs a<xs.length)&&decide ((xs.getD (Xx9 xs a) (0,0)).1=a)
set_option maxHeartbeats 1000000 in
theorem Xlk(z:Bool)(xs:List (Int×Int))(a:Int)(hn:xs.length≤1000000)(hr:Xz1 xs):Xq Tryz.prog 119 [sV z 2 (KY xs),iV .u64 a, .one (.c (.sc (.func (.func 120) #[] #[])))] (.val (.tup [iV .i64 (Xx9 xs a),bV (atB xs a)])):=by
 refine Xi (rs:=[.tmp 6, .tmp 7]) (Xk _) Tryz.func119 rfl Tryz.ntmps119 rfl (by simp) ?_;refine Wa V9 fun K J=>?_;simp;apply J;clear J K;refine Wa V9 fun K J=>?_;simp[XZ];apply J;clear J K;refine Wa V9 fun K J=>?_;simp;apply J;clear J K;refine We fun S hS=>?_;refine Wp.block ?_;refine Wp.loop (fun k s=>∃(i j:Nat),i+k=j∧j≤xs.length∧s=⟨[(0,sV z 2 (KY xs)),(1,iV .u64 a),(2, .one (.c (.sc (.func (.func 120) #[] #[])))),(6,iV .i64 0),(7,bV false),(8,iV .i64 xs.length),(9,iV .i64 i),(10,iV .i64 j)],[]⟩∧(∀k,k<i→(xs.getD k (0,0)).1<a)∧(∀k,j≤k→k<xs.length→¬(xs.getD k (0,0)).1<a))
  xs.length (s0:=⟨[(0,sV z 2 (KY xs)),(1,iV .u64 a),(2, .one (.c (.sc (.func (.func 120) #[] #[])))),(6,iV .i64 0),(7,bV false),(8,iV .i64 xs.length),(9,iV .i64 (0:Nat)),(10,iV .i64 xs.length)],[]⟩) ?_ ⟨0,xs.length,by omega,by omega,rfl,by simp,by intro k h1 h2;omega⟩ fun k s ⟨i,j,hik,hjl,hs,hl,hu⟩=>?_
 ·apply Gh.of<;>simp
 subst hs;refine We fun S hS=>?_;refine Wa V9 fun K J=>?_;simp;apply J;clear J K;refine Wp.cond rfl (fun hc=>?_) (fun hc=>?_)
 ·have hij:i<j:=by simpa using hc
  obtain⟨m,hm⟩:∃m:Nat,m=(i+j) / 2:=⟨_,rfl⟩;have hmi:i≤m∧m<j:=by omega
  have hmx:m<xs.length:=by omega
  have hq1:IntKind.i64.wrap ((i:Int)+j)=(i:Int)+j:=by rw[wrap_small]<;>omega
  have hq2:IntKind.u64.wrap ((i:Int)+j)=(i:Int)+j:=by simp only[IntKind.wrap,IntKind.bits,IntKind.signed];simp;omega
  have hq3:((i:Int)+j) / 2^min 1 IntKind.u64.bits=(m:Int):=by show((i:Int)+j) / 2=m;omega
  have hq4:IntKind.i64.wrap (m:Int)=(m:Int):=by rw[wrap_small]<;>omega
  have hw:IntKind.i64.wrap ((m:Int)+1)=(m+1:Nat):=by rw[wrap_small]<;>omega
  have hgm:xs.getD m (0,0)=xs[m]:=by simp[List.getD_eq_getElem?_getD,List.getElem?_eq_getElem hmx]
  by_cases hlt:xs[m].1<a
  ·have hcm:Xqv xs[m].1 a= -1:=by simp[Xqv,hlt]
   refine Wp.skip ?_;refine hS _ ?_;clear hS S;refine Wp.block ?_;refine Wa V9 fun K J=>?_;simp[hq1,hq2,hq3,hq4];apply J;clear J K;refine Wa V9 fun K J=>?_;simp[XZ,XX,sc3,Xn,gF1,hmx,hcm];apply J;clear J K;refine Wt (by simp) ?_;refine Wb V9 fun K J=>?_;simp[hw];apply J;clear J K;refine⟨⟨[(0,sV z 2 (KY xs)),(1,iV .u64 a),(2, .one (.c (.sc (.func (.func 120) #[] #[])))),(6,iV .i64 0),(7,bV false),(8,iV .i64 xs.length),(9,iV .i64 (m+1:Nat)),(10,iV .i64 (j:Nat))],[]⟩,j - (m+1),?_,by omega,m+1,j,by omega,hjl,rfl,?_,hu⟩
   ·apply Gh.of<;>simp
   intro k hk;rcases Nat.lt_or_ge k m with h|h
   ·have:=hr k m h hmx;rw[hgm]at this;omega
   ·obtain rfl:k=m:=by omega
    rw[hgm];exact hlt
  ·have hcm:¬Xqv xs[m].1 a<0:=by unfold Xqv;rw[if_neg hlt];split<;>omega
   refine Wp.skip ?_;refine hS _ ?_;clear hS S;refine Wp.block ?_;refine Wa V9 fun K J=>?_;simp[hq1,hq2,hq3,hq4];apply J;clear J K;refine Wa V9 fun K J=>?_;simp[XZ,XX,sc3,Xn,gF1,hmx,hcm];apply J;clear J K;refine Wf (by simp) ?_;refine Wb V9 fun K J=>?_;simp;apply J;clear J K;refine⟨⟨[(0,sV z 2 (KY xs)),(1,iV .u64 a),(2, .one (.c (.sc (.func (.func 120) #[] #[])))),(6,iV .i64 0),(7,bV false),(8,iV .i64 xs.length),(9,iV .i64 (i:Nat)),(10,iV .i64 (m:Nat))],[]⟩,m - i,?_,by omega,i,m,by omega,by omega,rfl,hl,?_⟩
   ·apply Gh.of<;>simp
   intro k hk hkx;rcases Nat.eq_or_lt_of_le hk with h|h
   ·subst h;rw[hgm];exact hlt
   ·have:=hr m k h hkx;rw[hgm]at this;omega
 ·have hij:¬i<j:=by simpa using hc
  obtain rfl:i=j:=by omega
  have hlow:=Xtz hjl hl hu;refine Wp.exit ?_;simp only[XV,Xx,if_true];by_cases hi:i<xs.length
  ·have hgi:xs.getD i (0,0)=xs[i]:=by simp[List.getD_eq_getElem?_getD,List.getElem?_eq_getElem hi]
   have hnl:=hu i (Nat.le_refl _) hi;rw[hgi]at hnl;have hz:Xqv xs[i].1 a=0↔xs[i].1=a:=by unfold Xqv;rw[if_neg hnl];split<;>omega
   clear hS S;refine hS _ ?_;clear hS S;refine Wa V9 fun K J=>?_;simp[hi,XZ,XX,sc3,Xn,gF1];apply J;clear J K;refine Wp.ret ?_;simp[hlow,atB,hi,hz]
  ·clear hS S;refine hS _ ?_;clear hS S;refine Wa V9 fun K J=>?_;simp[hi];apply J;clear J K;refine Wp.ret ?_;simp[hlow,atB,hi]
end Go.Proofs.YtjhfcfpkgfpoiaaGreatDoor
