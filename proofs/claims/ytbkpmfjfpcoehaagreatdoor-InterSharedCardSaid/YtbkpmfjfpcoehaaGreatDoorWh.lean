/- What is computed, as data, and laws of it. No condition. -/
import Derived.Test.YtbkpmfjfpcoehaaGreatDoorWg
set_option maxHeartbeats 16000000
namespace Go.Proofs.YtbkpmfjfpcoehaaGreatDoor
open Go Go.RowKit Dw
set_option maxRecDepth 100000
theorem W8(x:Ez)(hx:VR x.e)(hk:x.e.kind=5):Xq Tryz.prog 83 [evV x] (.val (iV .i64 (Yh (Xn x.e)))):=by
 obtain⟨n1,n2,n3⟩:=hx;have m1:x.e.da.length≤1000000:=by omega
 have m2:x.e.dd.length≤1000000:=by omega
 have m3:x.e.dw.length≤1000000:=by omega
 refine Xk (rs:=[.tmp 2]) (Xl _) Tryz.func83 rfl Tryz.ntmps83 rfl (by simp) ?_;unfold evV;refine Wa Xc fun K J=>?_;simp[hk];apply J;clear J K;refine Wa Xc fun K J=>?_;simp[sp4,sp3,sp2,sp1,Xo,AJ,hasB];apply J;clear J K;refine Wa Xc fun K J=>?_;simp;apply J;clear J K;refine Wa Xc fun K J=>?_;simp;apply J;clear J K;refine We fun S Y=>?_;refine Wa Xc fun K J=>?_;simp[IntKind.wrap,IntKind.bits,IntKind.signed];apply J;clear J K;refine Wf (by simp) ?_
 ((first|refine Wa Xc fun K J=>?_|refine Wb Xc fun K J=>?_|refine Wc Xc [5] fun K J=>?_|refine Wd Xc [5] fun K J=>?_);simp;apply And.intro;(·kernel_rfl);with_reducible refine J _ ?_;clear J K)
 apply Y;clear Y S;refine We fun S Y=>?_;refine Wa Xc fun K J=>?_;simp[IntKind.wrap,IntKind.bits,IntKind.signed];apply J;clear J K;refine Wt (by simp) ?_;refine Wb Xc fun K J=>?_;simp;apply J;clear J K;apply Y;clear Y S;refine We fun S Y=>?_;refine Wa Xc fun K J=>?_;simp[IntKind.wrap,IntKind.bits,IntKind.signed];apply J;clear J K;refine Wt (by simp) ?_
 ((first|refine Wa Xc fun K J=>?_|refine Wb Xc fun K J=>?_|refine Wc Xc [5] fun K J=>?_|refine Wd Xc [5] fun K J=>?_);simp;apply And.intro;(·kernel_rfl);with_reducible refine J _ ?_;clear J K)
 apply Y;clear Y S;refine We fun S Y=>?_;refine Wa Xc fun K J=>?_;simp[IntKind.wrap,IntKind.bits,IntKind.signed];apply J;clear J K;refine Wt (by simp) ?_
 ((first|refine Wa Xc fun K J=>?_|refine Wb Xc fun K J=>?_|refine Wc Xc [5] fun K J=>?_|refine Wd Xc [5] fun K J=>?_);simp;apply And.intro;(·kernel_rfl);with_reducible refine J _ ?_;clear J K)
 apply Y;clear Y S;refine We fun S Y=>?_;refine Wa Xc fun K J=>?_;simp[IntKind.wrap,IntKind.bits,IntKind.signed];apply J;clear J K;refine Wf (by simp) ?_;refine Wp.skip ?_;apply Y;clear Y S;refine We fun S Y=>?_;refine Wp.block ?_;refine We fun S Y=>?_;refine Wa Xc fun K J=>?_;simp;apply J;clear J K;refine Wf (by simp) ?_;refine Wa Xc fun K J=>?_;simp;apply J;clear J K;refine Wp.cond rfl (fun hc=>?_) (fun hc=>?_)
 ·have hq:x.e.hart<0:=by simpa using hc
  have hv:Xn x.e=false:=by
   cases hv:Xn x.e
   ·rfl
   exfalso;simp[Xn,XJ,XQ,Ev.mem,Ev.reads,Ev.writes,K9,XE,Xt,hk]at hv;grind
  refine Wp.skip ?_;apply Y;clear Y S;refine Wt (by simp[hq]) ?_;refine Wa Xc fun K J=>?_;simp[hq];apply J;clear J K;refine Wp.ret ?_;simp[hv,Yh]
 have hc1:¬(x.e.hart<0):=by simpa using hc
 clear hc;refine Wa Xc fun K J=>?_;simp[hc1];apply J;clear J K;refine Wp.cond rfl (fun hc=>?_) (fun hc=>?_)
 ·have hq:8≤x.e.hart:=by simpa using hc
  have hv:Xn x.e=false:=by
   cases hv:Xn x.e
   ·rfl
   exfalso;simp[Xn,XJ,XQ,Ev.mem,Ev.reads,Ev.writes,K9,XE,Xt,hk]at hv;grind
  refine Wp.skip ?_;apply Y;clear Y S;refine Wt (by simp[hq]) ?_;refine Wa Xc fun K J=>?_;simp[hq];apply J;clear J K;refine Wp.ret ?_;simp[hv,Yh]
 have hc2:¬(8≤x.e.hart):=by simpa using hc
 clear hc;refine Wa Xc fun K J=>?_;simp[hc2];apply J;clear J K;refine Wp.cond rfl (fun hc=>?_) (fun hc=>?_)
 ·have hq:x.e.pos<0:=by simpa using hc
  have hv:Xn x.e=false:=by
   cases hv:Xn x.e
   ·rfl
   exfalso;simp[Xn,XJ,XQ,Ev.mem,Ev.reads,Ev.writes,K9,XE,Xt,hk]at hv;grind
  refine Wp.skip ?_;apply Y;clear Y S;refine Wt (by simp[hq]) ?_;refine Wa Xc fun K J=>?_;simp[hq];apply J;clear J K;refine Wp.ret ?_;simp[hv,Yh]
 have hc3:¬(x.e.pos<0):=by simpa using hc
 clear hc;refine Wb Xc fun K J=>?_;simp[hc3,sp4,Xo,Eh,X2,unS,Xa,m1,m2,m3,Ez.small];apply J;clear J K;apply Y;clear Y S;refine Wp.cond rfl (fun hc=>?_) (fun hc=>?_)
 ·have hv:Xn x.e=false:=by
   cases hv:Xn x.e
   ·rfl
   exfalso;simp[Xn,XJ,XQ,Ev.mem,Ev.reads,Ev.writes,K9,XE,Xt,hk]at hv;simp[YE]at hc;grind
  have hq:=hc;refine Wa Xc fun K J=>?_;simp[hq];apply J;clear J K;refine Wp.ret ?_;simp[hv,Yh]
 have qpred:x.e.pred=0:=by simp[YE]at hc;grind
 have qsucc:x.e.succ=0:=by simp[YE]at hc;grind
 have qpair:x.e.pair=0:=by simp[YE]at hc;grind
 have hs:=hc;clear hc;refine We fun S Y=>?_;refine Wa Xc fun K J=>?_;simp[qpred,qsucc,qpair];apply J;clear J K;refine Wp.cond rfl (fun hc=>?_) (fun hc=>?_)
 ·have hq:¬x.e.addr.tmod 8=0:=by simpa using hc
  have hv:Xn x.e=false:=by
   cases hv:Xn x.e
   ·rfl
   exfalso;simp[Xn,XJ,XQ,Ev.mem,Ev.reads,Ev.writes,K9,XE,Xt,hk]at hv;grind
  refine Wp.skip ?_;apply Y;clear Y S;refine Wt (by simp[hq]) ?_;refine Wa Xc fun K J=>?_;simp[hq];apply J;clear J K;refine Wp.ret ?_;simp[hv,Yh]
 have hc4:¬(¬x.e.addr.tmod 8=0):=by simpa using hc
 clear hc;refine Wa Xc fun K J=>?_;simp;apply J;clear J K;refine Wf (by simp) ?_;refine Wa Xc fun K J=>?_;simp;apply J;clear J K;refine Wf (by simp) ?_;refine Wa Xc fun K J=>?_;simp;apply J;clear J K;refine Wf (by simp) ?_;refine Wb Xc fun K J=>?_;simp;apply J;clear J K;apply Y;clear Y S;refine Wf (by simp) ?_;refine We fun S Y=>?_;refine Wa Xc fun K J=>?_;simp[IntKind.wrap,IntKind.bits,IntKind.signed];apply J;clear J K;refine Wf (by simp) ?_;refine Wa Xc fun K J=>?_;simp[sp4,Xo,KB,Xa,m1];apply J;clear J K;refine Wp.cond rfl (fun hc=>?_) (fun hc=>?_)
 ·have hq:XO x.e.da x.e.pos=false:=by simpa using hc
  have hv:Xn x.e=false:=by
   cases hv:Xn x.e
   ·rfl
   exfalso;simp[Xn,XJ,XQ,Ev.mem,Ev.reads,Ev.writes,K9,XE,Xt,hk]at hv;grind
  refine Wp.skip ?_;apply Y;clear Y S;refine Wt (by simp[hq]) ?_;refine Wa Xc fun K J=>?_;simp[hq];apply J;clear J K;refine Wp.ret ?_;simp[hv,Yh]
 have hc5:¬(XO x.e.da x.e.pos=false):=by simpa using hc
 clear hc;refine Wa Xc fun K J=>?_;simp[hc5,sp4,Xo,KB,Xa,m2];apply J;clear J K;refine Wp.cond rfl (fun hc=>?_) (fun hc=>?_)
 ·have hq:XO x.e.dd x.e.pos=false:=by simpa using hc
  have hv:Xn x.e=false:=by
   cases hv:Xn x.e
   ·rfl
   exfalso;simp[Xn,XJ,XQ,Ev.mem,Ev.reads,Ev.writes,K9,XE,Xt,hk]at hv;grind
  refine Wp.skip ?_;apply Y;clear Y S;refine Wt (by simp[hq]) ?_;refine Wa Xc fun K J=>?_;simp[hq];apply J;clear J K;refine Wp.ret ?_;simp[hv,Yh]
 have hc6:¬(XO x.e.dd x.e.pos=false):=by simpa using hc
 clear hc;refine Wb Xc fun K J=>?_;simp[hc6,sp4,Xo,KB,Xa,m3];apply J;clear J K;apply Y;clear Y S;refine Wp.cond rfl (fun hc=>?_) (fun hc=>?_)
 ·have hq:XO x.e.dw x.e.pos=false:=by simpa using hc
  have hv:Xn x.e=false:=by
   cases hv:Xn x.e
   ·rfl
   exfalso;simp[Xn,XJ,XQ,Ev.mem,Ev.reads,Ev.writes,K9,XE,Xt,hk]at hv;grind
  refine Wa Xc fun K J=>?_;simp[hq];apply J;clear J K;refine Wp.ret ?_;simp[hv,Yh]
 have hc7:¬(XO x.e.dw x.e.pos=false):=by simpa using hc
 clear hc;refine Wp.skip ?_;apply Y;clear Y S;refine Wa Xc fun K J=>?_;simp[hc7];apply J;clear J K;refine Wp.ret ?_;simp;simp[Yh,Xn,XJ,XQ,Ev.mem,Ev.reads,Ev.writes,K9,XE,Xt,hk,qpred,qsucc,qpair];grind
theorem W7(x:Ez)(hx:VR x.e)(hk:x.e.kind=6):Xq Tryz.prog 83 [evV x] (.val (iV .i64 (Yh (Xn x.e)))):=by
 obtain⟨n1,n2,n3⟩:=hx;have m1:x.e.da.length≤1000000:=by omega
 have m2:x.e.dd.length≤1000000:=by omega
 have m3:x.e.dw.length≤1000000:=by omega
 refine Xk (rs:=[.tmp 2]) (Xl _) Tryz.func83 rfl Tryz.ntmps83 rfl (by simp) ?_;unfold evV;refine Wa Xc fun K J=>?_;simp[hk];apply J;clear J K;refine Wa Xc fun K J=>?_;simp[sp4,sp3,sp2,sp1,Xo,AJ,hasB];apply J;clear J K;refine Wa Xc fun K J=>?_;simp;apply J;clear J K;refine Wa Xc fun K J=>?_;simp;apply J;clear J K;refine We fun S Y=>?_;refine Wa Xc fun K J=>?_;simp[IntKind.wrap,IntKind.bits,IntKind.signed];apply J;clear J K;refine Wt (by simp) ?_
 ((first|refine Wa Xc fun K J=>?_|refine Wb Xc fun K J=>?_|refine Wc Xc [5] fun K J=>?_|refine Wd Xc [5] fun K J=>?_);simp;apply And.intro;(·kernel_rfl);with_reducible refine J _ ?_;clear J K)
 apply Y;clear Y S;refine We fun S Y=>?_;refine Wa Xc fun K J=>?_;simp[IntKind.wrap,IntKind.bits,IntKind.signed];apply J;clear J K;refine Wf (by simp) ?_;refine Wp.skip ?_;apply Y;clear Y S;refine We fun S Y=>?_;refine Wa Xc fun K J=>?_;simp[IntKind.wrap,IntKind.bits,IntKind.signed];apply J;clear J K;refine Wf (by simp) ?_;refine Wp.skip ?_;apply Y;clear Y S;refine We fun S Y=>?_;refine Wa Xc fun K J=>?_;simp[IntKind.wrap,IntKind.bits,IntKind.signed];apply J;clear J K;refine Wf (by simp) ?_;refine Wp.skip ?_;apply Y;clear Y S;refine We fun S Y=>?_;refine Wa Xc fun K J=>?_;simp[IntKind.wrap,IntKind.bits,IntKind.signed];apply J;clear J K;refine Wf (by simp) ?_;refine Wp.skip ?_;apply Y;clear Y S;refine We fun S Y=>?_;refine Wp.block ?_;refine We fun S Y=>?_;refine Wa Xc fun K J=>?_;simp;apply J;clear J K;refine Wf (by simp) ?_;refine Wa Xc fun K J=>?_;simp;apply J;clear J K;refine Wp.cond rfl (fun hc=>?_) (fun hc=>?_)
 ·have hq:x.e.hart<0:=by simpa using hc
  have hv:Xn x.e=false:=by
   cases hv:Xn x.e
   ·rfl
   exfalso;simp[Xn,XJ,JX,hk]at hv;grind
  refine Wp.skip ?_;apply Y;clear Y S;refine Wt (by simp[hq]) ?_;refine Wa Xc fun K J=>?_;simp[hq];apply J;clear J K;refine Wp.ret ?_;simp[hv,Yh]
 have hc1:¬(x.e.hart<0):=by simpa using hc
 clear hc;refine Wa Xc fun K J=>?_;simp[hc1];apply J;clear J K;refine Wp.cond rfl (fun hc=>?_) (fun hc=>?_)
 ·have hq:8≤x.e.hart:=by simpa using hc
  have hv:Xn x.e=false:=by
   cases hv:Xn x.e
   ·rfl
   exfalso;simp[Xn,XJ,JX,hk]at hv;grind
  refine Wp.skip ?_;apply Y;clear Y S;refine Wt (by simp[hq]) ?_;refine Wa Xc fun K J=>?_;simp[hq];apply J;clear J K;refine Wp.ret ?_;simp[hv,Yh]
 have hc2:¬(8≤x.e.hart):=by simpa using hc
 clear hc;refine Wa Xc fun K J=>?_;simp[hc2];apply J;clear J K;refine Wp.cond rfl (fun hc=>?_) (fun hc=>?_)
 ·have hq:x.e.pos<0:=by simpa using hc
  have hv:Xn x.e=false:=by
   cases hv:Xn x.e
   ·rfl
   exfalso;simp[Xn,XJ,JX,hk]at hv;grind
  refine Wp.skip ?_;apply Y;clear Y S;refine Wt (by simp[hq]) ?_;refine Wa Xc fun K J=>?_;simp[hq];apply J;clear J K;refine Wp.ret ?_;simp[hv,Yh]
 have hc3:¬(x.e.pos<0):=by simpa using hc
 clear hc;refine Wb Xc fun K J=>?_;simp[hc3,sp4,Xo,Eh,X2,unS,Xa,Ez.small];apply J;clear J K;apply Y;clear Y S;refine Wp.cond rfl (fun hc=>?_) (fun hc=>?_)
 ·have hv:Xn x.e=false:=by
   cases hv:Xn x.e
   ·rfl
   exfalso;simp[Xn,XJ,JX,hk]at hv;simp[YE]at hc;grind
  have hq:=hc;refine Wa Xc fun K J=>?_;simp[hq];apply J;clear J K;refine Wp.ret ?_;simp[hv,Yh]
 have qaddr:x.e.addr=0:=by simp[YE]at hc;grind
 have qload:x.e.load=0:=by simp[YE]at hc;grind
 have qstore:x.e.store=0:=by simp[YE]at hc;grind
 have qda:x.e.da=[]:=by simp[YE]at hc;grind
 have qdd:x.e.dd=[]:=by simp[YE]at hc;grind
 have qdw:x.e.dw=[]:=by simp[YE]at hc;grind
 have qaq:x.e.aq=false:=by simp[YE]at hc;grind
 have qrl:x.e.rl=false:=by simp[YE]at hc;grind
 have qpair:x.e.pair=0:=by simp[YE]at hc;grind
 have hs:=hc;clear hc;refine We fun S Y=>?_;refine Wa Xc fun K J=>?_;simp[qaddr,qload,qstore,qda,qdd,qdw,qaq,qrl,qpair];apply J;clear J K;refine Wf (by simp) ?_;refine Wa Xc fun K J=>?_;simp;apply J;clear J K;refine Wp.cond rfl (fun hc=>?_) (fun hc=>?_)
 ·have hq:x.e.pred<0:=by simpa using hc
  have hv:Xn x.e=false:=by
   cases hv:Xn x.e
   ·rfl
   exfalso;simp[Xn,XJ,JX,hk]at hv;grind
  refine Wp.skip ?_;apply Y;clear Y S;refine Wt (by simp[hq]) ?_;refine Wa Xc fun K J=>?_;simp[hq];apply J;clear J K;refine Wp.ret ?_;simp[hv,Yh]
 have hc4:¬(x.e.pred<0):=by simpa using hc
 clear hc;refine Wa Xc fun K J=>?_;simp[hc4];apply J;clear J K;refine Wp.cond rfl (fun hc=>?_) (fun hc=>?_)
 ·have hq:15<x.e.pred:=by simpa using hc
  have hv:Xn x.e=false:=by
   cases hv:Xn x.e
   ·rfl
   exfalso;simp[Xn,XJ,JX,hk]at hv;grind
  refine Wp.skip ?_;apply Y;clear Y S;refine Wt (by simp[hq]) ?_;refine Wa Xc fun K J=>?_;simp[hq];apply J;clear J K;refine Wp.ret ?_;simp[hv,Yh]
 have hc5:¬(15<x.e.pred):=by simpa using hc
 clear hc;refine Wa Xc fun K J=>?_;simp[hc5];apply J;clear J K;refine Wp.cond rfl (fun hc=>?_) (fun hc=>?_)
 ·have hq:x.e.succ<0:=by simpa using hc
  have hv:Xn x.e=false:=by
   cases hv:Xn x.e
   ·rfl
   exfalso;simp[Xn,XJ,JX,hk]at hv;grind
  refine Wp.skip ?_;apply Y;clear Y S;refine Wt (by simp[hq]) ?_;refine Wa Xc fun K J=>?_;simp[hq];apply J;clear J K;refine Wp.ret ?_;simp[hv,Yh]
 have hc6:¬(x.e.succ<0):=by simpa using hc
 clear hc;refine Wb Xc fun K J=>?_;simp[hc6];apply J;clear J K;apply Y;clear Y S;refine Wp.cond rfl (fun hc=>?_) (fun hc=>?_)
 ·have hq:15<x.e.succ:=by simpa using hc
  have hv:Xn x.e=false:=by
   cases hv:Xn x.e
   ·rfl
   exfalso;simp[Xn,XJ,JX,hk]at hv;grind
  refine Wa Xc fun K J=>?_;simp[hq];apply J;clear J K;refine Wp.ret ?_;simp[hv,Yh]
 have hc7:¬(15<x.e.succ):=by simpa using hc
 clear hc;refine We fun S Y=>?_;refine Wa Xc fun K J=>?_;simp[hc7,IntKind.wrap,IntKind.bits,IntKind.signed];apply J;clear J K;refine Wf (by simp) ?_;refine Wa Xc fun K J=>?_;simp[sp4,Xo,KB,Xa,KX];apply J;clear J K;refine Wf (by simp) ?_;refine Wa Xc fun K J=>?_;simp[sp4,Xo,KB,Xa,KX];apply J;clear J K;refine Wf (by simp) ?_;refine Wb Xc fun K J=>?_;simp[sp4,Xo,KB,Xa,KX];apply J;clear J K;apply Y;clear Y S;refine Wf (by simp) ?_;refine Wp.skip ?_;apply Y;clear Y S;refine Wa Xc fun K J=>?_;simp;apply J;clear J K;refine Wp.ret ?_;simp;simp[Yh,Xn,XJ,JX,hk,qaddr,qload,qstore,qda,qdd,qdw,qaq,qrl,qpair];grind
theorem Mp(x:Ez)(hx:VR x.e):Xq Tryz.prog 83 [evV x] (.val (iV .i64 (Yh (Xn x.e)))):=by
 by_cases h:x.e.kind<1∨6<x.e.kind
 ·exact Mo x h
 ·have:x.e.kind=1∨x.e.kind=2∨x.e.kind=3∨x.e.kind=4∨x.e.kind=5∨x.e.kind=6:=by omega
  rcases this with h|h|h|h|h|h
  ·exact check_1 x hx h
  ·exact aB x hx h
  ·exact aA x hx h
  ·exact W9 x hx h
  ·exact W8 x hx h
  ·exact W7 x hx h
def He:List EV→Option (Prop×Yw)
 |[v]=>(match X2 v with|some x=>some (VR x.e, .val (iV .i64 (Yh (Xn x.e))))|none=>none)
 |_=>none
def sp5:Dw.Spec:=Xo 83 He sp4
theorem X3:XA Tryz.prog sp5:=by
 refine Xp ⟨⟨_,Tryz.func83,rfl,rfl⟩⟩ (fun vs p r h hp=>?_) Xc;unfold He at h;split at h
 ·split at h
  ·rename_i x hx;simp only[ab,af]at h;obtain⟨rfl,rfl⟩:=h;exact Yp (.cons (Kd hx) .nil) (Mp _ hp)
  ·cases h
 ·cases h
theorem Ev.eta(e:Ev):(⟨e.hart,e.pos,e.kind,e.addr,e.load,e.store,e.aq,e.rl,e.pred,e.succ,e.pair,e.da,e.dd,e.dw⟩:Ev)=e:=rfl
def VF(hart:Int)(l:List Ez):Nat→Int→List Ez→Bool
 |_,_,[]=>true
 |i,last,x::r=>(Xn x.e&&(x.e.hart==hart&&x.e.pos==(i:Int)))&&(if x.e.kind=3 then VF hart l (i+1) i r else if x.e.kind=4 then(x.e.pair==last&&(l.getD last.toNat default).e.addr==x.e.addr)&&VF hart l (i+1) (-1) r else VF hart l (i+1) last r)
theorem U7{l:List Ez}{i:Nat}(h:i<l.length)(hart:Int)(last:Int):VF hart l i last (l.drop i)=((Xn l[i].e&&(l[i].e.hart==hart&&l[i].e.pos==(i:Int)))&&(if l[i].e.kind=3 then VF hart l (i+1) i (l.drop (i+1))else if l[i].e.kind=4 then(l[i].e.pair==last&&(l.getD last.toNat default).e.addr==l[i].e.addr)&&VF hart l (i+1) (-1) (l.drop (i+1))else VF hart l (i+1) last (l.drop (i+1)))):=by
 rw[bj h];rfl
theorem AY(h:Int)(z:Bool)(l:List Ez)(hn:l.length≤1000)(hf:∀x∈l,VR x.e):Xq Tryz.prog 48 [iV .i64 h,sV z 14 (XS l)] (.val (iV .i64 (Mc (VF h l 0 (-1) l)))):=by
 refine Xk (rs:=[.tmp 4]) (Xl _) Tryz.func48 rfl Tryz.ntmps48 rfl (by simp) ?_;refine Wa X3 fun K J=>?_;simp;apply J;clear J K;refine Wa X3 fun K J=>?_;simp;apply J;clear J K;refine We fun S Y=>?_;refine Wa X3 fun K J=>?_;simp[Xe];apply J;clear J K;refine Wp.block ?_;refine Wp.loop (fun k s=>∃(i:Nat) (last:Int),i+k=l.length∧(last= -1∨(0≤last∧last<i))∧s=⟨[(0,iV .i64 h),(1,sV z 14 (XS l)),(4,iV .i64 0),(5,iV .i64 last),(8,sV z 14 (XS l)),(9,iV .i64 l.length),(10,iV .i64 i)],[]⟩∧VF h l i last (l.drop i)=VF h l 0 (-1) l)
  l.length (s0:=⟨[(0,iV .i64 h),(1,sV z 14 (XS l)),(4,iV .i64 0),(5,iV .i64 (-1)),(8,sV z 14 (XS l)),(9,iV .i64 l.length),(10,iV .i64 0)],[]⟩) ?_ ⟨0, -1,by simp, .inl rfl,rfl,by simp⟩ fun k s ⟨i,last,hik,hla,hs,hr⟩=>?_
 ·apply Go1<;>simp
 subst hs;refine Wa X3 fun K J=>?_;simp;apply J;clear J K;refine We fun S Y=>?_;refine Wp.cond rfl (fun hc=>?_) (fun hc=>?_)
 ·have hi:i<l.length:=by simpa using hc
  have hd:=U7 hi h last;have hw:IntKind.i64.wrap ((i:Int)+1)=(i+1:Nat):=by rw[wrap_small]<;>omega
  have hfe:=hf l[i] (ba hi);refine Wp.skip ?_;apply Y;clear Y S;refine We fun S Y=>?_;refine Wp.block ?_;refine Wa X3 fun K J=>?_;simp[hi,Xe,Xd,Ez.cv];apply J;clear J K;refine We fun S Y=>?_;refine We fun S Y=>?_;cases he:Xn l[i].e
  ·have:=he;refine Wb X3 fun K J=>?_;simp[sp5,Xo,He,X2,unS,Xa,Ev.eta,hfe,he,Yh];apply J;clear J K;apply Y;clear Y S;refine Wt (by simp) ?_;refine Wa X3 fun K J=>?_;simp;apply J;clear J K;refine Wp.ret ?_;simp;rw[←hr,hd];simp[he,Mc]
  by_cases hh:l[i].e.hart=h
  case neg=>
   have qhh:=bh hh;refine Wb X3 fun K J=>?_;simp[sp5,Xo,He,X2,unS,Xa,Ev.eta,hfe,he,Yh,qhh];apply J;clear J K;apply Y;clear Y S;refine Wt (by simp) ?_;refine Wa X3 fun K J=>?_;simp;apply J;clear J K;refine Wp.ret ?_;simp;rw[←hr,hd];simp[he,hh,Mc]
  have qhh:=eq_true hh;by_cases hp:l[i].e.pos=(i:Int)
  case neg=>
   have qhp:=bh hp;refine Wb X3 fun K J=>?_;simp[sp5,Xo,He,X2,unS,Xa,Ev.eta,hfe,he,Yh,qhh,qhp];apply J;clear J K;apply Y;clear Y S;refine Wt (by simp) ?_;refine Wa X3 fun K J=>?_;simp;apply J;clear J K;refine Wp.ret ?_;simp;rw[←hr,hd];simp[he,hp,Mc]
  have qhp:=eq_true hp;by_cases k3:l[i].e.kind=3
  case pos=>
   have qk3:=eq_true k3;refine Wb X3 fun K J=>?_;simp[sp5,Xo,He,X2,unS,Xa,Ev.eta,hfe,he,Yh,qhh,qhp];apply J;clear J K;apply Y;clear Y S;refine Wf (by simp) ?_;refine Wp.skip ?_;apply Y;clear Y S;refine Wa X3 fun K J=>?_;simp;apply J;clear J K;refine Wp.block ?_;refine Wa X3 fun K J=>?_;simp[qk3];apply J;clear J K;refine Wt (by simp) ?_;refine Wb X3 fun K J=>?_;simp;apply J;clear J K;apply Y;clear Y S;refine Wb X3 fun K J=>?_;simp[hw];apply J;clear J K;refine⟨⟨[(0,iV .i64 h),(1,sV z 14 (XS l)),(4,iV .i64 0),(5,iV .i64 (i:Int)),(8,sV z 14 (XS l)),(9,iV .i64 l.length),(10,iV .i64 (i+1:Nat))],[]⟩,k - 1,?_,by omega,i+1,(i:Int),by omega,by omega,rfl,?_⟩
   ·apply Go1<;>simp
   rw[←hr,hd];simp[he,hh,hp,k3]
  have qk3:=bh k3;by_cases k4:l[i].e.kind=4
  case neg=>
   have qk4:=bh k4;refine Wb X3 fun K J=>?_;simp[sp5,Xo,He,X2,unS,Xa,Ev.eta,hfe,he,Yh,qhh,qhp];apply J;clear J K;apply Y;clear Y S;refine Wf (by simp) ?_;refine Wp.skip ?_;apply Y;clear Y S;refine Wa X3 fun K J=>?_;simp;apply J;clear J K;refine Wp.block ?_;refine Wa X3 fun K J=>?_;simp[qk3];apply J;clear J K;refine Wf (by simp) ?_;refine Wa X3 fun K J=>?_;simp[qk4];apply J;clear J K;refine Wf (by simp) ?_;refine Wp.skip ?_;apply Y;clear Y S;refine Wb X3 fun K J=>?_;simp[hw];apply J;clear J K;refine⟨⟨[(0,iV .i64 h),(1,sV z 14 (XS l)),(4,iV .i64 0),(5,iV .i64 last),(8,sV z 14 (XS l)),(9,iV .i64 l.length),(10,iV .i64 (i+1:Nat))],[]⟩,k - 1,?_,by omega,i+1,last,by omega,by omega,rfl,?_⟩
   ·apply Go1<;>simp
   rw[←hr,hd];simp[he,hh,hp,k3,k4]
  have qk4:=eq_true k4;by_cases kp:l[i].e.pair=last
  case neg=>
   have qkp:=bh kp;refine Wb X3 fun K J=>?_;simp[sp5,Xo,He,X2,unS,Xa,Ev.eta,hfe,he,Yh,qhh,qhp];apply J;clear J K;apply Y;clear Y S;refine Wf (by simp) ?_;refine Wp.skip ?_;apply Y;clear Y S;refine Wa X3 fun K J=>?_;simp;apply J;clear J K;refine Wp.block ?_;refine Wa X3 fun K J=>?_;simp[qk3];apply J;clear J K;refine Wf (by simp) ?_;refine Wa X3 fun K J=>?_;simp[qk4];apply J;clear J K;refine Wt (by simp) ?_;refine We fun S Y=>?_;refine Wc X3 [] fun K J=>?_;simp[qkp];apply And.intro;(·kernel_rfl);apply J;clear J K;refine Wt (by simp) ?_;refine Wa X3 fun K J=>?_;simp;apply J;clear J K;refine Wp.ret ?_;simp;rw[←hr,hd];simp[he,k4,kp,Mc]
  have qkp:=eq_true kp;have hl0:0≤last:=by have:=(Vz he k4).1;omega
  have hl1:last<(l.length:Int):=by omega
  have hl2:last.toNat<l.length:=by omega
  have hg:(l.getD last.toNat default)=l[last.toNat]:=by simp[aa hl2]
  by_cases ka:l[last.toNat].e.addr=l[i].e.addr
  ·have qka:=eq_true ka;refine Wb X3 fun K J=>?_;simp[sp5,Xo,He,X2,unS,Xa,Ev.eta,hfe,he,Yh,qhh,qhp];apply J;clear J K;apply Y;clear Y S;refine Wf (by simp) ?_;refine Wp.skip ?_;apply Y;clear Y S;refine Wa X3 fun K J=>?_;simp;apply J;clear J K;refine Wp.block ?_;refine Wa X3 fun K J=>?_;simp[qk3];apply J;clear J K;refine Wf (by simp) ?_;refine Wa X3 fun K J=>?_;simp[qk4];apply J;clear J K;refine Wt (by simp) ?_;refine We fun S Y=>?_;refine Wc X3 [] fun K J=>?_;simp[Xe,Xd,Ez.cv,qkp,hl0,hl1,hl2,qka];apply And.intro;(·kernel_rfl);apply J;clear J K;refine Wf (by simp) ?_;refine Wp.skip ?_;apply Y;clear Y S;refine Wb X3 fun K J=>?_;simp;apply J;clear J K;apply Y;clear Y S;refine Wb X3 fun K J=>?_;simp[hw];apply J;clear J K;refine⟨⟨[(0,iV .i64 h),(1,sV z 14 (XS l)),(4,iV .i64 0),(5,iV .i64 (-1)),(8,sV z 14 (XS l)),(9,iV .i64 l.length),(10,iV .i64 (i+1:Nat))],[]⟩,k - 1,?_,by omega,i+1,(-1),by omega,by omega,rfl,?_⟩
   ·apply Go1<;>simp
   rw[←hr,hd];simp[he,hh,hp,k4,kp,hl2,ka]
  ·have qka:=bh ka;refine Wb X3 fun K J=>?_;simp[sp5,Xo,He,X2,unS,Xa,Ev.eta,hfe,he,Yh,qhh,qhp];apply J;clear J K;apply Y;clear Y S;refine Wf (by simp) ?_;refine Wp.skip ?_;apply Y;clear Y S;refine Wa X3 fun K J=>?_;simp;apply J;clear J K;refine Wp.block ?_;refine Wa X3 fun K J=>?_;simp[qk3];apply J;clear J K;refine Wf (by simp) ?_;refine Wa X3 fun K J=>?_;simp[qk4];apply J;clear J K;refine Wt (by simp) ?_;refine We fun S Y=>?_;refine Wc X3 [] fun K J=>?_;simp[Xe,Xd,Ez.cv,qkp,hl0,hl1,hl2,qka];apply And.intro;(·kernel_rfl);apply J;clear J K;refine Wt (by simp) ?_;refine Wa X3 fun K J=>?_;simp;apply J;clear J K;refine Wp.ret ?_;simp;rw[←hr,hd];simp[he,hh,hp,k4,kp,hl2,ka,Mc]
 ·have hi:¬i<l.length:=by simpa using hc
  refine Wp.exit ?_;simp only[XW,XG,if_true];clear Y S;apply Y;clear Y S;refine Wa X3 fun K J=>?_;simp;apply J;clear J K;refine Wp.ret ?_;simp;rw[←hr,cg (by omega)];rfl
theorem FU(z:Bool)(xs:List (Int×Int))(hn:xs.length≤1000000):Xq Tryz.prog 47 [sV z 2 (Y1 xs)] (.val (bV (KI xs))):=by
 refine Xk (rs:=[.tmp 2]) (Xl _) Tryz.func47 rfl Tryz.ntmps47 rfl (by simp) ?_;refine Wa Xb fun K J=>?_;simp;apply J;clear J K;refine We fun S Y=>?_;refine Wa Xb fun K J=>?_;simp[XD];apply J;clear J K;refine Wp.block ?_;refine Wp.loop (fun k s=>∃(i:Nat),i+k=xs.length∧i≤xs.length∧s=⟨[(0,sV z 2 (Y1 xs)),(2,bV false),(5,sV z 2 (Y1 xs)),(6,iV .i64 xs.length),(7,iV .i64 i)],[]⟩∧∀j,j<i→cellAt xs j=true)
  xs.length (s0:=⟨[(0,sV z 2 (Y1 xs)),(2,bV false),(5,sV z 2 (Y1 xs)),(6,iV .i64 xs.length),(7,iV .i64 0)],[]⟩) ?_ ⟨0,by simp,by simp,rfl,by simp⟩ fun k s ⟨i,hik,hil,hs,hr⟩=>?_
 ·apply Go1<;>simp
 subst hs;refine Wa Xb fun K J=>?_;simp;apply J;clear J K;refine We fun S Y=>?_;refine Wp.cond rfl (fun hc=>?_) (fun hc=>?_)
 ·have hi:i<xs.length:=by simpa using hc
  have hw:IntKind.i64.wrap ((i:Int)+1)=(i+1:Nat):=by rw[wrap_small]<;>omega
  have hgi:xs.getD i (0,0)=xs[i]:=by simp[aa hi]
  have no:¬cellAt xs i=true→KI xs=false:=fun h=>all_false hi (by simpa using h);by_cases h8:(xs[i].1).tmod 8=0
  case neg=>
   refine Wp.skip ?_;apply Y;clear Y S;refine We fun S Y=>?_;refine Wp.block ?_;refine Wa Xb fun K J=>?_;simp[hi,XD,XC];apply J;clear J K;refine Wc Xb [] fun K J=>?_;simp[h8];apply And.intro;(·kernel_rfl);apply J;clear J K;refine Wt (by simp) ?_;refine Wa Xb fun K J=>?_;simp;apply J;clear J K;refine Wp.ret ?_;simp;exact no (by simp[cellAt,hi,h8])
  by_cases h0:0<i
  case neg=>
   obtain rfl:i=0:=by omega
   refine Wp.skip ?_;apply Y;clear Y S;refine We fun S Y=>?_;refine Wp.block ?_;refine Wa Xb fun K J=>?_;simp[hi,XD,XC];apply J;clear J K;refine Wc Xb [] fun K J=>?_;simp[h8];apply And.intro;(·kernel_rfl);apply J;clear J K;refine Wf (by simp) ?_;refine Wp.skip ?_;apply Y;clear Y S;refine Wb Xb fun K J=>?_;simp;apply J;clear J K;refine⟨⟨[(0,sV z 2 (Y1 xs)),(2,bV false),(5,sV z 2 (Y1 xs)),(6,iV .i64 xs.length),(7,iV .i64 (0+1:Nat))],[]⟩,k - 1,?_,by omega,0+1,by omega,by omega,rfl,YR hr ?_⟩
   ·apply Go1<;>simp[IntKind.wrap,IntKind.bits,IntKind.signed]
   simp[cellAt,hi,h8]
  have hj:i - 1<xs.length:=by omega
  have hw1:IntKind.i64.wrap ((i:Int) - 1)=((i - 1:Nat):Int):=by rw[wrap_small]<;>omega
  by_cases hlt:xs[i - 1].1<xs[i].1
  case neg=>
   have hle:xs[i].1≤xs[i - 1].1:=by omega
   refine Wp.skip ?_;apply Y;clear Y S;refine We fun S Y=>?_;refine Wp.block ?_;refine Wa Xb fun K J=>?_;simp[hi,XD,XC];apply J;clear J K;refine Wc Xb [] fun K J=>?_;simp[XD,XC,h8,h0,hw1,hj,hle];apply And.intro;(·kernel_rfl);apply J;clear J K;refine Wt (by simp) ?_;refine Wa Xb fun K J=>?_;simp;apply J;clear J K;refine Wp.ret ?_;simp;exact no (by simp[cellAt,hi,hj,h8,h0,hlt])
  ·have hle:¬xs[i].1≤xs[i - 1].1:=by omega
   refine Wp.skip ?_;apply Y;clear Y S;refine We fun S Y=>?_;refine Wp.block ?_;refine Wa Xb fun K J=>?_;simp[hi,XD,XC];apply J;clear J K;refine Wc Xb [] fun K J=>?_;simp[XD,XC,h8,h0,hw1,hj,hle];apply And.intro;(·kernel_rfl);apply J;clear J K;refine Wf (by simp) ?_;refine Wp.skip ?_;apply Y;clear Y S;refine Wb Xb fun K J=>?_;simp[hw];apply J;clear J K;refine⟨⟨[(0,sV z 2 (Y1 xs)),(2,bV false),(5,sV z 2 (Y1 xs)),(6,iV .i64 xs.length),(7,iV .i64 (i+1:Nat))],[]⟩,k - 1,?_,by omega,i+1,by omega,by omega,rfl,YR hr ?_⟩
   ·apply Go1<;>simp
   simp[cellAt,hi,hj,h8,hlt]
 ·have hi:¬i<xs.length:=by simpa using hc
  have hv:KI xs=true:=all_true fun j hj=>hr j (by omega);refine Wp.exit ?_;simp only[XW,XG,if_true];clear Y S;apply Y;clear Y S;refine Wa Xb fun K J=>?_;simp;apply J;clear J K;refine Wp.ret ?_;simp;exact hv
theorem L2(x:Int):Xq Tryz.prog 155 [iV .u64 x] (.val (bV false)):=by
 refine Xk (rs:=[.tmp 2]) (Xl _) Tryz.func155 rfl Tryz.ntmps155 rfl (by simp) ?_;refine Wa Xb fun K J=>?_;simp;apply J;clear J K;refine Wa Xb fun K J=>?_;simp;apply J;clear J K;refine Wp.ret ?_;simp
def CI:List EV→Option (Prop×Yw)
 |[.one (.c (.sc (.int .u64 _)))]=>some (True, .val (bV false))
 |_=>none
def sc1:Dw.Spec:=Xo 155 CI HH
theorem Y5:XA Tryz.prog sc1:=by
 refine Xp ⟨⟨_,Tryz.func155,rfl,rfl⟩⟩ (fun vs p r h hp=>?_) Xb;unfold CI at h;split at h
 ·simp only[ab,af]at h;obtain⟨rfl,rfl⟩:=h;exact L2 _
 ·cases h
def Mk(x y:Int):Int:=if x<y then -1 else if y<x then 1 else 0
theorem Ex(x y:Int):Xq Tryz.prog 122 [iV .u64 x,iV .u64 y] (.val (iV .i64 (Mk x y))):=by
 refine Xk (rs:=[.tmp 4]) (Xl _) Tryz.func122 rfl Tryz.ntmps122 rfl (by simp) ?_;by_cases h1:x<y
 ·refine Wa Y5 fun K J=>?_;simp;apply J;clear J K;refine Wa Y5 fun K J=>?_;simp[sc1,Xo,CI];apply J;clear J K;refine Wa Y5 fun K J=>?_;simp[sc1,Xo,CI];apply J;clear J K;refine We fun S Y=>?_;refine Wa Y5 fun K J=>?_;simp;apply J;clear J K;refine Wf (by simp) ?_;refine Wp.skip ?_;apply Y;clear Y S;refine We fun S Y=>?_;refine Wa Y5 fun K J=>?_;simp;apply J;clear J K;refine Wf (by simp) ?_;refine Wp.skip ?_;apply Y;clear Y S;refine We fun S Y=>?_;refine Wa Y5 fun K J=>?_;simp[h1];apply J;clear J K;refine Wt (by simp) ?_;refine Wa Y5 fun K J=>?_;simp;apply J;clear J K;refine Wp.ret ?_;simp[Mk,h1]
 ·by_cases h2:y<x
  ·refine Wa Y5 fun K J=>?_;simp;apply J;clear J K;refine Wa Y5 fun K J=>?_;simp[sc1,Xo,CI];apply J;clear J K;refine Wa Y5 fun K J=>?_;simp[sc1,Xo,CI];apply J;clear J K;refine We fun S Y=>?_;refine Wa Y5 fun K J=>?_;simp;apply J;clear J K;refine Wf (by simp) ?_;refine Wp.skip ?_;apply Y;clear Y S;refine We fun S Y=>?_;refine Wa Y5 fun K J=>?_;simp;apply J;clear J K;refine Wf (by simp) ?_;refine Wp.skip ?_;apply Y;clear Y S;refine We fun S Y=>?_;refine Wa Y5 fun K J=>?_;simp[h1];apply J;clear J K;refine Wf (by simp) ?_;refine Wp.skip ?_;apply Y;clear Y S;refine We fun S Y=>?_;refine Wa Y5 fun K J=>?_;simp[h2];apply J;clear J K;refine Wt (by simp) ?_;refine Wa Y5 fun K J=>?_;simp;apply J;clear J K;refine Wp.ret ?_;simp[Mk,h1,h2]
  ·refine Wa Y5 fun K J=>?_;simp;apply J;clear J K;refine Wa Y5 fun K J=>?_;simp[sc1,Xo,CI];apply J;clear J K;refine Wa Y5 fun K J=>?_;simp[sc1,Xo,CI];apply J;clear J K;refine We fun S Y=>?_;refine Wa Y5 fun K J=>?_;simp;apply J;clear J K;refine Wf (by simp) ?_;refine Wp.skip ?_;apply Y;clear Y S;refine We fun S Y=>?_;refine Wa Y5 fun K J=>?_;simp;apply J;clear J K;refine Wf (by simp) ?_;refine Wp.skip ?_;apply Y;clear Y S;refine We fun S Y=>?_;refine Wa Y5 fun K J=>?_;simp[h1];apply J;clear J K;refine Wf (by simp) ?_;refine Wp.skip ?_;apply Y;clear Y S;refine We fun S Y=>?_;refine Wa Y5 fun K J=>?_;simp[h2];apply J;clear J K;refine Wf (by simp) ?_;refine Wp.skip ?_;apply Y;clear Y S;refine Wa Y5 fun K J=>?_;simp;apply J;clear J K;refine Wp.ret ?_;simp[Mk,h1,h2]
def mE:List EV→Option (Prop×Yw)
 |[.one (.c (.sc (.int .u64 x))), .one (.c (.sc (.int .u64 y)))]=>some (True, .val (iV .i64 (Mk x y)))
 |_=>none
def sc2:Dw.Spec:=Xo 122 mE sc1
theorem Tm:XA Tryz.prog sc2:=by
 refine Xp ⟨⟨_,Tryz.func122,rfl,rfl⟩⟩ (fun vs p r h hp=>?_) Y5;unfold mE at h;split at h
 ·simp only[ab,af]at h;obtain⟨rfl,rfl⟩:=h;exact Ex _ _
 ·cases h
theorem FH(x y a:Int):Xq Tryz.prog 121 [.agg [.c (.sc (.int .u64 x)), .c (.sc (.int .u64 y))],iV .u64 a] (.val (iV .i64 (Mk x a))):=by
 refine Xk (rs:=[.tmp 4]) (Xl _) Tryz.func121 rfl Tryz.ntmps121 rfl (by simp) ?_;refine Wa Tm fun K J=>?_;simp;apply J;clear J K;refine Wa Tm fun K J=>?_;simp[sc2,Xo,mE];apply J;clear J K;refine Wp.ret ?_;simp
def gF1:List EV→Option (Prop×Yw)
 |[.agg [.c (.sc (.int .u64 x)), .c (.sc (.int .u64 _))], .one (.c (.sc (.int .u64 a)))]=>some (True, .val (iV .i64 (Mk x a)))
 |_=>none
def sc3:Dw.Spec:=Xo 121 gF1 sc2
theorem Vm:XA Tryz.prog sc3:=by
 refine Xp ⟨⟨_,Tryz.func121,rfl,rfl⟩⟩ (fun vs p r h hp=>?_) Tm;unfold gF1 at h;split at h
 ·simp only[ab,af]at h;obtain⟨rfl,rfl⟩:=h;exact FH _ _ _
 ·cases h
def Cj(xs:List (Int×Int)):Prop:=∀i j,i<j→j<xs.length→(xs.getD i (0,0)).1<(xs.getD j (0,0)).1
def N4(xs:List (Int×Int))(a:Int):Nat:=(xs.filter fun p=>decide (p.1<a)).length
theorem Ai{xs:List (Int×Int)}{a:Int}{i:Nat}(hi:i≤xs.length)(h1:∀k,k<i→(xs.getD k (0,0)).1<a)(h2:∀k,i≤k→k<xs.length→¬(xs.getD k (0,0)).1<a):N4 xs a=i:=by
 have e:xs=xs.take i++xs.drop i:=(fk i xs).symm;have f1:(xs.take i).filter (fun p=>decide (p.1<a))=xs.take i:=by
  rw[List.filter_eq_self];intro p hp;obtain⟨k,hk,rfl⟩:=be hp;have hk':k<i:=by simp at hk;omega
  have:=h1 k hk';simp only[List.getElem_take];have hkx:k<xs.length:=by omega
  simpa[ac,aa hkx]using this
 have f2:(xs.drop i).filter (fun p=>decide (p.1<a))=[]:=by
  rw[List.filter_eq_nil_iff];intro p hp;obtain⟨k,hk,rfl⟩:=be hp;have hkx:i+k<xs.length:=by simp at hk;omega
  have:=h2 (i+k) (by omega) hkx;simp only[List.getElem_drop];simpa[ac,aa hkx]using this
 unfold N4
 conv=>lhs;rw[e]
 rw[gk,f1,f2];simp;omega
def atB(xs:List (Int×Int))(a:Int):Bool:=decide (N4 xs a<xs.length)&&decide ((xs.getD (N4 xs a) (0,0)).1=a)
theorem E8(z:Bool)(xs:List (Int×Int))(a:Int)(hn:xs.length≤1000000)(hr:Cj xs):Xq Tryz.prog 120 [sV z 2 (Y1 xs),iV .u64 a, .one (.c (.sc (.func (.func 121) #[] #[])))] (.val (.tup [iV .i64 (N4 xs a),bV (atB xs a)])):=by
 refine Xk (rs:=[.tmp 6, .tmp 7]) (Xl _) Tryz.func120 rfl Tryz.ntmps120 rfl (by simp) ?_;refine Wa Vm fun K J=>?_;simp;apply J;clear J K;refine Wa Vm fun K J=>?_;simp[XD];apply J;clear J K;refine Wa Vm fun K J=>?_;simp;apply J;clear J K;refine We fun S Y=>?_;refine Wp.block ?_;refine Wp.loop (fun k s=>∃(i j:Nat),i+k=j∧j≤xs.length∧s=⟨[(0,sV z 2 (Y1 xs)),(1,iV .u64 a),(2, .one (.c (.sc (.func (.func 121) #[] #[])))),(6,iV .i64 0),(7,bV false),(8,iV .i64 xs.length),(9,iV .i64 i),(10,iV .i64 j)],[]⟩∧(∀k,k<i→(xs.getD k (0,0)).1<a)∧(∀k,j≤k→k<xs.length→¬(xs.getD k (0,0)).1<a))
  xs.length (s0:=⟨[(0,sV z 2 (Y1 xs)),(1,iV .u64 a),(2, .one (.c (.sc (.func (.func 121) #[] #[])))),(6,iV .i64 0),(7,bV false),(8,iV .i64 xs.length),(9,iV .i64 (0:Nat)),(10,iV .i64 xs.length)],[]⟩) ?_ ⟨0,xs.length,by omega,by omega,rfl,by simp,by intro k h1 h2;omega⟩ fun k s ⟨i,j,hik,hjl,hs,hl,hu⟩=>?_
 ·apply Go1<;>simp
 subst hs;refine We fun S Y=>?_;refine Wa Vm fun K J=>?_;simp;apply J;clear J K;refine Wp.cond rfl (fun hc=>?_) (fun hc=>?_)
 ·have hij:i<j:=by simpa using hc
  obtain⟨m,hm⟩:∃m:Nat,m=(i+j) / 2:=⟨_,rfl⟩;have hmi:i≤m∧m<j:=by omega
  have hmx:m<xs.length:=by omega
  have hq1:IntKind.i64.wrap ((i:Int)+j)=(i:Int)+j:=by rw[wrap_small]<;>omega
  have hq2:IntKind.u64.wrap ((i:Int)+j)=(i:Int)+j:=by simp only[IntKind.wrap,IntKind.bits,IntKind.signed];simp;omega
  have hq3:((i:Int)+j) / 2^min 1 IntKind.u64.bits=(m:Int):=by show((i:Int)+j) / 2=m;omega
  have hq4:IntKind.i64.wrap (m:Int)=(m:Int):=by rw[wrap_small]<;>omega
  have hw:IntKind.i64.wrap ((m:Int)+1)=(m+1:Nat):=by rw[wrap_small]<;>omega
  have hgm:xs.getD m (0,0)=xs[m]:=by simp[aa hmx]
  by_cases hlt:xs[m].1<a
  ·have hcm:Mk xs[m].1 a= -1:=by simp[Mk,hlt]
   refine Wp.skip ?_;apply Y;clear Y S;refine Wp.block ?_;refine Wa Vm fun K J=>?_;simp[hq1,hq2,hq3,hq4];apply J;clear J K;refine Wa Vm fun K J=>?_;simp[XD,XC,sc3,Xo,gF1,hmx,hcm];apply J;clear J K;refine Wt (by simp) ?_;refine Wb Vm fun K J=>?_;simp[hw];apply J;clear J K;refine⟨⟨[(0,sV z 2 (Y1 xs)),(1,iV .u64 a),(2, .one (.c (.sc (.func (.func 121) #[] #[])))),(6,iV .i64 0),(7,bV false),(8,iV .i64 xs.length),(9,iV .i64 (m+1:Nat)),(10,iV .i64 (j:Nat))],[]⟩,j - (m+1),?_,by omega,m+1,j,by omega,hjl,rfl,?_,hu⟩
   ·apply Go1<;>simp
   intro k hk;rcases cp k m with h|h
   ·have:=hr k m h hmx;rw[hgm]at this;omega
   ·obtain rfl:k=m:=by omega
    rw[hgm];exact hlt
  ·have hcm:¬Mk xs[m].1 a<0:=by unfold Mk;rw[if_neg hlt];split<;>omega
   refine Wp.skip ?_;apply Y;clear Y S;refine Wp.block ?_;refine Wa Vm fun K J=>?_;simp[hq1,hq2,hq3,hq4];apply J;clear J K;refine Wa Vm fun K J=>?_;simp[XD,XC,sc3,Xo,gF1,hmx,hcm];apply J;clear J K;refine Wf (by simp) ?_;refine Wb Vm fun K J=>?_;simp;apply J;clear J K;refine⟨⟨[(0,sV z 2 (Y1 xs)),(1,iV .u64 a),(2, .one (.c (.sc (.func (.func 121) #[] #[])))),(6,iV .i64 0),(7,bV false),(8,iV .i64 xs.length),(9,iV .i64 (i:Nat)),(10,iV .i64 (m:Nat))],[]⟩,m - i,?_,by omega,i,m,by omega,by omega,rfl,hl,?_⟩
   ·apply Go1<;>simp
   intro k hk hkx;rcases bn hk with h|h
   ·subst h;rw[hgm];exact hlt
   ·have:=hr m k h hkx;rw[hgm]at this;omega
 ·have hij:¬i<j:=by simpa using hc
  obtain rfl:i=j:=by omega
  have hlow:=Ai hjl hl hu;refine Wp.exit ?_;simp only[XW,XG,if_true];by_cases hi:i<xs.length
  ·have hgi:xs.getD i (0,0)=xs[i]:=by simp[aa hi]
   have hnl:=hu i (ak _) hi;rw[hgi]at hnl;have hz:Mk xs[i].1 a=0↔xs[i].1=a:=by unfold Mk;rw[if_neg hnl];split<;>omega
   clear Y S;apply Y;clear Y S;refine Wa Vm fun K J=>?_;simp[hi,XD,XC,sc3,Xo,gF1];apply J;clear J K;refine Wp.ret ?_;simp[hlow,atB,hi,hz]
  ·clear Y S;apply Y;clear Y S;refine Wa Vm fun K J=>?_;simp[hi];apply J;clear J K;refine Wp.ret ?_;simp[hlow,atB,hi]
def unC:List (List Cv)→Option (List (Int×Int))
 |[]=>some []
 |[.sc (.int .u64 x), .sc (.int .u64 y)]::r=>(match unC r with|some l=>some ((x,y)::l)|none=>none)
 |_=>none
theorem Ya(xs:List (Int×Int)):unC (Y1 xs)=some xs:=by
 induction xs with
 |nil=>rfl
 |cons a r ih=>simp only[Y1,ft,unC]at*;rw[ih]
theorem G6{els:List (List Cv)}{xs:List (Int×Int)}(h:unC els=some xs):els=Y1 xs:=by
 induction els generalizing xs with
 |nil=>injection h with h;subst h;rfl
 |cons a r ih=>
  unfold unC at h;split at h
  ·rename_i e;cases e
  ·rename_i x y r' e;injection e with e1 e2;subst e1;subst e2;split at h
   ·rename_i l hl;injection h with h;subst h;rw[ih hl];rfl
   ·cases h
  ·cases h
def RD:List EV→Option (Prop×Yw)
 |[.one (.c (.sl _z 2 els)), .one (.c (.sc (.int .u64 a))), .one (.c (.sc (.func (.func f) ⟨[]⟩ ⟨[]⟩)))]=>if f=121 then(match unC els with|some xs=>some (xs.length≤1000000∧Cj xs, .val (.tup [iV .i64 (N4 xs a),bV (atB xs a)]))|none=>none)else none
 |_=>none
def sc4:Dw.Spec:=Xo 120 RD sc3
theorem ZP:XA Tryz.prog sc4:=by
 refine Xp ⟨⟨_,Tryz.func120,rfl,rfl⟩⟩ (fun vs p r h hp=>?_) Vm;unfold RD at h;split at h
 ·split at h
  ·rename_i hf;subst hf;split at h
   ·rename_i xs hx;simp only[ab,af]at h;obtain⟨rfl,rfl⟩:=h;rw[G6 hx];exact E8 _ _ _ hp.1 hp.2
   ·cases h
  ·cases h
 ·cases h
theorem AT{xs:List (Int×Int)}{a:Int}(hr:Cj xs){i:Nat}(hi:i<xs.length)(h:xs[i].1=a):Ks xs a=xs[i].2:=by
 unfold Ks;have:xs.find? (fun p=>decide (p.1=a))=some xs[i]:=by
  rw[jp];refine⟨by simp[h],i,hi,rfl,fun j hj=>?_⟩;have:=hr j i hj hi;simp only[ac,aa hi,aa (show j<xs.length by omega),ec]at this;simp;omega
 rw[this];rfl
theorem Ma{xs:List (Int×Int)}{a:Int}(hr:Cj xs)(h:atB xs a=false):Ks xs a=0:=by
 refine FJ fun i hi he=>?_;have hl:N4 xs a=i:=Ai (fx hi) (fun k hk=>by have:=hr k i hk hi;omega) fun k hk hkx=>by
  rcases bn hk with h|h
  ·subst h;omega
  ·have:=hr i k h hkx;omega
 have:atB xs a=true:=by unfold atB;rw[hl];simp[hi];simpa[ac,aa hi]using he
 rw[this]at h;cases h
theorem L8(z:Bool)(xs:List (Int×Int))(a:Int)(hn:xs.length≤1000000)(hr:Cj xs):Xq Tryz.prog 85 [sV z 2 (Y1 xs),iV .u64 a] (.val (iV .u64 (Ks xs a))):=by
 refine Xk (rs:=[.tmp 4]) (Xl _) Tryz.func85 rfl Tryz.ntmps85 rfl (by simp) ?_;cases hb:atB xs a
 ·refine Wa ZP fun K J=>?_;simp;apply J;clear J K;refine Wa ZP fun K J=>?_;simp[sc4,Xo,RD,Ya,hn,hr,hb];apply J;clear J K;refine We fun S Y=>?_;refine Wa ZP fun K J=>?_;simp;apply J;clear J K;refine Wt (by simp) ?_;refine Wa ZP fun K J=>?_;simp;apply J;clear J K;refine Wp.ret ?_;simp;exact(Ma hr hb).symm
 ·have hb':=hb;unfold atB at hb';simp only[aj,al]at hb';obtain⟨hl,he⟩:=hb';have hg:xs.getD (N4 xs a) (0,0)=xs[N4 xs a]:=by simp[aa hl]
  rw[hg]at he;refine Wa ZP fun K J=>?_;simp;apply J;clear J K;refine Wa ZP fun K J=>?_;simp[sc4,Xo,RD,Ya,hn,hr,hb];apply J;clear J K;refine We fun S Y=>?_;refine Wa ZP fun K J=>?_;simp;apply J;clear J K;refine Wf (by simp) ?_;refine Wp.skip ?_;apply Y;clear Y S;refine Wa ZP fun K J=>?_;simp[hl,XD,XC];apply J;clear J K;refine Wp.ret ?_;simp;exact(AT hr hl he).symm
end Go.Proofs.YtbkpmfjfpcoehaaGreatDoor
namespace Go.Proofs.YtbkpmfjfpcoehaaGreatDoor
open Go Go.RowKit
set_option maxRecDepth 100000
def Ve(first:List (Int×Int))(fr:List Int)(es:List Ev)(n:Nat):Bool:=
 let e:=es.getD n default
 let v:=fr.getD n 0
 if e.reads=false then decide (v= -1)
 else if v= -1 then decide (e.load=Ks first e.addr)
 else decide (0≤v∧v<es.length∧v≠n)&&((es.getD v.toNat default).writes&&decide ((es.getD v.toNat default).addr=e.addr∧(es.getD v.toNat default).store=e.load))
end Go.Proofs.YtbkpmfjfpcoehaaGreatDoor
namespace Go.Proofs.YtbkpmfjfpcoehaaGreatDoor
open Go Go.RowKit Dw
set_option maxRecDepth 100000
attribute [simp] cA cB cV
def AK:List EV→Option (Prop×Yw)
 |[.one (.c (.sl _z 2 els)), .one (.c (.sc (.int .u64 a)))]=>(match unC els with|some xs=>some (xs.length≤1000000∧Cj xs, .val (iV .u64 (Ks xs a)))|none=>none)
 |_=>none
def sp6:Dw.Spec:=Xo 85 AK sp5
theorem X8:XA Tryz.prog sp6:=by
 refine Xp ⟨⟨_,Tryz.func85,rfl,rfl⟩⟩ (fun vs p r h hp=>?_) X3;unfold AK at h;split at h
 ·split at h
  ·rename_i xs hx;simp only[ab,af]at h;obtain⟨rfl,rfl⟩:=h;rw[G6 hx];exact L8 _ _ _ hp.1 hp.2
  ·cases h
 ·cases h
theorem Mr(c:Cz)(z:Bool)(all:List Ez)(n:Nat)(hn:n<all.length)(hl:c.fr.length=all.length)(_h1:all.length≤1000)(h2:c.f.length≤1000000)(hr:Cj c.f):
  Xq Tryz.prog 50 [.ep 4 [c.cv] 0 0,sV z 14 (XS all),iV .i64 n] (.val (bV (Ve c.f c.fr (all.map Ez.e) n))):=by
 have hge:(all.map Ez.e).getD n default=all[n].e:=by simp[aa hn]
 have hfn:n<c.fr.length:=by omega
 have hgf:c.fr.getD n 0=c.fr[n]:=by simp[aa hfn]
 unfold Cz.cv;refine Xk (rs:=[.tmp 6]) (Xl _) Tryz.func50 rfl Tryz.ntmps50 rfl (by simp) ?_;refine Wa X8 fun K J=>?_;simp;apply J;clear J K;refine We fun S Y=>?_
 ((first|refine Wa X8 fun K J=>?_|refine Wb X8 fun K J=>?_|refine Wc X8 [7] fun K J=>?_|refine Wd X8 [7] fun K J=>?_);simp[hn,hfn,Xe,Xd,Xg,Xf,Ez.cv];apply And.intro;(·kernel_rfl);with_reducible refine J _ ?_;clear J K)
 have hd:Ve c.f c.fr (all.map Ez.e) n=(if XE all[n].e.kind=false then decide (c.fr[n]= -1)else if c.fr[n]= -1 then decide (all[n].e.load=Ks c.f all[n].e.addr)
   else decide (0≤c.fr[n]∧c.fr[n]<all.length∧c.fr[n]≠n)&&(((all.map Ez.e).getD (c.fr[n]).toNat default).writes&&decide (((all.map Ez.e).getD (c.fr[n]).toNat default).addr=all[n].e.addr∧((all.map Ez.e).getD (c.fr[n]).toNat default).store=all[n].e.load))):=by
  unfold Ve;rw[hge,hgf];simp[Ev.reads]
 cases hrd:XE all[n].e.kind
 ·apply Y;clear Y S;refine We fun S Y=>?_;refine Wp.block ?_;refine Wa X8 fun K J=>?_;simp[sp6,sp5,sp4,sp3,sp2,Xo,Jh,X2,unS,Xa,hrd];apply J;clear J K;refine Wt (by simp) ?_;refine Wa X8 fun K J=>?_;simp;apply J;clear J K;refine Wp.ret ?_;simp;rw[hd];simp[hrd]
 by_cases hv:c.fr[n]= -1
 ·have qv:=eq_true hv;apply Y;clear Y S;refine We fun S Y=>?_;refine Wp.block ?_;refine Wa X8 fun K J=>?_;simp[sp6,sp5,sp4,sp3,sp2,Xo,Jh,X2,unS,Xa,hrd];apply J;clear J K;refine Wf (by simp) ?_;refine Wa X8 fun K J=>?_;simp[qv];apply J;clear J K;refine Wt (by simp) ?_;refine Wc X8 [] fun K J=>?_;simp[sp6,Xo,AK,Ya,h2,hr];apply And.intro;(·kernel_rfl);apply J;clear J K;refine Wp.ret ?_;simp;rw[hd];simp[hrd,hv]
 have qv:=bh hv;by_cases h0:c.fr[n]<0
 ·have q0:=eq_true h0;apply Y;clear Y S;refine We fun S Y=>?_;refine Wp.block ?_;refine Wa X8 fun K J=>?_;simp[sp6,sp5,sp4,sp3,sp2,Xo,Jh,X2,unS,Xa,hrd];apply J;clear J K;refine Wf (by simp) ?_;refine Wa X8 fun K J=>?_;simp[qv];apply J;clear J K;refine Wf (by simp) ?_;refine Wa X8 fun K J=>?_;simp[q0];apply J;clear J K;refine Wt (by simp) ?_;refine Wa X8 fun K J=>?_;simp;apply J;clear J K;refine Wp.ret ?_;simp;rw[hd];simp[hrd,hv];omega
 have q0:=bh h0;by_cases hg:(all.length:Int)≤c.fr[n]
 ·have qg:=eq_true hg;apply Y;clear Y S;refine We fun S Y=>?_;refine Wp.block ?_;refine Wa X8 fun K J=>?_;simp[sp6,sp5,sp4,sp3,sp2,Xo,Jh,X2,unS,Xa,hrd];apply J;clear J K;refine Wf (by simp) ?_;refine Wa X8 fun K J=>?_;simp[qv];apply J;clear J K;refine Wf (by simp) ?_;refine Wa X8 fun K J=>?_;simp[Xe,q0,qg];apply J;clear J K;refine Wt (by simp) ?_;refine Wa X8 fun K J=>?_;simp;apply J;clear J K;refine Wp.ret ?_;simp;rw[hd];simp[hrd,hv];omega
 have qg:=bh hg;by_cases he:c.fr[n]=(n:Int)
 ·have qe:=eq_true he;apply Y;clear Y S;refine We fun S Y=>?_;refine Wp.block ?_;refine Wa X8 fun K J=>?_;simp[sp6,sp5,sp4,sp3,sp2,Xo,Jh,X2,unS,Xa,hrd];apply J;clear J K;refine Wf (by simp) ?_;refine Wa X8 fun K J=>?_;simp[qv];apply J;clear J K;refine Wf (by simp) ?_;refine Wa X8 fun K J=>?_;simp[Xe,q0,qg,qe];apply J;clear J K;refine Wt (by simp) ?_;refine Wa X8 fun K J=>?_;simp;apply J;clear J K;refine Wp.ret ?_;simp;rw[hd];simp[hrd,he]
 have qe:=bh he;have k0:0≤c.fr[n]:=by omega
 have k1:c.fr[n]<(all.length:Int):=by omega
 have k2:(c.fr[n]).toNat<all.length:=by omega
 have hgv:(all.map Ez.e).getD (c.fr[n]).toNat default=all[(c.fr[n]).toNat].e:=by simp[aa k2]
 rw[hgv]at hd;cases hwr:Xt all[(c.fr[n]).toNat].e.kind
 ·apply Y;clear Y S;refine We fun S Y=>?_;refine Wp.block ?_;refine Wa X8 fun K J=>?_;simp[sp6,sp5,sp4,sp3,sp2,Xo,Jh,X2,unS,Xa,hrd];apply J;clear J K;refine Wf (by simp) ?_;refine Wa X8 fun K J=>?_;simp[qv];apply J;clear J K;refine Wf (by simp) ?_;refine Wa X8 fun K J=>?_;simp[Xe,q0,qg,qe];apply J;clear J K;refine Wf (by simp) ?_;refine Wp.skip ?_;apply Y;clear Y S;refine Wa X8 fun K J=>?_;simp[Xe,Xd,Ez.cv,k0,k1,k2];apply J;clear J K;refine Wa X8 fun K J=>?_;simp[sp6,sp5,sp4,sp3,sp2,Xo,Vb,X2,unS,Xa,hwr];apply J;clear J K;refine Wp.ret ?_;simp;rw[hd];simp[hrd,hv,Ev.writes,hwr]
 by_cases ha:all[(c.fr[n]).toNat].e.addr=all[n].e.addr
 case neg=>
  have qa:=bh ha;apply Y;clear Y S;refine We fun S Y=>?_;refine Wp.block ?_;refine Wa X8 fun K J=>?_;simp[sp6,sp5,sp4,sp3,sp2,Xo,Jh,X2,unS,Xa,hrd];apply J;clear J K;refine Wf (by simp) ?_;refine Wa X8 fun K J=>?_;simp[qv];apply J;clear J K;refine Wf (by simp) ?_;refine Wa X8 fun K J=>?_;simp[Xe,q0,qg,qe];apply J;clear J K;refine Wf (by simp) ?_;refine Wp.skip ?_;apply Y;clear Y S;refine Wa X8 fun K J=>?_;simp[Xe,Xd,Ez.cv,k0,k1,k2];apply J;clear J K;refine Wa X8 fun K J=>?_;simp[sp6,sp5,sp4,sp3,sp2,Xo,Vb,X2,unS,Xa,hwr,qa];apply J;clear J K;refine Wp.ret ?_;simp;rw[hd];simp[hrd,hv,Ev.writes,hwr,ha]
 have qa:=eq_true ha;apply Y;clear Y S;refine We fun S Y=>?_;refine Wp.block ?_;refine Wa X8 fun K J=>?_;simp[sp6,sp5,sp4,sp3,sp2,Xo,Jh,X2,unS,Xa,hrd];apply J;clear J K;refine Wf (by simp) ?_;refine Wa X8 fun K J=>?_;simp[qv];apply J;clear J K;refine Wf (by simp) ?_;refine Wa X8 fun K J=>?_;simp[Xe,q0,qg,qe];apply J;clear J K;refine Wf (by simp) ?_;refine Wp.skip ?_;apply Y;clear Y S;refine Wa X8 fun K J=>?_;simp[Xe,Xd,Ez.cv,k0,k1,k2];apply J;clear J K;refine Wa X8 fun K J=>?_;simp[sp6,sp5,sp4,sp3,sp2,Xo,Vb,X2,unS,Xa,hwr,qa];apply J;clear J K;refine Wp.ret ?_;simp;rw[hd];simp[hrd,hv,Ev.writes,hwr,ha,k0,k1,he]
def Cu:List (List Cv)→Option (List (Bool×List Ez))
 |[]=>some []
 |[.sl z 14 els]::r=>(match F9 els,Cu r with|some l,some t=>some ((z,l)::t)|_,_=>none)
 |_=>none
theorem Hj(l:List (Bool×List Ez)):Cu (Xw l)=some l:=by
 induction l with
 |nil=>rfl
 |cons a r ih=>simp only[Xw,ft,Cu,X4]at*;rw[ih]
theorem EZ{els:List (List Cv)}{xs:List (Bool×List Ez)}(h:Cu els=some xs):els=Xw xs:=by
 induction els generalizing xs with
 |nil=>injection h with h;subst h;rfl
 |cons a r ih=>
  unfold Cu at h;split at h
  ·rename_i e;cases e
  ·rename_i z els r' e;injection e with e1 e2;subst e1;subst e2;split at h
   ·rename_i l t h1 h2;injection h with h;subst h;rw[ih h2,VC h1];rfl
   ·cases h
  ·cases h
def FF:List EV→Option (Prop×Yw)
 |[.one (.c (.sl _ 1 els))]=>(match Cu els with|some hs=>some (hs.length≤1000∧(Xh hs).length≤100000, .val (sV (decide ((Xh hs).length=0)) 14 (XS (Xh hs))))|none=>none)
 |_=>none
def sv1:Dw.Spec:=Xo 84 FF sp6
theorem M5:XA Tryz.prog sv1:=by
 refine Xp ⟨⟨_,Tryz.func84,rfl,rfl⟩⟩ (fun vs p r h hp=>?_) X8;unfold FF at h;split at h
 ·split at h
  ·rename_i hs hh;simp only[ab,af]at h;obtain⟨rfl,rfl⟩:=h;rw[EZ hh];exact KC (FQ _ _ hp.1 hp.2)
  ·cases h
 ·cases h
theorem AN(c:Cz)(hn:c.hs.length≤1000)(hl:(Xh c.hs).length≤100000):Xq Tryz.prog 49 [.ep 4 [c.cv] 0 0] (.val (sV (decide ((Xh c.hs).length=0)) 14 (XS (Xh c.hs)))):=by
 unfold Cz.cv;refine Xk (rs:=[.tmp 2]) (Xl _) Tryz.func49 rfl Tryz.ntmps49 rfl (by simp) ?_;refine Wa M5 fun K J=>?_;simp;apply J;clear J K;refine Wa M5 fun K J=>?_;simp[sv1,Xo,FF,Hj,hn,hl];apply J;clear J K;refine Wp.ret ?_;simp
def Ku(l:List Bool):List (List Cv):=l.map fun b=>[.sc (.bool b)]
theorem Y2(l:List Bool):(Ku l).length=l.length:=by simp[Ku]
theorem Ye{l:List Bool}{i:Nat}(h:i<(Ku l).length):(Ku l)[i]'h=[.sc (.bool (l[i]'(by simpa[Ku]using h)))]:=by simp[Ku]
theorem ZH{l:List Bool}{i:Nat}(v:Bool):(Ku l).set i [.sc (.bool v)]=Ku (l.set i v):=by simp[Ku]
theorem Pw(n:Nat):List.replicate n [Cv.sc (.bool false)]=Ku (List.replicate n false):=by simp[Ku]
def P5:List Bool→Int→List Int→Bool
 |_,n,[]=>decide (n=0)
 |left,n,k::r=>if k<0∨(left.length:Int)≤k∨left.getD k.toNat false=false then false else P5 (left.set k.toNat false) (n - 1) r
def Y3(l:List Ez):List Bool:=l.map fun x=>x.e.mem
def countB(l:List Bool):Nat:=(l.filter id).length
def JC(all:List Ez)(od:List Int):Bool:=P5 (Y3 all) (countB (Y3 all)) od
def CJ:List EV→Option (Prop×Yw)
 |[v]=>(match X2 v with|some x=>some (True, .val (bV x.e.mem))|none=>none)
 |_=>none
def sv2:Dw.Spec:=Xo 24 CJ sv1
theorem Ym:XA Tryz.prog sv2:=by
 refine Xp ⟨⟨_,Tryz.func24,rfl,rfl⟩⟩ (fun vs p r h hp=>?_) M5;unfold CJ at h;split at h
 ·split at h
  ·rename_i x hx;simp only[ab,af]at h;obtain⟨rfl,rfl⟩:=h;exact Yp (.cons (Kd hx) .nil) (Fx _)
  ·cases h
 ·cases h
def upL(all:List Ez)(i:Nat):List Bool:=Y3 (all.take i)++List.replicate (all.length - i) false
theorem C1(all:List Ez){i:Nat}(h:i≤all.length):(upL all i).length=all.length:=by simp[upL,Y3];omega
theorem MX{all:List Ez}{i:Nat}(h:i<all.length):upL all (i+1)=(upL all i).set i all[i].e.mem:=by
 unfold upL;have hl:(Y3 (all.take i)).length=i:=by simp[Y3];omega
 rw[List.set_append_right _ _ (by omega),hl,fp];have:all.length - i=(all.length - (i+1))+1:=by omega
 rw[this,kb,ja,ax h,Y3,dx,fg];rfl
theorem DV{all:List Ez}{i:Nat}(h:i<all.length)(hm:all[i].e.mem=false):upL all (i+1)=upL all i:=by
 rw[MX h,hm];have hl:(Y3 (all.take i)).length=i:=by simp[Y3];omega
 unfold upL;rw[List.set_append_right _ _ (by omega),hl,fp];have:all.length - i=(all.length - (i+1))+1:=by omega
 rw[this,kb,ja]
theorem Mi{all:List Ez}{i:Nat}(h:i<all.length):countB (Y3 (all.take (i+1)))=countB (Y3 (all.take i))+if all[i].e.mem=true then 1 else 0:=by
 rw[ax h];simp only[Y3,dx,countB,gk,az,ft,List.map_nil];cases all[i].e.mem<;>rfl
theorem count_le(all:List Ez)(i:Nat):countB (Y3 (all.take i))≤i:=by
 have:=gm id (Y3 (all.take i));simp[Y3]at this;unfold countB Y3;simp;omega
theorem BE(c:Cz)(z:Bool)(all:List Ez)(h1:all.length≤10000)(h2:c.od.length≤10000):Xq Tryz.prog 51 [.ep 4 [c.cv] 0 0,sV z 14 (XS all)] (.val (bV (JC all c.od))):=by
 generalize hR:JC all c.od=R;unfold Cz.cv;have hb1:(all.length:Int)≤1000000:=by omega
 have hb2:(all.length:Int)≤281474976710656:=by omega
 refine Xk (rs:=[.tmp 4]) (Xl _) Tryz.func51 rfl Tryz.ntmps51 rfl (by simp) ?_;refine Wa Ym fun K J=>?_;simp;apply J;clear J K;refine Wa Ym fun K J=>?_;simp[Xe,hb1,hb2,Pw];apply J;clear J K;refine Wa Ym fun K J=>?_;simp;apply J;clear J K;refine We fun S Y=>?_;refine Wa Ym fun K J=>?_;simp[Xe];apply J;clear J K;refine Wp.block ?_;refine Wp.loop (fun k s=>∃i:Nat,i+k=all.length∧s=⟨[(0,cA c),(4,bV false),(5, .one (.own 13)),(6,iV .i64 (countB (Y3 (all.take i)))),(14,sV z 14 (XS all)),(15,iV .i64 all.length),(16,iV .i64 i)],[(13, .row false 4 1 (Ku (upL all i)))]⟩)
  all.length (s0:=⟨[(0,cA c),(4,bV false),(5, .one (.own 13)),(6,iV .i64 (0:Nat)),(14,sV z 14 (XS all)),(15,iV .i64 all.length),(16,iV .i64 (0:Nat))],[(13, .row false 4 1 (Ku (List.replicate all.length false)))]⟩) ?_ ⟨0,by simp,by simp[upL,Y3,countB]⟩ fun k s ⟨i,hik,hs⟩=>?_
 ·apply Go1<;>simp
 subst hs;refine Wa Ym fun K J=>?_;simp;apply J;clear J K;refine We fun S Y=>?_;refine Wp.cond rfl (fun hc=>?_) (fun hc=>?_)
 ·have hi:i<all.length:=by simpa using hc
  have hw:IntKind.i64.wrap ((i:Int)+1)=(i+1:Nat):=by rw[wrap_small]<;>omega
  have hcs:=Mi hi;have hcl:=count_le all i;have hlen:=C1 all (fx hi);have hil:i<(upL all i).length:=by omega
  cases hm:K9 all[i].e.kind
  ·have hm':all[i].e.mem=false:=hm;rw[hm']at hcs;have hcs':countB (Y3 (all.take (i+1)))=countB (Y3 (all.take i)):=by simpa using hcs
   refine Wp.skip ?_;apply Y;clear Y S;refine We fun S Y=>?_;refine Wp.block ?_;refine Wa Ym fun K J=>?_;simp[hi,Xe,Xd,Ez.cv];apply J;clear J K;refine Wa Ym fun K J=>?_;simp[sv2,Xo,CJ,X2,unS,Xa,hm',Ev.eta];apply J;clear J K;refine Wf (by simp) ?_;refine Wp.skip ?_;apply Y;clear Y S;refine Wb Ym fun K J=>?_;simp[hw];apply J;clear J K;refine⟨⟨[(0,cA c),(4,bV false),(5, .one (.own 13)),(6,iV .i64 (countB (Y3 (all.take (i+1))))),(14,sV z 14 (XS all)),(15,iV .i64 all.length),(16,iV .i64 (i+1:Nat))],[(13, .row false 4 1 (Ku (upL all (i+1))))]⟩,k - 1,?_,by omega,i+1,by omega,rfl⟩;rw[hcs',DV hi hm'];apply Go1<;>simp
  ·have hm':all[i].e.mem=true:=hm;rw[hm',if_pos rfl]at hcs;have hwc:IntKind.i64.wrap ((countB (Y3 (all.take i)):Int)+1)=(countB (Y3 (all.take (i+1))):Nat):=by rw[wrap_small]<;>omega
   refine Wp.skip ?_;apply Y;clear Y S;refine We fun S Y=>?_;refine Wp.block ?_;refine Wa Ym fun K J=>?_;simp[hi,Xe,Xd,Ez.cv];apply J;clear J K;refine Wa Ym fun K J=>?_;simp[sv2,Xo,CJ,X2,unS,Xa,hm',Ev.eta];apply J;clear J K;refine Wt (by simp) ?_;refine Wa Ym fun K J=>?_;simp[Y2,Ye,ZH,hil];apply J;clear J K;refine Wb Ym fun K J=>?_;simp[hwc];apply J;clear J K;apply Y;clear Y S;refine Wb Ym fun K J=>?_;simp[hw];apply J;clear J K;refine⟨⟨[(0,cA c),(4,bV false),(5, .one (.own 13)),(6,iV .i64 (countB (Y3 (all.take (i+1))))),(14,sV z 14 (XS all)),(15,iV .i64 all.length),(16,iV .i64 (i+1:Nat))],[(13, .row false 4 1 (Ku (upL all (i+1))))]⟩,k - 1,?_,by omega,i+1,by omega,rfl⟩;rw[MX hi,hm'];apply Go1<;>simp
 ·have hi:¬i<all.length:=by simpa using hc
  refine Wp.exit ?_;simp only[XW,XG,if_true];have hup:upL all i=Y3 all:=by unfold upL;rw[bp (by omega),show all.length - i=0 by omega];simp
  rw[hup,bp (show all.length≤i by omega)];clear hc hi hik;have hcl:=count_le all all.length;rw[jj]at hcl;clear Y S;apply Y;clear Y S;refine We fun S Y=>?_;refine Wa Ym fun K J=>?_;simp[Xg];apply J;clear J K;refine Wp.block ?_;refine Wp.loop (fun k s=>∃(j:Nat) (left:List Bool) (n:Int),j+k=c.od.length∧left.length=all.length∧-(j:Int)≤n∧n≤10000∧P5 left n (c.od.drop j)=R∧s=⟨[(4,bV false),(5, .one (.own 13)),(6,iV .i64 n),(32,sV c.z4 1 (Xj c.od)),(33,iV .i64 c.od.length),(34,iV .i64 j)],[(13, .row false 4 1 (Ku left))]⟩)
   c.od.length (s0:=⟨[(4,bV false),(5, .one (.own 13)),(6,iV .i64 (countB (Y3 all))),(32,sV c.z4 1 (Xj c.od)),(33,iV .i64 c.od.length),(34,iV .i64 (0:Nat))],[(13, .row false 4 1 (Ku (Y3 all)))]⟩) ?_ ⟨0,Y3 all,countB (Y3 all),by simp,by simp[Y3],by omega,by omega,by rw[←hR];rfl,rfl⟩ fun k s ⟨j,left,n,hjk,hll,hn0,hn1,hr,hs⟩=>?_
  ·apply Go1<;>simp
  subst hs;refine Wa Ym fun K J=>?_;simp;apply J;clear J K;refine We fun S Y=>?_;refine Wp.cond rfl (fun hc=>?_) (fun hc=>?_)
  ·have hj:j<c.od.length:=by simpa using hc
   have hw:IntKind.i64.wrap ((j:Int)+1)=(j+1:Nat):=by rw[wrap_small]<;>omega
   rw[bj hj]at hr;unfold P5 at hr;by_cases q1:c.od[j]<0
   ·rw[if_pos (.inl q1)]at hr;refine Wp.skip ?_;apply Y;clear Y S;refine We fun S Y=>?_;refine Wp.block ?_;refine Wa Ym fun K J=>?_;simp[hj,Xg,Xf];apply J;clear J K;refine We fun S Y=>?_;refine Wa Ym fun K J=>?_;simp[q1];apply J;clear J K;refine Wt (by simp) ?_;refine Wa Ym fun K J=>?_;simp;apply J;clear J K;refine Wp.ret ?_;simp;exact hr.symm
   by_cases q2:(all.length:Int)≤c.od[j]
   ·rw[if_pos (.inr (.inl (by rw[hll];exact q2)))]at hr;refine Wp.skip ?_;apply Y;clear Y S;refine We fun S Y=>?_;refine Wp.block ?_;refine Wa Ym fun K J=>?_;simp[hj,Xg,Xf];apply J;clear J K;refine We fun S Y=>?_;refine Wa Ym fun K J=>?_;simp[q1,q2,Y2,hll];apply J;clear J K;refine Wt (by simp) ?_;refine Wa Ym fun K J=>?_;simp;apply J;clear J K;refine Wp.ret ?_;simp;exact hr.symm
   have p0:0≤c.od[j]:=by omega
   have p1:c.od[j]<(all.length:Int):=by omega
   have p2:(c.od[j]).toNat<left.length:=by omega
   have p2':(c.od[j]).toNat<all.length:=by omega
   have hg:left.getD (c.od[j]).toNat false=left[(c.od[j]).toNat]:=by simp[aa p2]
   rw[hg]at hr;cases q3:left[(c.od[j]).toNat]
   ·rw[if_pos (.inr (.inr q3))]at hr;refine Wp.skip ?_;apply Y;clear Y S;refine We fun S Y=>?_;refine Wp.block ?_;refine Wa Ym fun K J=>?_;simp[hj,Xg,Xf];apply J;clear J K;refine We fun S Y=>?_;refine Wa Ym fun K J=>?_;simp[q1,q2,Y2,Ye,hll,p0,p1,p2',q3];apply J;clear J K;refine Wt (by simp) ?_;refine Wa Ym fun K J=>?_;simp;apply J;clear J K;refine Wp.ret ?_;simp;exact hr.symm
   ·have hno:¬(c.od[j]<0∨(left.length:Int)≤c.od[j]∨left[(c.od[j]).toNat]=false):=by
     rw[hll,q3];rintro(h|h|h)
     ·exact q1 h
     ·exact q2 h
     ·cases h
    rw[if_neg hno]at hr;have hwn:IntKind.i64.wrap (n - 1)=n - 1:=by
     simp only[IntKind.wrap,IntKind.bits,IntKind.signed];simp;omega
    refine Wp.skip ?_;apply Y;clear Y S;refine We fun S Y=>?_;refine Wp.block ?_;refine Wa Ym fun K J=>?_;simp[hj,Xg,Xf];apply J;clear J K;refine We fun S Y=>?_;refine Wa Ym fun K J=>?_;simp[q1,q2,Y2,Ye,hll,p0,p1,p2',q3];apply J;clear J K;refine Wf (by simp) ?_;refine Wp.skip ?_;apply Y;clear Y S;refine Wa Ym fun K J=>?_;simp[Y2,Ye,ZH,hll,p0,p1,p2',q3];apply J;clear J K;refine Wb Ym fun K J=>?_;simp[hwn];apply J;clear J K;apply Y;clear Y S;refine Wb Ym fun K J=>?_;simp[hw];apply J;clear J K;refine⟨⟨[(4,bV false),(5, .one (.own 13)),(6,iV .i64 (n - 1)),(32,sV c.z4 1 (Xj c.od)),(33,iV .i64 c.od.length),(34,iV .i64 (j+1:Nat))],[(13, .row false 4 1 (Ku (left.set (c.od[j]).toNat false)))]⟩,k - 1,?_,by omega,j+1,left.set (c.od[j]).toNat false,n - 1,by omega,by simpa using hll,by omega,by omega,hr,rfl⟩;apply Go1<;>simp
  ·have hj:¬j<c.od.length:=by simpa using hc
   refine Wp.exit ?_;simp only[XW,XG,if_true];rw[cg (by omega)]at hr;clear Y S;apply Y;clear Y S;refine Wa Ym fun K J=>?_;simp;apply J;clear J K;refine Wp.ret ?_;simp;exact hr
structure Ez.Wf(x:Ez):Prop where
 w1:x.z1=true→x.e.da=[]
 w2:x.z2=true→x.e.dd=[]
 w3:x.z3=true→x.e.dw=[]
 l1:x.e.da.length≤1000000
 l2:x.e.dd.length≤1000000
 l3:x.e.dw.length≤1000000
def AM:List EV→Option (Prop×Yw)
 |[.one (.c (.sl z 1 els))]=>(match unI els with|some xs=>some ((z=true→xs=[])∧xs.length≤1000000, .val (sV z 1 (Xj xs)))|none=>none)
 |_=>none
def sw1:Dw.Spec:=Xo 89 AM sv2
theorem G7:XA Tryz.prog sw1:=by
 refine Xp ⟨⟨_,Tryz.func89,rfl,rfl⟩⟩ (fun vs p r h hp=>?_) Ym;unfold AM at h;split at h
 ·split at h
  ·rename_i xs hx;simp only[ab,af]at h;obtain⟨rfl,rfl⟩:=h;rw[Yz hx];exact Mm _ _ hp.1 hp.2
  ·cases h
 ·cases h
theorem NJ(x:Ez)(hx:x.Wf):Xq Tryz.prog 60 [evV x] (.val (evV x)):=by
 have w1:=hx.w1;have w2:=hx.w2;have w3:=hx.w3;have l1:=hx.l1;have l2:=hx.l2;have l3:=hx.l3;unfold evV;refine Xk (rs:=[.cell 2 38]) (Xl _) Tryz.func60 rfl Tryz.ntmps60 rfl (by simp) ?_;refine We fun S Y=>?_
 first|refine Wa G7 fun K J=>?_|refine Wb G7 fun K J=>?_|refine Wc G7 [] fun K J=>?_|refine Wd G7 [] fun K J=>?_
 simp;apply J;clear J K;apply Y;clear Y S;refine We fun S Y=>?_
 first|refine Wa G7 fun K J=>?_|refine Wb G7 fun K J=>?_|refine Wc G7 [1] fun K J=>?_|refine Wd G7 [1] fun K J=>?_
 simp[sw1,Xo,AM,Xa,l1,l2,l3];refine⟨w1,w2,w3,by kernel_rfl,J _ ?_⟩;clear J K;apply Y;clear Y S;refine Wa G7 fun K J=>?_;simp;apply J;clear J K;refine Wp.ret ?_;simp
def mB:List EV→Option (Prop×Yw)
 |[v]=>(match X2 v with|some x=>some (x.Wf, .val (evV x))|none=>none)
 |_=>none
def sw2:Dw.Spec:=Xo 60 mB sw1
theorem cX:XA Tryz.prog sw2:=by
 refine Xp ⟨⟨_,Tryz.func60,rfl,rfl⟩⟩ (fun vs p r h hp=>?_) G7;unfold mB at h;split at h
 ·split at h
  ·rename_i x hx;simp only[ab,af]at h;obtain⟨rfl,rfl⟩:=h;exact Yp (.cons (Kd hx) .nil) (NJ _ hp)
  ·cases h
 ·cases h
def Cw:List Cv→Option Cz
 |[.sl z1 2 l1, .sl z2 1 l2, .sl z3 1 l3, .sl z4 1 l4]=>(match unC l1,Cu l2,unI l3,unI l4 with
  |some f,some hs,some fr,some od=>some ⟨f,hs,fr,od,z1,z2,z3,z4⟩
  |_,_,_,_=>none)
 |_=>none
theorem E0{l:List Cv}{c:Cz}(h:Cw l=some c):l=c.cv:=by
 unfold Cw at h;split at h
 ·split at h
  ·rename_i f hs fr od h1 h2 h3 h4;injection h with h;subst h;simp only[Cz.cv,←G6 h1,←EZ h2,←Yz h3,←Yz h4]
  ·cases h
 ·cases h
theorem C3(c:Cz):Cw c.cv=some c:=by simp[Cw,Cz.cv,Ya,Hj,Xa]
def AL:List EV→Option (Prop×Yw)
 |[.ep 4 [l] 0 0]=>(match Cw l with|some c=>some (c.hs.length≤1000∧(Xh c.hs).length≤100000, .val (sV (decide ((Xh c.hs).length=0)) 14 (XS (Xh c.hs))))|none=>none)
 |_=>none
def Om:List EV→Option (Prop×Yw)
 |[.ep 4 [l] 0 0, .one (.c (.sl _ 14 els)), .one (.c (.sc (.int .i64 n)))]=>(match Cw l,F9 els with
  |some c,some all=>some (0≤n∧n<all.length∧c.fr.length=all.length∧all.length≤1000∧c.f.length≤1000000∧Cj c.f, .val (bV (Ve c.f c.fr (all.map Ez.e) n.toNat)))
  |_,_=>none)
 |_=>none
def Ql:List EV→Option (Prop×Yw)
 |[.ep 4 [l] 0 0, .one (.c (.sl _ 14 els))]=>(match Cw l,F9 els with
  |some c,some all=>some (all.length≤10000∧c.od.length≤10000, .val (bV (JC all c.od)))
  |_,_=>none)
 |_=>none
def Po:List EV→Option (Prop×Yw)
 |[.one (.c (.sl _ 2 els))]=>(match unC els with|some xs=>some (xs.length≤1000000, .val (bV (KI xs)))|none=>none)
 |_=>none
def jZ:List EV→Option (Prop×Yw)
 |[.one (.c (.sc (.int .i64 h))), .one (.c (.sl _ 14 els))]=>(match F9 els with|some l=>some (l.length≤1000∧∀x∈l,VR x.e, .val (iV .i64 (Mc (VF h l 0 (-1) l))))|none=>none)
 |_=>none
def sy:Dw.Spec:=Xo 49 AL (Xo 50 Om (Xo 51 Ql (Xo 47 Po (Xo 48 jZ sw2))))
theorem YK:XA Tryz.prog sy:=by
 refine Xp ⟨⟨_,Tryz.func49,rfl,rfl⟩⟩ (fun vs p r h hp=>?_) (Xp ⟨⟨_,Tryz.func50,rfl,rfl⟩⟩ (fun vs p r h hp=>?_) (Xp ⟨⟨_,Tryz.func51,rfl,rfl⟩⟩ (fun vs p r h hp=>?_) (Xp ⟨⟨_,Tryz.func47,rfl,rfl⟩⟩ (fun vs p r h hp=>?_) (Xp ⟨⟨_,Tryz.func48,rfl,rfl⟩⟩ (fun vs p r h hp=>?_) cX))))
 ·unfold AL at h;split at h
  ·split at h
   ·rename_i c hc;simp only[ab,af]at h;obtain⟨rfl,rfl⟩:=h;rw[E0 hc];exact AN c hp.1 hp.2
   ·cases h
  ·cases h
 ·unfold Om at h;split at h
  ·split at h
   ·rename_i n _ _ c all hc ha;simp only[ab,af]at h;obtain⟨rfl,rfl⟩:=h;obtain⟨p1,p2,p3,p4,p5,p6⟩:=hp;obtain⟨m,rfl⟩:∃m:Nat,n=m:=⟨n.toNat,by omega⟩;rw[E0 hc,VC ha];exact Mr c _ all m (by omega) p3 p4 p5 p6
   ·cases h
  ·cases h
 ·unfold Ql at h;split at h
  ·split at h
   ·rename_i c all hc ha;simp only[ab,af]at h;obtain⟨rfl,rfl⟩:=h;rw[E0 hc,VC ha];exact BE c _ all hp.1 hp.2
   ·cases h
  ·cases h
 ·unfold Po at h;split at h
  ·split at h
   ·rename_i xs hx;simp only[ab,af]at h;obtain⟨rfl,rfl⟩:=h;rw[G6 hx];exact FU _ _ hp
   ·cases h
  ·cases h
 ·unfold jZ at h;split at h
  ·split at h
   ·rename_i l hl;simp only[ab,af]at h;obtain⟨rfl,rfl⟩:=h;rw[VC hl];exact AY _ _ _ hp.1 hp.2
   ·cases h
  ·cases h
end Go.Proofs.YtbkpmfjfpcoehaaGreatDoor
