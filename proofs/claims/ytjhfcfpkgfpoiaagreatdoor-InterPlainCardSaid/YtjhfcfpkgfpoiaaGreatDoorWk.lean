/- What the program and the document compute, as plain data, and laws of it. No condition. -/
import Derived.BigQuiet
import Derived.BigRegion
import Derived.ChangeAlike
import Derived.Deep.AppendLies
import Derived.Deep.CutBlock
import Derived.Deep.CutRange
import Derived.Deep.DeepCutAuto
import Derived.Deep.QuietTactic
import Derived.Deep.RegionHeld3
import Derived.Deep.RegionLaw
import Derived.IntWalk
import Derived.KernelRfl
import Derived.Laws.OwnMore
import Derived.Lib.Hide
import Derived.Maps.AppendAt
import Derived.RegionTactic
import Derived.StillTailTactics
import Derived.WalkKit
import Derived.WalkLawsBesides
import Derived.WalkSpells
import Derived.Test.YtjhfcfpkgfpoiaaGreatDoorDe
import Derived.Test.YtjhfcfpkgfpoiaaGreatDoorProg
import Derived.Test.YtjhfcfpkgfpoiaaGreatDoorWf
import Derived.Test.YtjhfcfpkgfpoiaaGreatDoorWg
import Derived.Test.YtjhfcfpkgfpoiaaGreatDoorWh
import Derived.Test.YtjhfcfpkgfpoiaaGreatDoorWi
import Derived.Test.YtjhfcfpkgfpoiaaGreatDoorWj
namespace Go.Proofs.YtjhfcfpkgfpoiaaGreatDoor
open Go Go.RowKit Dw
set_option maxRecDepth 100000
attribute [local simp] cA cB cV Xbs Kb Xaf opE KM evO cEV_int cEV_bool cEV_str cEV_nil cEV_fn Dw.look Dw.put Dw.setD Dw.Xhq shI Xho Xhp unE GM X5 Jj Gx Je YJ XA Jf Hn Kq KD JD Kd K3 K0 Xd6 KK GF VD Xbr Xec Vr Gw Xgy Y4 Xf6 Yq Xf3 Xh1 Yw Xfi K9 chunks Dw.unC Xd7 JK YL Vc Vv KW YZ KP Xbw refs YS Vd over Xd5 eqC List.getElem?_cons_zero List.getElem?_cons_succ List.all_cons List.all_nil ty3 D3 ty4 D4 ty9 D9 Xkn Xkv D22 Xkm Xku D23 Xkl Xkt D24 Xib J7 J6 J5 J4 Xk0 ty31 D31 Xkk D38 Xkj Xks D44 Xki Xkr D50 Xia J3 fo57_1 fo57_2 fo57_3 Xkz eq57 Xh9 J2 J1 Xky Xh8 J0 JZ JY Xkx Xh7 JX JW JV JU JT JS JR JQ JP JO KI KH Xkw ty71 Xkq D71 Xkh JN JM bu75 eq75 ty97 D97 HW H3 Xk5 G9 H2 Xkg ty112 HZ D112 HV Xk4 G8 Xk3 G7 H1 Xkf G0 fo231_0 fo231_1 fo231_2 fo231_3 fo231_4 fo231_5 fo231_6 fo231_7 fo231_8 fo231_9 fo231_10 H4 H0 H6 H5 init0 init1 init2 init3 init4 init5 init6 Jz Xb9 Xdm rdL rdG rdO Xbu Zg Ge G4 Dw.del KB XV Xx YP Xex J9 Xe0 Kl erefs_agg_c XJ XT XI XQ inH Gt Gu VT Kt
theorem Xd4{l:List Int}{i:Nat}(h:i<l.length):l.getD i 0=l[i]:=by rw[List.getD_eq_getElem?_getD,List.getElem?_eq_getElem h];rfl
theorem Xu4{l:List Ez}(ok:Xd3 (l.map Ez.e)){i:Nat}(h:i<l.length):l[i].e.da.length≤1000000∧l[i].e.dd.length≤1000000∧l[i].e.dw.length≤1000000:=by
 have:=ok.few i (by simpa using h);rw[Xeo h]at this;obtain⟨h1,h2,h3⟩:=this;exact⟨by omega,by omega,by omega⟩
abbrev hSt(c:Cz)(z:Bool)(l:List Ez)(x y:Ez)(es:List (Nat×EV)):St:=
 ⟨es,[(4, .box (cV c z l)),(9, .box (x.cv.map .c)),(10, .box (y.cv.map .c))]⟩
set_option maxHeartbeats 16000000 in
theorem Xls(c:Cz)(z:Bool)(l:List Ez)(a b:Nat)(r:Int)(h1:1≤r)(h13:r≤13)(hab:a<b)(hb:b<l.length)(ok:Xd3 (l.map Ez.e))(hl:c.fr.length=l.length):
  Xq Tryz.prog 81 [Xaj c z l,iV .i64 a,iV .i64 b,iV .i64 r] (.val (bV (Vw (l.map Ez.e) c.fr a b r))):=by
 have ha:a<l.length:=by omega
 have hn:=ok.n;rw[List.length_map]at hn;have hfa:a<c.fr.length:=by omega
 have hfb:b<c.fr.length:=by omega
 obtain⟨x,hx⟩:∃x,l[a]=x:=⟨_,rfl⟩;obtain⟨y,hy⟩:∃y,l[b]=y:=⟨_,rfl⟩;obtain⟨n1,n2,n3⟩:=Xu4 ok hb;rw[hy]at n1 n2 n3;obtain⟨R,hR⟩:∃R,Vw (l.map Ez.e) c.fr a b r=R:=⟨_,rfl⟩;rw[hR];unfold Vw at hR;have na:((a:Int)<0)=False:=eq_false (by omega);have nb:((b:Int)<0)=False:=eq_false (by omega);unfold Xaj;refine Xi (rs:=[.tmp 8]) (Xk _) Tryz.func81 rfl Tryz.ntmps81 rfl (by simp) ?_;cases hd:Hy (l.map Ez.e) a b
 ·rw[hd]at hR;refine Wa Xh fun K J=>?_;simp;apply J;clear J K;refine We fun S hS=>?_;refine Wa Xh fun K J=>?_;simp[se3,Xn,Xaw,Yd,ha,hb,hd];apply J;clear J K;refine Wt (by simp) ?_;refine Wa Xh fun K J=>?_;simp;apply J;clear J K;refine Wp.ret ?_;simp;simpa using hR
 rw[hd,Bool.true_and]at hR;refine Wa Xh fun K J=>?_;simp;apply J;clear J K;refine We fun S hS=>?_;refine Wa Xh fun K J=>?_;simp[se3,Xn,Xaw,Yd,ha,hb,hd];apply J;clear J K;refine Wf (by simp) ?_;refine Wp.skip ?_;refine hS _ ?_;clear hS S;refine We fun S hS=>?_
 ((first|refine Wa Xh fun K J=>?_|refine Wb Xh fun K J=>?_|refine Wc Xh [9,10] fun K J=>?_|refine Wd Xh [9,10] fun K J=>?_);simp[ha,hb,Xe,Xd,Ez.cv,hx,hy];apply And.intro;(·kernel_rfl);with_reducible refine J _ ?_;clear J K)
 have hwa:IntKind.i64.wrap ((a:Int)+1)=(a+1:Nat):=by rw[wrap_small]<;>omega
 have hr:r=1∨r=2∨r=3∨r=4∨r=5∨r=6∨r=7∨r=8∨r=9∨r=10∨r=11∨r=12∨r=13:=by omega
 rcases hr with rfl|rfl|rfl|rfl|rfl|rfl|rfl|rfl|rfl|rfl|rfl|rfl|rfl
 all_goals simp only[Ye4,Xeo ha,Xeo hb,hx,hy,Xd4 hfa,Xd4 hfb]at hR
 ·cases e1:y.e.writes
  ·refine hS _ ?_;clear hS S;refine We fun S hS=>?_;refine Wa Xh fun K J=>?_;simp;apply J;clear J K;refine Wp.block ?_;refine Wa Xh fun K J=>?_;simp;apply J;clear J K;refine Wt (by simp) ?_;refine Wa Xh fun K J=>?_;simp[se3,se2,se1,Xn,Kw,X8,unS,Xa,Ev.eta',e1];apply J;clear J K;refine Wp.ret ?_;simp;rw[←hR];simp[e1]
  ·obtain⟨v,hv⟩:∃v,decide (x.e.addr=y.e.addr)=v:=⟨_,rfl⟩;refine hS _ ?_;clear hS S;refine We fun S hS=>?_;refine Wa Xh fun K J=>?_;simp;apply J;clear J K;refine Wp.block ?_;refine Wa Xh fun K J=>?_;simp;apply J;clear J K;refine Wt (by simp) ?_;refine Wa Xh fun K J=>?_;simp[se3,se2,se1,Xn,Kw,X8,unS,Xa,Ev.eta',e1,hv];apply J;clear J K;refine Wp.ret ?_;simp;rw[←hR];simp[e1,hv]
 ·refine hS _ ?_;clear hS S;refine We fun S hS=>?_;refine Wa Xh fun K J=>?_;simp;apply J;clear J K;refine Wp.block ?_;refine Wa Xh fun K J=>?_;simp;apply J;clear J K;refine Wf (by simp) ?_;refine Wa Xh fun K J=>?_;simp;apply J;clear J K;refine Wt (by simp) ?_;refine We fun S hS=>?_;refine Wa Xh fun K J=>?_;simp[hwa];apply J;clear J K;refine Wp.block ?_;refine Wp.loop (fun k s=>∃m:Nat,m+k=b∧a<m∧(∀i,a<i→i<m→p2 (l.map Ez.e) x.e.addr i=false)∧s=hSt c z l x y [(1,iV .i64 a),(2,iV .i64 b),(4, .one (.ptr 4 0)),(9, .one (.ptr 9 0)),(10, .one (.ptr 10 0)),(11,iV .i64 m)])
   (b - (a+1)) (s0:=hSt c z l x y [(1,iV .i64 a),(2,iV .i64 b),(4, .one (.ptr 4 0)),(9, .one (.ptr 9 0)),(10, .one (.ptr 10 0)),(11,iV .i64 (a+1:Nat))]) ?_ ⟨a+1,by omega,by omega,fun i h1 h2=>(by omega),rfl⟩ fun k s ⟨m,hmk,ham,hno,hs⟩=>?_
  ·apply Gh.of<;>simp[Ez.cv]
  subst hs;refine We fun S hS=>?_;refine Wa Xh fun K J=>?_;simp;apply J;clear J K;refine Wp.cond rfl (fun hc=>?_) (fun hc=>?_)
  ·have hm:m<b:=by simpa using hc
   have hml:m<l.length:=by omega
   have hwm:IntKind.i64.wrap ((m:Int)+1)=(m+1:Nat):=by rw[wrap_small]<;>omega
   obtain⟨v,hv⟩:∃v,l[m]=v:=⟨_,rfl⟩;have hge:(l.map Ez.e).getD m default=v.e:=by rw[Xeo hml,hv]
   clear hc;by_cases h:v.e.writes=true∧v.e.addr=x.e.addr
   ·obtain⟨h1,h2⟩:=h;have e2:=eq_true h2
    repeat(first|(refine We fun S hS=>?_)|(refine Wp.block ?_)|(refine Wp.skip ?_)|(refine hS _ ?_;clear hS S)|(clear hS S;refine hS _ ?_;clear hS S)|(clear hS S;clear hS S;refine hS _ ?_;clear hS S))
    ((first|refine Wa Xh fun K J=>?_|refine Wb Xh fun K J=>?_|refine Wc Xh [] fun K J=>?_|refine Wd Xh [] fun K J=>?_);simp[se3,se2,se1,Xn,Kw,X8,unS,Xa,Ev.eta',hml,Xe,Xd,Ez.cv,hv,h1,e2];apply And.intro;(·kernel_rfl);with_reducible refine J _ ?_;clear J K)
    refine hS _ ?_;clear hS S;refine Wt (by simp) ?_;refine Wa Xh fun K J=>?_;simp;apply J;clear J K;refine Wp.ret ?_;simp;rw[←hR,Xa4 ham hm (by unfold p2;rw[hge];simp[h1,h2])];rfl
   ·cases h1:v.e.writes
    ·repeat(first|(refine We fun S hS=>?_)|(refine Wp.block ?_)|(refine Wp.skip ?_)|(refine hS _ ?_;clear hS S)|(clear hS S;refine hS _ ?_;clear hS S)|(clear hS S;clear hS S;refine hS _ ?_;clear hS S))
     ((first|refine Wa Xh fun K J=>?_|refine Wb Xh fun K J=>?_|refine Wc Xh [] fun K J=>?_|refine Wd Xh [] fun K J=>?_);simp[se3,se2,se1,Xn,Kw,X8,unS,Xa,Ev.eta',hml,Xe,Xd,Ez.cv,hv,h1];apply And.intro;(·kernel_rfl);with_reducible refine J _ ?_;clear J K)
     refine hS _ ?_;clear hS S;refine Wf (by simp) ?_;refine Wp.skip ?_;refine hS _ ?_;clear hS S;refine Wb Xh fun K J=>?_;simp[hwm];apply J;clear J K;refine⟨hSt c z l x y [(1,iV .i64 a),(2,iV .i64 b),(4, .one (.ptr 4 0)),(9, .one (.ptr 9 0)),(10, .one (.ptr 10 0)),(11,iV .i64 (m+1:Nat))],k - 1,?_,by omega,m+1,by omega,by omega,Y8 hno (by unfold p2;rw[hge];simp[h1]),rfl⟩;apply Gh.of<;>simp[Ez.cv]
    ·have h2:¬v.e.addr=x.e.addr:=fun q=>h ⟨h1,q⟩;have e2:=eq_false h2
     repeat(first|(refine We fun S hS=>?_)|(refine Wp.block ?_)|(refine Wp.skip ?_)|(refine hS _ ?_;clear hS S)|(clear hS S;refine hS _ ?_;clear hS S)|(clear hS S;clear hS S;refine hS _ ?_;clear hS S))
     ((first|refine Wa Xh fun K J=>?_|refine Wb Xh fun K J=>?_|refine Wc Xh [] fun K J=>?_|refine Wd Xh [] fun K J=>?_);simp[se3,se2,se1,Xn,Kw,X8,unS,Xa,Ev.eta',hml,Xe,Xd,Ez.cv,hv,h1,e2];apply And.intro;(·kernel_rfl);with_reducible refine J _ ?_;clear J K)
     refine hS _ ?_;clear hS S;refine Wf (by simp) ?_;refine Wp.skip ?_;refine hS _ ?_;clear hS S;refine Wb Xh fun K J=>?_;simp[hwm];apply J;clear J K;refine⟨hSt c z l x y [(1,iV .i64 a),(2,iV .i64 b),(4, .one (.ptr 4 0)),(9, .one (.ptr 9 0)),(10, .one (.ptr 10 0)),(11,iV .i64 (m+1:Nat))],k - 1,?_,by omega,m+1,by omega,by omega,Y8 hno (by unfold p2;rw[hge];simp[h2]),rfl⟩;apply Gh.of<;>simp[Ez.cv]
  ·have hm:¬m<b:=by simpa using hc
   obtain rfl:m=b:=by omega
   rw[Xod hno]at hR;refine Wp.exit ?_;simp only[XV,Xx,if_true];cases e1:x.e.reads
   ·repeat(first|(refine We fun S hS=>?_)|(refine Wp.block ?_)|(refine Wp.skip ?_)|(refine hS _ ?_;clear hS S)|(clear hS S;refine hS _ ?_;clear hS S)|(clear hS S;clear hS S;refine hS _ ?_;clear hS S))
    ((first|refine Wa Xh fun K J=>?_|refine Wb Xh fun K J=>?_|refine Wc Xh [] fun K J=>?_|refine Wd Xh [] fun K J=>?_);simp[se3,se2,se1,Xn,Kw,X8,unS,Xa,Ev.eta',Ez.cv,e1];apply And.intro;(·kernel_rfl);with_reducible refine J _ ?_;clear J K)
    refine hS _ ?_;clear hS S;refine Wp.ret ?_;simp;rw[←hR];simp[e1]
   cases e2:y.e.reads
   ·repeat(first|(refine We fun S hS=>?_)|(refine Wp.block ?_)|(refine Wp.skip ?_)|(refine hS _ ?_;clear hS S)|(clear hS S;refine hS _ ?_;clear hS S)|(clear hS S;clear hS S;refine hS _ ?_;clear hS S))
    ((first|refine Wa Xh fun K J=>?_|refine Wb Xh fun K J=>?_|refine Wc Xh [] fun K J=>?_|refine Wd Xh [] fun K J=>?_);simp[se3,se2,se1,Xn,Kw,X8,unS,Xa,Ev.eta',Ez.cv,e1,e2];apply And.intro;(·kernel_rfl);with_reducible refine J _ ?_;clear J K)
    refine hS _ ?_;clear hS S;refine Wp.ret ?_;simp;rw[←hR];simp[e1,e2]
   by_cases h3:x.e.addr=y.e.addr
   ·have e3:=eq_true h3
    repeat(first|(refine We fun S hS=>?_)|(refine Wp.block ?_)|(refine Wp.skip ?_)|(refine hS _ ?_;clear hS S)|(clear hS S;refine hS _ ?_;clear hS S)|(clear hS S;clear hS S;refine hS _ ?_;clear hS S))
    ((first|refine Wa Xh fun K J=>?_|refine Wb Xh fun K J=>?_|refine Wc Xh [] fun K J=>?_|refine Wd Xh [] fun K J=>?_);simp[se3,se2,se1,Xn,Kw,X8,unS,Xa,Ev.eta',Ez.cv,e1,e2,e3,hfa,hfb,Xf,Xg];apply And.intro;(·kernel_rfl);with_reducible refine J _ ?_;clear J K)
    refine hS _ ?_;clear hS S;refine Wp.ret ?_;simp;rw[←hR];simp[e1,e2,h3]
   ·have e3:=eq_false h3
    repeat(first|(refine We fun S hS=>?_)|(refine Wp.block ?_)|(refine Wp.skip ?_)|(refine hS _ ?_;clear hS S)|(clear hS S;refine hS _ ?_;clear hS S)|(clear hS S;clear hS S;refine hS _ ?_;clear hS S))
    ((first|refine Wa Xh fun K J=>?_|refine Wb Xh fun K J=>?_|refine Wc Xh [] fun K J=>?_|refine Wd Xh [] fun K J=>?_);simp[se3,se2,se1,Xn,Kw,X8,unS,Xa,Ev.eta',Ez.cv,e1,e2,e3];apply And.intro;(·kernel_rfl);with_reducible refine J _ ?_;clear J K)
    refine hS _ ?_;clear hS S;refine Wp.ret ?_;simp;rw[←hR];simp[e1,e2,h3]
 ·cases e1:y.e.reads<;>by_cases h2:x.e.kind=4<;>by_cases h3:x.e.kind=5
  all_goals
   repeat(first|((first|refine Wa Xh fun K J=>?_|refine Wb Xh fun K J=>?_|refine Wc Xh [] fun K J=>?_|refine Wd Xh [] fun K J=>?_);simp[se3,se2,se1,Xn,Kw,X8,unS,Xa,Ev.eta',hfb,Xf,Xg,e1,h2,h3];first|done|(with_reducible refine J _ ?_;clear J K)|(apply And.intro;(·kernel_rfl);with_reducible refine J _ ?_;clear J K))|refine We fun S hS=>?_|refine Wp.block ?_|refine Wp.skip ?_|(apply Wt;· (simp;done))|(apply Wf;· (simp;done))|(refine hS _ ?_;clear hS S)|(clear hS S;refine hS _ ?_;clear hS S))
   refine Wp.ret ?_;simp;rw[←hR];simp[e1,h2,h3]
 ·repeat(first|((first|refine Wa Xh fun K J=>?_|refine Wb Xh fun K J=>?_|refine Wc Xh [] fun K J=>?_|refine Wd Xh [] fun K J=>?_);simp[hwa];first|done|(with_reducible refine J _ ?_;clear J K)|(apply And.intro;(·kernel_rfl);with_reducible refine J _ ?_;clear J K))|refine We fun S hS=>?_|refine Wp.block ?_|refine Wp.skip ?_|(apply Wt;· (simp;done))|(apply Wf;· (simp;done))|(refine hS _ ?_;clear hS S)|(clear hS S;refine hS _ ?_;clear hS S))
  refine Wp.loop (fun k s=>∃m:Nat,m+k=b∧a<m∧(∀i,a<i→i<m→p4 (l.map Ez.e) x.e.kind y.e.kind i=false)∧s=hSt c z l x y [(1,iV .i64 a),(2,iV .i64 b),(4, .one (.ptr 4 0)),(9, .one (.ptr 9 0)),(10, .one (.ptr 10 0)),(12,iV .i64 m)])
   (b - (a+1)) (s0:=hSt c z l x y [(1,iV .i64 a),(2,iV .i64 b),(4, .one (.ptr 4 0)),(9, .one (.ptr 9 0)),(10, .one (.ptr 10 0)),(12,iV .i64 (a+1:Nat))]) ?_ ⟨a+1,by omega,by omega,fun i h1 h2=>(by omega),rfl⟩ fun k s ⟨m,hmk,ham,hno,hs⟩=>?_
  ·apply Gh.of<;>simp[Ez.cv]
  subst hs;refine We fun S hS=>?_;refine Wa Xh fun K J=>?_;simp;apply J;clear J K;refine Wp.cond rfl (fun hc=>?_) (fun hc=>?_)
  ·have hm:m<b:=by simpa using hc
   have hml:m<l.length:=by omega
   have hwm:IntKind.i64.wrap ((m:Int)+1)=(m+1:Nat):=by rw[wrap_small]<;>omega
   obtain⟨v,hv⟩:∃v,l[m]=v:=⟨_,rfl⟩;have hge:(l.map Ez.e).getD m default=v.e:=by rw[Xeo hml,hv]
   clear hc;obtain⟨s1,s2,s3,s4⟩:=ok.sides m (by simpa using hml);rw[Xeo hml,hv]at s1 s2 s3 s4;by_cases h1:v.e.kind=6
   ·have e1:=eq_true h1;cases e2:Xf8 v.e.pred x.e.kind
    ·refine Wp.skip ?_;refine hS _ ?_;clear hS S;refine We fun S hS=>?_;refine Wp.block ?_;refine Wa Xh fun K J=>?_;simp[hml,Xe,Xd,Ez.cv,hv];apply J;clear J K;refine Wa Xh fun K J=>?_;simp[se3,se2,Xn,Xjs,X8,unS,Xa,Ev.eta',e1,e2,s1,s2];apply J;clear J K;refine Wf (by simp) ?_;refine Wp.skip ?_;refine hS _ ?_;clear hS S;refine Wb Xh fun K J=>?_;simp[hwm];apply J;clear J K;refine⟨hSt c z l x y [(1,iV .i64 a),(2,iV .i64 b),(4, .one (.ptr 4 0)),(9, .one (.ptr 9 0)),(10, .one (.ptr 10 0)),(12,iV .i64 (m+1:Nat))],k - 1,?_,by omega,m+1,by omega,by omega,Y8 hno (by unfold p4;rw[hge];simp[e2]),rfl⟩;apply Gh.of<;>simp[Ez.cv]
    cases e3:Xf8 v.e.succ y.e.kind
    ·refine Wp.skip ?_;refine hS _ ?_;clear hS S;refine We fun S hS=>?_;refine Wp.block ?_;refine Wa Xh fun K J=>?_;simp[hml,Xe,Xd,Ez.cv,hv];apply J;clear J K;refine Wa Xh fun K J=>?_;simp[se3,se2,Xn,Xjs,X8,unS,Xa,Ev.eta',e1,e2,e3,s1,s2,s3,s4];apply J;clear J K;refine Wf (by simp) ?_;refine Wp.skip ?_;refine hS _ ?_;clear hS S;refine Wb Xh fun K J=>?_;simp[hwm];apply J;clear J K;refine⟨hSt c z l x y [(1,iV .i64 a),(2,iV .i64 b),(4, .one (.ptr 4 0)),(9, .one (.ptr 9 0)),(10, .one (.ptr 10 0)),(12,iV .i64 (m+1:Nat))],k - 1,?_,by omega,m+1,by omega,by omega,Y8 hno (by unfold p4;rw[hge];simp[e3]),rfl⟩;apply Gh.of<;>simp[Ez.cv]
    ·refine Wp.skip ?_;refine hS _ ?_;clear hS S;refine We fun S hS=>?_;refine Wp.block ?_;refine Wa Xh fun K J=>?_;simp[hml,Xe,Xd,Ez.cv,hv];apply J;clear J K;refine Wa Xh fun K J=>?_;simp[se3,se2,Xn,Xjs,X8,unS,Xa,Ev.eta',e1,e2,e3,s1,s2,s3,s4];apply J;clear J K;refine Wt (by simp) ?_;refine Wa Xh fun K J=>?_;simp;apply J;clear J K;refine Wp.ret ?_;simp;rw[←hR,Xa4 ham hm (by unfold p4;rw[hge];simp[h1,e2,e3])]
   ·have e1:=eq_false h1;refine Wp.skip ?_;refine hS _ ?_;clear hS S;refine We fun S hS=>?_;refine Wp.block ?_;refine Wa Xh fun K J=>?_;simp[hml,Xe,Xd,Ez.cv,hv];apply J;clear J K;refine Wa Xh fun K J=>?_;simp[e1];apply J;clear J K;refine Wf (by simp) ?_;refine Wp.skip ?_;refine hS _ ?_;clear hS S;refine Wb Xh fun K J=>?_;simp[hwm];apply J;clear J K;refine⟨hSt c z l x y [(1,iV .i64 a),(2,iV .i64 b),(4, .one (.ptr 4 0)),(9, .one (.ptr 9 0)),(10, .one (.ptr 10 0)),(12,iV .i64 (m+1:Nat))],k - 1,?_,by omega,m+1,by omega,by omega,Y8 hno (by unfold p4;rw[hge];simp[h1]),rfl⟩;apply Gh.of<;>simp[Ez.cv]
  ·have hm:¬m<b:=by simpa using hc
   obtain rfl:m=b:=by omega
   rw[Xod hno]at hR;refine Wp.exit ?_;simp only[XV,Xx,if_true];clear hS S;refine hS _ ?_;clear hS S;refine Wa Xh fun K J=>?_;simp;apply J;clear J K;refine Wp.ret ?_;simp;exact hR.symm
 ·repeat(first|((first|refine Wa Xh fun K J=>?_|refine Wb Xh fun K J=>?_|refine Wc Xh [] fun K J=>?_|refine Wd Xh [] fun K J=>?_);simp;first|done|(with_reducible refine J _ ?_;clear J K)|(apply And.intro;(·kernel_rfl);with_reducible refine J _ ?_;clear J K))|refine We fun S hS=>?_|refine Wp.block ?_|refine Wp.skip ?_|(apply Wt;· (simp;done))|(apply Wf;· (simp;done))|(refine hS _ ?_;clear hS S)|(clear hS S;refine hS _ ?_;clear hS S))
  refine Wp.ret ?_;simp;exact hR
 ·repeat(first|((first|refine Wa Xh fun K J=>?_|refine Wb Xh fun K J=>?_|refine Wc Xh [] fun K J=>?_|refine Wd Xh [] fun K J=>?_);simp;first|done|(with_reducible refine J _ ?_;clear J K)|(apply And.intro;(·kernel_rfl);with_reducible refine J _ ?_;clear J K))|refine We fun S hS=>?_|refine Wp.block ?_|refine Wp.skip ?_|(apply Wt;· (simp;done))|(apply Wf;· (simp;done))|(refine hS _ ?_;clear hS S)|(clear hS S;refine hS _ ?_;clear hS S))
  refine Wp.ret ?_;simp;exact hR
 ·cases e1:x.e.aq<;>cases e2:x.e.rl<;>cases e3:y.e.aq
  all_goals
   repeat(first|((first|refine Wa Xh fun K J=>?_|refine Wb Xh fun K J=>?_|refine Wc Xh [] fun K J=>?_|refine Wd Xh [] fun K J=>?_);simp;first|done|(with_reducible refine J _ ?_;clear J K)|(apply And.intro;(·kernel_rfl);with_reducible refine J _ ?_;clear J K))|refine We fun S hS=>?_|refine Wp.block ?_|refine Wp.skip ?_|(apply Wt;· (simp;done))|(apply Wf;· (simp;done))|(refine hS _ ?_;clear hS S)|(clear hS S;refine hS _ ?_;clear hS S))
   refine Wp.ret ?_;simp;rw[←hR];simp[e1,e2,e3]
 ·by_cases h1:y.e.kind=4
  ·repeat(first|((first|refine Wa Xh fun K J=>?_|refine Wb Xh fun K J=>?_|refine Wc Xh [] fun K J=>?_|refine Wd Xh [] fun K J=>?_);simp[h1];first|done|(with_reducible refine J _ ?_;clear J K)|(apply And.intro;(·kernel_rfl);with_reducible refine J _ ?_;clear J K))|refine We fun S hS=>?_|refine Wp.block ?_|refine Wp.skip ?_|(apply Wt;· (simp;done))|(apply Wf;· (simp;done))|(refine hS _ ?_;clear hS S)|(clear hS S;refine hS _ ?_;clear hS S))
   refine Wp.ret ?_;simp;rw[←hR];simp[h1]
  ·repeat(first|((first|refine Wa Xh fun K J=>?_|refine Wb Xh fun K J=>?_|refine Wc Xh [] fun K J=>?_|refine Wd Xh [] fun K J=>?_);simp[h1];first|done|(with_reducible refine J _ ?_;clear J K)|(apply And.intro;(·kernel_rfl);with_reducible refine J _ ?_;clear J K))|refine We fun S hS=>?_|refine Wp.block ?_|refine Wp.skip ?_|(apply Wt;· (simp;done))|(apply Wf;· (simp;done))|(refine hS _ ?_;clear hS S)|(clear hS S;refine hS _ ?_;clear hS S))
   refine Wp.ret ?_;simp;rw[←hR];simp[h1]
 ·repeat(first|((first|refine Wa Xh fun K J=>?_|refine Wb Xh fun K J=>?_|refine Wc Xh [] fun K J=>?_|refine Wd Xh [] fun K J=>?_);simp[se3,se2,Xn,Xwf,Xa,n1];first|done|(with_reducible refine J _ ?_;clear J K)|(apply And.intro;(·kernel_rfl);with_reducible refine J _ ?_;clear J K))|refine We fun S hS=>?_|refine Wp.block ?_|refine Wp.skip ?_|(apply Wt;· (simp;done))|(apply Wf;· (simp;done))|(refine hS _ ?_;clear hS S)|(clear hS S;refine hS _ ?_;clear hS S))
  refine Wp.ret ?_;simp;exact hR
 ·repeat(first|((first|refine Wa Xh fun K J=>?_|refine Wb Xh fun K J=>?_|refine Wc Xh [] fun K J=>?_|refine Wd Xh [] fun K J=>?_);simp[se3,se2,Xn,Xwf,Xa,n2];first|done|(with_reducible refine J _ ?_;clear J K)|(apply And.intro;(·kernel_rfl);with_reducible refine J _ ?_;clear J K))|refine We fun S hS=>?_|refine Wp.block ?_|refine Wp.skip ?_|(apply Wt;· (simp;done))|(apply Wf;· (simp;done))|(refine hS _ ?_;clear hS S)|(clear hS S;refine hS _ ?_;clear hS S))
  refine Wp.ret ?_;simp;exact hR
 ·cases e1:y.e.writes
  ·repeat(first|((first|refine Wa Xh fun K J=>?_|refine Wb Xh fun K J=>?_|refine Wc Xh [] fun K J=>?_|refine Wd Xh [] fun K J=>?_);simp[se3,se2,se1,Xn,Kw,X8,unS,Xa,Ev.eta',e1];first|done|(with_reducible refine J _ ?_;clear J K)|(apply And.intro;(·kernel_rfl);with_reducible refine J _ ?_;clear J K))|refine We fun S hS=>?_|refine Wp.block ?_|refine Wp.skip ?_|(apply Wt;· (simp;done))|(apply Wf;· (simp;done))|(refine hS _ ?_;clear hS S)|(clear hS S;refine hS _ ?_;clear hS S))
   refine Wp.ret ?_;simp;rw[←hR];simp[e1]
  ·repeat(first|((first|refine Wa Xh fun K J=>?_|refine Wb Xh fun K J=>?_|refine Wc Xh [] fun K J=>?_|refine Wd Xh [] fun K J=>?_);simp[se3,se2,se1,Xn,Kw,Xwf,X8,unS,Xa,Ev.eta',e1,n3];first|done|(with_reducible refine J _ ?_;clear J K)|(apply And.intro;(·kernel_rfl);with_reducible refine J _ ?_;clear J K))|refine We fun S hS=>?_|refine Wp.block ?_|refine Wp.skip ?_|(apply Wt;· (simp;done))|(apply Wf;· (simp;done))|(refine hS _ ?_;clear hS S)|(clear hS S;refine hS _ ?_;clear hS S))
   refine Wp.ret ?_;simp;rw[←hR];simp[e1]
 ·repeat(first|((first|refine Wa Xh fun K J=>?_|refine Wb Xh fun K J=>?_|refine Wc Xh [] fun K J=>?_|refine Wd Xh [] fun K J=>?_);simp[hwa];first|done|(with_reducible refine J _ ?_;clear J K)|(apply And.intro;(·kernel_rfl);with_reducible refine J _ ?_;clear J K))|refine We fun S hS=>?_|refine Wp.block ?_|refine Wp.skip ?_|(apply Wt;· (simp;done))|(apply Wf;· (simp;done))|(refine hS _ ?_;clear hS S)|(clear hS S;refine hS _ ?_;clear hS S))
  refine Wp.loop (fun k s=>∃m:Nat,m+k=b∧a<m∧(∀i,a<i→i<m→p12 (l.map Ez.e) y.e.kind c.fr[b] x.e.pos i=false)∧s=hSt c z l x y [(1,iV .i64 a),(2,iV .i64 b),(4, .one (.ptr 4 0)),(9, .one (.ptr 9 0)),(10, .one (.ptr 10 0)),(14,iV .i64 m)])
   (b - (a+1)) (s0:=hSt c z l x y [(1,iV .i64 a),(2,iV .i64 b),(4, .one (.ptr 4 0)),(9, .one (.ptr 9 0)),(10, .one (.ptr 10 0)),(14,iV .i64 (a+1:Nat))]) ?_ ⟨a+1,by omega,by omega,fun i h1 h2=>(by omega),rfl⟩ fun k s ⟨m,hmk,ham,hno,hs⟩=>?_
  ·apply Gh.of<;>simp[Ez.cv]
  subst hs;refine We fun S hS=>?_;refine Wa Xh fun K J=>?_;simp;apply J;clear J K;refine Wp.cond rfl (fun hc=>?_) (fun hc=>?_)
  ·have hm:m<b:=by simpa using hc
   have hml:m<l.length:=by omega
   have hwm:IntKind.i64.wrap ((m:Int)+1)=(m+1:Nat):=by rw[wrap_small]<;>omega
   obtain⟨v,hv⟩:∃v,l[m]=v:=⟨_,rfl⟩;have hge:(l.map Ez.e).getD m default=v.e:=by rw[Xeo hml,hv]
   clear hc;obtain⟨m1,m2,m3⟩:=Xu4 ok hml;rw[hv]at m1 m2 m3;cases e1:y.e.reads
   ·refine Wp.skip ?_;refine hS _ ?_;clear hS S;refine We fun S hS=>?_;refine Wp.block ?_;refine Wa Xh fun K J=>?_;simp[hml,Xe,Xd,Ez.cv,hv];apply J;clear J K;refine Wa Xh fun K J=>?_;simp[se3,se2,se1,Xn,Kw,X8,unS,Xa,Ev.eta',e1];apply J;clear J K;refine Wf (by simp) ?_;refine Wp.skip ?_;refine hS _ ?_;clear hS S;refine Wb Xh fun K J=>?_;simp[hwm];apply J;clear J K;refine⟨hSt c z l x y [(1,iV .i64 a),(2,iV .i64 b),(4, .one (.ptr 4 0)),(9, .one (.ptr 9 0)),(10, .one (.ptr 10 0)),(14,iV .i64 (m+1:Nat))],k - 1,?_,by omega,m+1,by omega,by omega,Y8 hno (by unfold p12;rw[hge];simp[show XD y.e.kind=false from e1]),rfl⟩;apply Gh.of<;>simp[Ez.cv]
   by_cases h2:c.fr[b]=(m:Int)
   case neg=>
    have e2:=eq_false h2;refine Wp.skip ?_;refine hS _ ?_;clear hS S;refine We fun S hS=>?_;refine Wp.block ?_;refine Wa Xh fun K J=>?_;simp[hml,Xe,Xd,Ez.cv,hv];apply J;clear J K;refine Wa Xh fun K J=>?_;simp[se3,se2,se1,Xn,Kw,X8,unS,Xa,Ev.eta',Xf,Xg,hfb,e1,e2];apply J;clear J K;refine Wf (by simp) ?_;refine Wp.skip ?_;refine hS _ ?_;clear hS S;refine Wb Xh fun K J=>?_;simp[hwm];apply J;clear J K;refine⟨hSt c z l x y [(1,iV .i64 a),(2,iV .i64 b),(4, .one (.ptr 4 0)),(9, .one (.ptr 9 0)),(10, .one (.ptr 10 0)),(14,iV .i64 (m+1:Nat))],k - 1,?_,by omega,m+1,by omega,by omega,Y8 hno (by unfold p12;rw[hge];simp[h2]),rfl⟩;apply Gh.of<;>simp[Ez.cv]
   have e2:=eq_true h2;cases e3:v.e.writes
   ·refine Wp.skip ?_;refine hS _ ?_;clear hS S;refine We fun S hS=>?_;refine Wp.block ?_;refine Wa Xh fun K J=>?_;simp[hml,Xe,Xd,Ez.cv,hv];apply J;clear J K;refine Wa Xh fun K J=>?_;simp[se3,se2,se1,Xn,Kw,X8,unS,Xa,Ev.eta',Xf,Xg,hfb,e1,e2,e3];apply J;clear J K;refine Wf (by simp) ?_;refine Wp.skip ?_;refine hS _ ?_;clear hS S;refine Wb Xh fun K J=>?_;simp[hwm];apply J;clear J K;refine⟨hSt c z l x y [(1,iV .i64 a),(2,iV .i64 b),(4, .one (.ptr 4 0)),(9, .one (.ptr 9 0)),(10, .one (.ptr 10 0)),(14,iV .i64 (m+1:Nat))],k - 1,?_,by omega,m+1,by omega,by omega,Y8 hno (by unfold p12;rw[hge];simp[e3]),rfl⟩;apply Gh.of<;>simp[Ez.cv]
   cases e4:inB v.e.da x.e.pos
   ·cases e5:inB v.e.dd x.e.pos
    ·refine Wp.skip ?_;refine hS _ ?_;clear hS S;refine We fun S hS=>?_;refine Wp.block ?_;refine Wa Xh fun K J=>?_;simp[hml,Xe,Xd,Ez.cv,hv];apply J;clear J K;refine Wa Xh fun K J=>?_;simp[se3,se2,se1,Xn,Kw,Xwf,X8,unS,Xa,Ev.eta',Xf,Xg,hfb,m1,m2,e1,e2,e3,e4,e5];apply J;clear J K;refine Wf (by simp) ?_;refine Wp.skip ?_;refine hS _ ?_;clear hS S;refine Wb Xh fun K J=>?_;simp[hwm];apply J;clear J K;refine⟨hSt c z l x y [(1,iV .i64 a),(2,iV .i64 b),(4, .one (.ptr 4 0)),(9, .one (.ptr 9 0)),(10, .one (.ptr 10 0)),(14,iV .i64 (m+1:Nat))],k - 1,?_,by omega,m+1,by omega,by omega,Y8 hno (by unfold p12;rw[hge];simp[e4,e5]),rfl⟩;apply Gh.of<;>simp[Ez.cv]
    ·refine Wp.skip ?_;refine hS _ ?_;clear hS S;refine We fun S hS=>?_;refine Wp.block ?_;refine Wa Xh fun K J=>?_;simp[hml,Xe,Xd,Ez.cv,hv];apply J;clear J K;refine Wa Xh fun K J=>?_;simp[se3,se2,se1,Xn,Kw,Xwf,X8,unS,Xa,Ev.eta',Xf,Xg,hfb,m1,m2,e1,e2,e3,e4,e5];apply J;clear J K;refine Wt (by simp) ?_;refine Wa Xh fun K J=>?_;simp;apply J;clear J K;refine Wp.ret ?_;simp;rw[←hR,Xa4 ham hm (by unfold p12;rw[hge];simp[show XD y.e.kind=true from e1,h2,e3,e5])]
   ·refine Wp.skip ?_;refine hS _ ?_;clear hS S;refine We fun S hS=>?_;refine Wp.block ?_;refine Wa Xh fun K J=>?_;simp[hml,Xe,Xd,Ez.cv,hv];apply J;clear J K;refine Wa Xh fun K J=>?_;simp[se3,se2,se1,Xn,Kw,Xwf,X8,unS,Xa,Ev.eta',Xf,Xg,hfb,m1,e1,e2,e3,e4];apply J;clear J K;refine Wt (by simp) ?_;refine Wa Xh fun K J=>?_;simp;apply J;clear J K;refine Wp.ret ?_;simp;rw[←hR,Xa4 ham hm (by unfold p12;rw[hge];simp[show XD y.e.kind=true from e1,h2,e3,e4])]
  ·have hm:¬m<b:=by simpa using hc
   obtain rfl:m=b:=by omega
   rw[Xod hno]at hR;refine Wp.exit ?_;simp only[XV,Xx,if_true];clear hS S;refine hS _ ?_;clear hS S;refine Wa Xh fun K J=>?_;simp;apply J;clear J K;refine Wp.ret ?_;simp;exact hR.symm
 ·repeat(first|((first|refine Wa Xh fun K J=>?_|refine Wb Xh fun K J=>?_|refine Wc Xh [] fun K J=>?_|refine Wd Xh [] fun K J=>?_);simp[hwa];first|done|(with_reducible refine J _ ?_;clear J K)|(apply And.intro;(·kernel_rfl);with_reducible refine J _ ?_;clear J K))|refine We fun S hS=>?_|refine Wp.block ?_|refine Wp.skip ?_|(apply Wt;· (simp;done))|(apply Wf;· (simp;done))|(refine hS _ ?_;clear hS S)|(clear hS S;refine hS _ ?_;clear hS S))
  refine Wp.loop (fun k s=>∃m:Nat,m+k=b∧a<m∧(∀i,a<i→i<m→p13 (l.map Ez.e) y.e.kind x.e.pos i=false)∧s=hSt c z l x y [(1,iV .i64 a),(2,iV .i64 b),(4, .one (.ptr 4 0)),(9, .one (.ptr 9 0)),(10, .one (.ptr 10 0)),(16,iV .i64 m)])
   (b - (a+1)) (s0:=hSt c z l x y [(1,iV .i64 a),(2,iV .i64 b),(4, .one (.ptr 4 0)),(9, .one (.ptr 9 0)),(10, .one (.ptr 10 0)),(16,iV .i64 (a+1:Nat))]) ?_ ⟨a+1,by omega,by omega,fun i h1 h2=>(by omega),rfl⟩ fun k s ⟨m,hmk,ham,hno,hs⟩=>?_
  ·apply Gh.of<;>simp[Ez.cv]
  subst hs;refine We fun S hS=>?_;refine Wa Xh fun K J=>?_;simp;apply J;clear J K;refine Wp.cond rfl (fun hc=>?_) (fun hc=>?_)
  ·have hm:m<b:=by simpa using hc
   have hml:m<l.length:=by omega
   have hwm:IntKind.i64.wrap ((m:Int)+1)=(m+1:Nat):=by rw[wrap_small]<;>omega
   obtain⟨v,hv⟩:∃v,l[m]=v:=⟨_,rfl⟩;have hge:(l.map Ez.e).getD m default=v.e:=by rw[Xeo hml,hv]
   clear hc;obtain⟨m1,m2,m3⟩:=Xu4 ok hml;rw[hv]at m1 m2 m3;cases e1:y.e.writes
   ·refine Wp.skip ?_;refine hS _ ?_;clear hS S;refine We fun S hS=>?_;refine Wp.block ?_;refine Wa Xh fun K J=>?_;simp[hml,Xe,Xd,Ez.cv,hv];apply J;clear J K;refine Wa Xh fun K J=>?_;simp[se3,se2,se1,Xn,Kw,X8,unS,Xa,Ev.eta',e1];apply J;clear J K;refine Wf (by simp) ?_;refine Wp.skip ?_;refine hS _ ?_;clear hS S;refine Wb Xh fun K J=>?_;simp[hwm];apply J;clear J K;refine⟨hSt c z l x y [(1,iV .i64 a),(2,iV .i64 b),(4, .one (.ptr 4 0)),(9, .one (.ptr 9 0)),(10, .one (.ptr 10 0)),(16,iV .i64 (m+1:Nat))],k - 1,?_,by omega,m+1,by omega,by omega,Y8 hno (by unfold p13;rw[hge];simp[show Xu y.e.kind=false from e1]),rfl⟩;apply Gh.of<;>simp[Ez.cv]
   cases e3:v.e.mem
   ·refine Wp.skip ?_;refine hS _ ?_;clear hS S;refine We fun S hS=>?_;refine Wp.block ?_;refine Wa Xh fun K J=>?_;simp[hml,Xe,Xd,Ez.cv,hv];apply J;clear J K;refine Wa Xh fun K J=>?_;simp[se3,se2,se1,Xn,Kw,X8,unS,Xa,Ev.eta',e1,e3];apply J;clear J K;refine Wf (by simp) ?_;refine Wp.skip ?_;refine hS _ ?_;clear hS S;refine Wb Xh fun K J=>?_;simp[hwm];apply J;clear J K;refine⟨hSt c z l x y [(1,iV .i64 a),(2,iV .i64 b),(4, .one (.ptr 4 0)),(9, .one (.ptr 9 0)),(10, .one (.ptr 10 0)),(16,iV .i64 (m+1:Nat))],k - 1,?_,by omega,m+1,by omega,by omega,Y8 hno (by unfold p13;rw[hge];simp[e3]),rfl⟩;apply Gh.of<;>simp[Ez.cv]
   cases e4:inB v.e.da x.e.pos
   ·refine Wp.skip ?_;refine hS _ ?_;clear hS S;refine We fun S hS=>?_;refine Wp.block ?_;refine Wa Xh fun K J=>?_;simp[hml,Xe,Xd,Ez.cv,hv];apply J;clear J K;refine Wa Xh fun K J=>?_;simp[se3,se2,se1,Xn,Kw,Xwf,X8,unS,Xa,Ev.eta',m1,e1,e3,e4];apply J;clear J K;refine Wf (by simp) ?_;refine Wp.skip ?_;refine hS _ ?_;clear hS S;refine Wb Xh fun K J=>?_;simp[hwm];apply J;clear J K;refine⟨hSt c z l x y [(1,iV .i64 a),(2,iV .i64 b),(4, .one (.ptr 4 0)),(9, .one (.ptr 9 0)),(10, .one (.ptr 10 0)),(16,iV .i64 (m+1:Nat))],k - 1,?_,by omega,m+1,by omega,by omega,Y8 hno (by unfold p13;rw[hge];simp[e4]),rfl⟩;apply Gh.of<;>simp[Ez.cv]
   ·refine Wp.skip ?_;refine hS _ ?_;clear hS S;refine We fun S hS=>?_;refine Wp.block ?_;refine Wa Xh fun K J=>?_;simp[hml,Xe,Xd,Ez.cv,hv];apply J;clear J K;refine Wa Xh fun K J=>?_;simp[se3,se2,se1,Xn,Kw,Xwf,X8,unS,Xa,Ev.eta',m1,e1,e3,e4];apply J;clear J K;refine Wt (by simp) ?_;refine Wa Xh fun K J=>?_;simp;apply J;clear J K;refine Wp.ret ?_;simp;rw[←hR,Xa4 ham hm (by unfold p13;rw[hge];simp[show Xu y.e.kind=true from e1,e3,e4])]
  ·have hm:¬m<b:=by simpa using hc
   obtain rfl:m=b:=by omega
   rw[Xod hno]at hR;refine Wp.exit ?_;simp only[XV,Xx,if_true];clear hS S;refine hS _ ?_;clear hS S;refine Wa Xh fun K J=>?_;simp;apply J;clear J K;refine Wp.ret ?_;simp;exact hR.symm
def GI:List EV→Option (Prop×YX)
 |[v]=>(match X8 v with|some x=>some (GL x.e, .val (iV .i64 (Yt (Xl x.e))))|none=>none)
 |_=>none
def sb3:Dw.Spec:=Xn 57 GI Xao
theorem X2:XF Tryz.prog sb3:=by
 refine Xp ⟨⟨_,Tryz.func57,rfl,rfl⟩⟩ (fun vs p r h hp=>?_) Xb;unfold GI at h;split at h
 ·split at h
  ·rename_i x hx;simp only[Option.some.injEq,Prod.mk.injEq]at h;obtain⟨rfl,rfl⟩:=h;exact Yy (.cons (Kx hx) .nil) (Xlu _ hp)
  ·cases h
 ·cases h
set_option maxHeartbeats 16000000 in
theorem Xst(h:Int)(z:Bool)(l:List Ez)(hn:l.length≤1000)(hf:∀x∈l,GL x.e):Xq Tryz.prog 27 [iV .i64 h,sV z 14 (Yc l)] (.val (iV .i64 (Xqo (Xkp h (l.map Ez.e))))):=by
 refine Xi (rs:=[.tmp 4]) (Xk _) Tryz.func27 rfl Tryz.ntmps27 rfl (by simp) ?_;refine Wa X2 fun K J=>?_;simp;apply J;clear J K;refine We fun S hS=>?_;refine Wa X2 fun K J=>?_;simp;apply J;clear J K;refine Wp.block ?_;refine Wp.loop (fun k s=>∃i:Nat,i+k=l.length∧(∀j,j<i→rowAt h (l.map Ez.e) j=true)∧s=⟨[(0,iV .i64 h),(1,sV z 14 (Yc l)),(5,iV .i64 i)],[]⟩)
  l.length (s0:=⟨[(0,iV .i64 h),(1,sV z 14 (Yc l)),(5,iV .i64 (0:Nat))],[]⟩) ?_ ⟨0,by simp,by simp,rfl⟩ fun k s ⟨i,hik,hr,hs⟩=>?_
 ·apply Gh.of<;>simp
 subst hs;by_cases hi:i<l.length
 ·have hw:IntKind.i64.wrap ((i:Int)+1)=(i+1:Nat):=by rw[wrap_small]<;>omega
  have hfe:=hf l[i] (List.getElem_mem hi);obtain⟨x,hx⟩:∃x,l[i]=x:=⟨_,rfl⟩;have hgx:(l.map Ez.e).getD i default=x.e:=by rw[Xeo hi,hx]
  rw[hx]at hfe;have no:rowAt h (l.map Ez.e) i=false→Xkp h (l.map Ez.e)=false:=fun q=>all_false (by simpa using hi) q;have hrow:rowAt h (l.map Ez.e) i=((Xl x.e&&(decide (x.e.hart=h)&&decide (x.e.pos=i)))&&(decide (x.e.kind≠4)||Xro (l.map Ez.e) i)):=by unfold rowAt;rw[hgx]
  refine We fun S hS=>?_;refine Wa X2 fun K J=>?_;simp[hi,Xe];apply J;clear J K;refine Wt (by simp) ?_;refine Wp.skip ?_;refine hS _ ?_;clear hS S;refine We fun S hS=>?_;refine Wp.block ?_;refine Wa X2 fun K J=>?_;simp[hi,Xe,Xd,Ez.cv,hx];apply J;clear J K;refine We fun S hS=>?_;refine We fun S hS=>?_;cases he:Xl x.e
  ·refine Wb X2 fun K J=>?_;simp[sb3,Xn,GI,X8,unS,Xa,Ev.eta',hfe,he,Yt];apply J;clear J K;refine hS _ ?_;clear hS S;refine Wt (by simp) ?_;refine Wa X2 fun K J=>?_;simp;apply J;clear J K;refine Wp.ret ?_;simp;rw[no (by rw[hrow,he];rfl)];rfl
  by_cases hh:x.e.hart=h
  case neg=>
   have qhh:=eq_false hh;refine Wb X2 fun K J=>?_;simp[sb3,Xn,GI,X8,unS,Xa,Ev.eta',hfe,he,Yt,qhh];apply J;clear J K;refine hS _ ?_;clear hS S;refine Wt (by simp) ?_;refine Wa X2 fun K J=>?_;simp;apply J;clear J K;refine Wp.ret ?_;simp;rw[no (by rw[hrow,decide_eq_false hh];simp)];rfl
  have qhh:=eq_true hh;by_cases hp:x.e.pos=(i:Int)
  case neg=>
   have qhp:=eq_false hp;refine Wb X2 fun K J=>?_;simp[sb3,Xn,GI,X8,unS,Xa,Ev.eta',hfe,he,Yt,qhh,qhp];apply J;clear J K;refine hS _ ?_;clear hS S;refine Wt (by simp) ?_;refine Wa X2 fun K J=>?_;simp;apply J;clear J K;refine Wp.ret ?_;simp;rw[no (by rw[hrow,decide_eq_false hp];simp)];rfl
  have qhp:=eq_true hp;rw[he,decide_eq_true hh,decide_eq_true hp]at hrow;by_cases k4:x.e.kind=4
  case neg=>
   have qk4:=eq_false k4;have hok:rowAt h (l.map Ez.e) i=true:=by rw[hrow,decide_eq_true k4];rfl
   refine Wb X2 fun K J=>?_;simp[sb3,Xn,GI,X8,unS,Xa,Ev.eta',hfe,he,Yt,qhh,qhp];apply J;clear J K;refine hS _ ?_;clear hS S;refine Wf (by simp) ?_;refine Wp.skip ?_;refine hS _ ?_;clear hS S;refine We fun S hS=>?_;refine Wa X2 fun K J=>?_;simp[qk4];apply J;clear J K;refine Wt (by simp) ?_;refine Wp.exit ?_;simp only[XV,Xx,if_true];clear hS S;refine hS _ ?_;clear hS S;refine Wb X2 fun K J=>?_;simp[hw];apply J;clear J K;refine⟨⟨[(0,iV .i64 h),(1,sV z 14 (Yc l)),(5,iV .i64 (i+1:Nat))],[]⟩,k - 1,?_,by omega,i+1,by omega,Y7 hr hok,rfl⟩;apply Gh.of<;>simp
  have qk4:=eq_true k4;have hsc:rowAt h (l.map Ez.e) i=Xro (l.map Ez.e) i:=by rw[hrow,decide_eq_false (fun q=>q k4)];rfl
  obtain⟨p0,p1⟩:=HS he k4;obtain⟨j,hj⟩:∃j:Nat,x.e.pair=j:=⟨x.e.pair.toNat,by omega⟩;have hji:j<i:=by omega
  have hjl:j<l.length:=by omega
  obtain⟨y,hy⟩:∃y,l[j]=y:=⟨_,rfl⟩;have hgy:(l.map Ez.e).getD j default=y.e:=by rw[Xeo hjl,hy]
  have hwj:IntKind.i64.wrap ((j:Int)+1)=(j+1:Nat):=by rw[wrap_small]<;>omega
  by_cases y3:y.e.kind=3
  case neg=>
   have q3:=eq_false y3;refine Wb X2 fun K J=>?_;simp[sb3,Xn,GI,X8,unS,Xa,Ev.eta',hfe,he,Yt,qhh,qhp];apply J;clear J K;refine hS _ ?_;clear hS S;refine Wf (by simp) ?_;refine Wp.skip ?_;refine hS _ ?_;clear hS S;refine We fun S hS=>?_;refine Wa X2 fun K J=>?_;simp[qk4];apply J;clear J K;refine Wf (by simp) ?_;refine Wp.skip ?_;refine hS _ ?_;clear hS S;refine We fun S hS=>?_;refine We fun S hS=>?_
   repeat(first|(refine We fun S hS=>?_)|(refine Wp.block ?_)|(refine Wp.skip ?_)|(refine hS _ ?_;clear hS S)|(clear hS S;refine hS _ ?_;clear hS S)|(clear hS S;clear hS S;refine hS _ ?_;clear hS S))
   ((first|refine Wa X2 fun K J=>?_|refine Wb X2 fun K J=>?_|refine Wc X2 [] fun K J=>?_|refine Wd X2 [] fun K J=>?_);simp[hj,hjl,Xe,Xd,Ez.cv,hy,q3];apply And.intro;(·kernel_rfl);with_reducible refine J _ ?_;clear J K)
   refine hS _ ?_;clear hS S;refine Wt (by simp) ?_;refine Wa X2 fun K J=>?_;simp;apply J;clear J K;refine Wp.ret ?_;simp;rw[no (by rw[hsc,Xro,hgx,hj];simp only[Int.toNat_natCast,hgy];simp[y3])];rfl
  have q3:=eq_true y3;by_cases ya:y.e.addr=x.e.addr
  case neg=>
   have qa:=eq_false ya;refine Wb X2 fun K J=>?_;simp[sb3,Xn,GI,X8,unS,Xa,Ev.eta',hfe,he,Yt,qhh,qhp];apply J;clear J K;refine hS _ ?_;clear hS S;refine Wf (by simp) ?_;refine Wp.skip ?_;refine hS _ ?_;clear hS S;refine We fun S hS=>?_;refine Wa X2 fun K J=>?_;simp[qk4];apply J;clear J K;refine Wf (by simp) ?_;refine Wp.skip ?_;refine hS _ ?_;clear hS S;refine We fun S hS=>?_;refine We fun S hS=>?_
   repeat(first|(refine We fun S hS=>?_)|(refine Wp.block ?_)|(refine Wp.skip ?_)|(refine hS _ ?_;clear hS S)|(clear hS S;refine hS _ ?_;clear hS S)|(clear hS S;clear hS S;refine hS _ ?_;clear hS S))
   ((first|refine Wa X2 fun K J=>?_|refine Wb X2 fun K J=>?_|refine Wc X2 [] fun K J=>?_|refine Wd X2 [] fun K J=>?_);simp[hj,hjl,Xe,Xd,Ez.cv,hy,q3,qa];apply And.intro;(·kernel_rfl);with_reducible refine J _ ?_;clear J K)
   refine hS _ ?_;clear hS S;refine Wt (by simp) ?_;refine Wa X2 fun K J=>?_;simp;apply J;clear J K;refine Wp.ret ?_;simp;rw[no (by rw[hsc,Xro,hgx,hj];simp only[Int.toNat_natCast,hgy];simp[ya])];rfl
  have qa:=eq_true ya;refine Wb X2 fun K J=>?_;simp[sb3,Xn,GI,X8,unS,Xa,Ev.eta',hfe,he,Yt,qhh,qhp];apply J;clear J K;refine hS _ ?_;clear hS S;refine Wf (by simp) ?_;refine Wp.skip ?_;refine hS _ ?_;clear hS S;refine We fun S hS=>?_;refine Wa X2 fun K J=>?_;simp[qk4];apply J;clear J K;refine Wf (by simp) ?_;refine Wp.skip ?_;refine hS _ ?_;clear hS S;refine We fun S hS=>?_;refine We fun S hS=>?_
  repeat(first|(refine We fun S hS=>?_)|(refine Wp.block ?_)|(refine Wp.skip ?_)|(refine hS _ ?_;clear hS S)|(clear hS S;refine hS _ ?_;clear hS S)|(clear hS S;clear hS S;refine hS _ ?_;clear hS S))
  ((first|refine Wa X2 fun K J=>?_|refine Wb X2 fun K J=>?_|refine Wc X2 [] fun K J=>?_|refine Wd X2 [] fun K J=>?_);simp[hj,hjl,Xe,Xd,Ez.cv,hy,q3,qa];apply And.intro;(·kernel_rfl);with_reducible refine J _ ?_;clear J K)
  refine hS _ ?_;clear hS S;refine Wf (by simp) ?_;refine Wp.skip ?_;refine hS _ ?_;clear hS S;refine Wa X2 fun K J=>?_;simp[hwj];apply J;clear J K;refine Wp.block ?_;refine Wp.loop (fun k s=>∃m:Nat,m+k=i∧j<m∧(∀a,j<a→a<m→Yig (l.map Ez.e) a)∧s=⟨[(0,iV .i64 h),(1,sV z 14 (Yc l)),(5,iV .i64 i),(7,iV .i64 m)],[]⟩)
   (i - (j+1)) (s0:=⟨[(0,iV .i64 h),(1,sV z 14 (Yc l)),(5,iV .i64 i),(7,iV .i64 (j+1:Nat))],[]⟩) ?_ ⟨j+1,by omega,by omega,fun a h1 h2=>by omega,rfl⟩ fun k2 s ⟨m,hmk,hjm,hm2,hs⟩=>?_
  ·apply Gh.of<;>simp
  subst hs;by_cases hm:m<i
  ·have hml:m<l.length:=by omega
   have hwm:IntKind.i64.wrap ((m:Int)+1)=(m+1:Nat):=by rw[wrap_small]<;>omega
   obtain⟨v,hv⟩:∃v,l[m]=v:=⟨_,rfl⟩;have hgv:(l.map Ez.e).getD m default=v.e:=by rw[Xeo hml,hv]
   by_cases v3:v.e.kind=3
   ·refine We fun S hS=>?_;refine Wa X2 fun K J=>?_;simp[hm];apply J;clear J K;refine Wt (by simp) ?_;refine Wp.skip ?_;refine hS _ ?_;clear hS S;refine We fun S hS=>?_;refine Wp.block ?_;refine Wa X2 fun K J=>?_;simp[hml,Xe,Xd,Ez.cv,hv,v3];apply J;clear J K;refine Wt (by simp) ?_;refine Wa X2 fun K J=>?_;simp;apply J;clear J K;refine Wp.ret ?_;simp;rw[no (by rw[hsc];exact Xne hj hgx hjm hm (fun q=>q.1 (by rw[hgv];exact v3)))];rfl
   by_cases v4:v.e.kind=4
   ·refine We fun S hS=>?_;refine Wa X2 fun K J=>?_;simp[hm];apply J;clear J K;refine Wt (by simp) ?_;refine Wp.skip ?_;refine hS _ ?_;clear hS S;refine We fun S hS=>?_;refine Wp.block ?_;refine Wa X2 fun K J=>?_;simp[hml,Xe,Xd,Ez.cv,hv,v4];apply J;clear J K;refine Wt (by simp) ?_;refine Wa X2 fun K J=>?_;simp;apply J;clear J K;refine Wp.ret ?_;simp;rw[no (by rw[hsc];exact Xne hj hgx hjm hm (fun q=>q.2 (by rw[hgv];exact v4)))];rfl
   refine We fun S hS=>?_;refine Wa X2 fun K J=>?_;simp[hm];apply J;clear J K;refine Wt (by simp) ?_;refine Wp.skip ?_;refine hS _ ?_;clear hS S;refine We fun S hS=>?_;refine Wp.block ?_;refine Wa X2 fun K J=>?_;simp[hml,Xe,Xd,Ez.cv,hv,v3,v4];apply J;clear J K;refine Wf (by simp) ?_;refine Wp.skip ?_;refine hS _ ?_;clear hS S;refine Wb X2 fun K J=>?_;simp[hwm];apply J;clear J K;refine⟨⟨[(0,iV .i64 h),(1,sV z 14 (Yc l)),(5,iV .i64 i),(7,iV .i64 (m+1:Nat))],[]⟩,k2 - 1,?_,by omega,m+1,by omega,by omega,fun a h1 h2=>?_,rfl⟩
   ·apply Gh.of<;>simp
   rcases Nat.lt_or_ge a m with g|g
   ·exact hm2 a h1 g
   ·obtain rfl:a=m:=by omega
    unfold Yig;rw[hgv];exact⟨v3,v4⟩
  ·obtain rfl:m=i:=by omega
   have hok:rowAt h (l.map Ez.e) m=true:=by
    rw[hsc,Xro,hgx,hj];simp only[Int.toNat_natCast,hgy,y3,ya,and_self,decide_true,Bool.true_and];rw[List.all_eq_true];intro a ha;have ha:=List.mem_range.1 ha;rw[decide_eq_true_eq];rcases Nat.lt_or_ge j a with g|g
    ·exact .inr (hm2 a g ha)
    ·exact .inl (by omega)
   refine We fun S hS=>?_;refine Wa X2 fun K J=>?_;simp;apply J;clear J K;refine Wf (by simp) ?_;refine Wp.exit ?_;simp only[XV,Xx,if_true];clear hS S;refine hS _ ?_;clear hS S;refine Wb X2 fun K J=>?_;simp[hw];apply J;clear J K;refine⟨⟨[(0,iV .i64 h),(1,sV z 14 (Yc l)),(5,iV .i64 (m+1:Nat))],[]⟩,k - 1,?_,by omega,m+1,by omega,Y7 hr hok,rfl⟩;apply Gh.of<;>simp
 ·refine We fun S hS=>?_;refine Wa X2 fun K J=>?_;simp[hi,Xe];apply J;clear J K;refine Wf (by simp) ?_;refine Wp.exit ?_;simp only[XV,Xx,if_true];clear hS S;refine hS _ ?_;clear hS S;refine Wa X2 fun K J=>?_;simp;apply J;clear J K;refine Wp.ret ?_;simp;have:Xkp h (l.map Ez.e)=true:=all_true fun j hj=>hr j (by rw[List.length_map]at hj;omega);rw[this];rfl
set_option maxHeartbeats 1000000 in
theorem Xly(z:Bool)(xs:List (Int×Int))(hn:xs.length≤1000000):Xq Tryz.prog 26 [sV z 2 (KY xs)] (.val (bV (VC xs))):=by
 refine Xi (rs:=[.tmp 2]) (Xk _) Tryz.func26 rfl Tryz.ntmps26 rfl (by simp) ?_;refine Wa Xb fun K J=>?_;simp;apply J;clear J K;refine We fun S hS=>?_;refine Wa Xb fun K J=>?_;simp;apply J;clear J K;refine Wp.block ?_;refine Wp.loop (fun k s=>∃(i:Nat),i+k=xs.length∧i≤xs.length∧s=⟨[(0,sV z 2 (KY xs)),(3,iV .i64 i)],[]⟩∧∀j,j<i→cellAt xs j=true)
  xs.length (s0:=⟨[(0,sV z 2 (KY xs)),(3,iV .i64 (0:Nat))],[]⟩) ?_ ⟨0,by simp,by simp,rfl,by simp⟩ fun k s ⟨i,hik,hil,hs,hr⟩=>?_
 ·apply Gh.of<;>simp
 subst hs;refine We fun S hS=>?_;refine Wa Xb fun K J=>?_;simp[XZ];apply J;clear J K;refine Wp.cond rfl (fun hc=>?_) (fun hc=>?_)
 ·have hi:i<xs.length:=by simpa using hc
  have hw:IntKind.i64.wrap ((i:Int)+1)=(i+1:Nat):=by rw[wrap_small]<;>omega
  have hgi:xs.getD i (0,0)=xs[i]:=by simp[List.getD_eq_getElem?_getD,List.getElem?_eq_getElem hi]
  have no:¬cellAt xs i=true→VC xs=false:=fun h=>all_false hi (by simpa using h);by_cases h8:(xs[i].1).tmod 8=0
  case neg=>
   repeat(first|(refine We fun S hS=>?_)|(refine Wp.block ?_)|(refine Wp.skip ?_)|(refine hS _ ?_;clear hS S)|(clear hS S;refine hS _ ?_;clear hS S)|(clear hS S;clear hS S;refine hS _ ?_;clear hS S))
   ((first|refine Wa Xb fun K J=>?_|refine Wb Xb fun K J=>?_|refine Wc Xb [] fun K J=>?_|refine Wd Xb [] fun K J=>?_);simp[hi,XZ,XX,h8];apply And.intro;(·kernel_rfl);with_reducible refine J _ ?_;clear J K)
   refine hS _ ?_;clear hS S;refine Wt (by simp) ?_;refine Wa Xb fun K J=>?_;simp;apply J;clear J K;refine Wp.ret ?_;simp;exact no (by simp[cellAt,hi,h8])
  by_cases h0:0<i
  case neg=>
   obtain rfl:i=0:=by omega
   repeat(first|(refine We fun S hS=>?_)|(refine Wp.block ?_)|(refine Wp.skip ?_)|(refine hS _ ?_;clear hS S)|(clear hS S;refine hS _ ?_;clear hS S)|(clear hS S;clear hS S;refine hS _ ?_;clear hS S))
   ((first|refine Wa Xb fun K J=>?_|refine Wb Xb fun K J=>?_|refine Wc Xb [] fun K J=>?_|refine Wd Xb [] fun K J=>?_);simp[hi,XZ,XX,h8];apply And.intro;(·kernel_rfl);with_reducible refine J _ ?_;clear J K)
   refine hS _ ?_;clear hS S;refine Wf (by simp) ?_;refine Wp.skip ?_;refine hS _ ?_;clear hS S;refine Wb Xb fun K J=>?_;simp;apply J;clear J K;refine⟨⟨[(0,sV z 2 (KY xs)),(3,iV .i64 (0+1:Nat))],[]⟩,k - 1,?_,by omega,0+1,by omega,by omega,rfl,Y7 hr ?_⟩
   ·apply Gh.of<;>simp[IntKind.wrap,IntKind.bits,IntKind.signed]
   simp[cellAt,hi,h8]
  have hj:i - 1<xs.length:=by omega
  have hw1:IntKind.i64.wrap ((i:Int) - 1)=((i - 1:Nat):Int):=by rw[wrap_small]<;>omega
  by_cases hlt:xs[i - 1].1<xs[i].1
  case neg=>
   have hle:xs[i].1≤xs[i - 1].1:=by omega
   repeat(first|(refine We fun S hS=>?_)|(refine Wp.block ?_)|(refine Wp.skip ?_)|(refine hS _ ?_;clear hS S)|(clear hS S;refine hS _ ?_;clear hS S)|(clear hS S;clear hS S;refine hS _ ?_;clear hS S))
   ((first|refine Wa Xb fun K J=>?_|refine Wb Xb fun K J=>?_|refine Wc Xb [] fun K J=>?_|refine Wd Xb [] fun K J=>?_);simp[hi,XZ,XX,h8,h0,hw1,hj,hle];apply And.intro;(·kernel_rfl);with_reducible refine J _ ?_;clear J K)
   refine hS _ ?_;clear hS S;refine Wt (by simp) ?_;refine Wa Xb fun K J=>?_;simp;apply J;clear J K;refine Wp.ret ?_;simp;exact no (by simp[cellAt,hi,hj,h8,h0,hlt])
  ·have hle:¬xs[i].1≤xs[i - 1].1:=by omega
   repeat(first|(refine We fun S hS=>?_)|(refine Wp.block ?_)|(refine Wp.skip ?_)|(refine hS _ ?_;clear hS S)|(clear hS S;refine hS _ ?_;clear hS S)|(clear hS S;clear hS S;refine hS _ ?_;clear hS S))
   ((first|refine Wa Xb fun K J=>?_|refine Wb Xb fun K J=>?_|refine Wc Xb [] fun K J=>?_|refine Wd Xb [] fun K J=>?_);simp[hi,XZ,XX,h8,h0,hw1,hj,hle];apply And.intro;(·kernel_rfl);with_reducible refine J _ ?_;clear J K)
   refine hS _ ?_;clear hS S;refine Wf (by simp) ?_;refine Wp.skip ?_;refine hS _ ?_;clear hS S;refine Wb Xb fun K J=>?_;simp[hw];apply J;clear J K;refine⟨⟨[(0,sV z 2 (KY xs)),(3,iV .i64 (i+1:Nat))],[]⟩,k - 1,?_,by omega,i+1,by omega,by omega,rfl,Y7 hr ?_⟩
   ·apply Gh.of<;>simp
   simp[cellAt,hi,hj,h8,hlt]
 ·have hi:¬i<xs.length:=by simpa using hc
  have hv:VC xs=true:=all_true fun j hj=>hr j (by omega);refine Wp.exit ?_;simp only[XV,Xx,if_true];clear hS S;refine hS _ ?_;clear hS S;refine Wa Xb fun K J=>?_;simp;apply J;clear J K;refine Wp.ret ?_;simp;exact hv
theorem Xlt(z:Bool)(xs:List (Int×Int))(a:Int)(hn:xs.length≤1000000):Xq Tryz.prog 59 [sV z 2 (KY xs),iV .u64 a] (.val (iV .u64 (JC xs a))):=by
 obtain⟨R,hR⟩:∃R,JC xs a=R:=⟨_,rfl⟩;rw[hR];refine Xi (rs:=[.tmp 4]) (Xk _) Tryz.func59 rfl Tryz.ntmps59 rfl (by simp) ?_;refine Wa Xb fun K J=>?_;simp;apply J;clear J K;refine We fun S hS=>?_;refine Wa Xb fun K J=>?_;simp;apply J;clear J K;refine Wp.block ?_;refine Wp.loop (fun k s=>∃i:Nat,i+k=xs.length∧JC (xs.drop i) a=R∧s=⟨[(0,sV z 2 (KY xs)),(1,iV .u64 a),(5,iV .i64 i)],[]⟩)
  xs.length (s0:=⟨[(0,sV z 2 (KY xs)),(1,iV .u64 a),(5,iV .i64 (0:Nat))],[]⟩) ?_ ⟨0,by simp,by simpa using hR,rfl⟩ fun k s ⟨i,hik,hr,hs⟩=>?_
 ·apply Gh.of<;>simp
 subst hs;refine We fun S hS=>?_;refine Wa Xb fun K J=>?_;simp[XZ];apply J;clear J K;refine Wp.cond rfl (fun hc=>?_) (fun hc=>?_)
 ·have hi:i<xs.length:=by simpa using hc
  have hw:IntKind.i64.wrap ((i:Int)+1)=(i+1:Nat):=by rw[wrap_small]<;>omega
  rw[List.drop_eq_getElem_cons hi]at hr;by_cases hx:xs[i].1=a
  ·refine Wp.skip ?_;refine hS _ ?_;clear hS S;refine We fun S hS=>?_;refine Wp.block ?_;refine Wa Xb fun K J=>?_;simp[hi,XZ,XX,hx];apply J;clear J K;refine Wt (by simp) ?_;refine Wa Xb fun K J=>?_;simp[hi,XZ,XX,hx];apply J;clear J K;refine Wp.ret ?_;simp;rw[←hr,JC,List.find?_cons_of_pos (by simpa using hx)];rfl
  ·refine Wp.skip ?_;refine hS _ ?_;clear hS S;refine We fun S hS=>?_;refine Wp.block ?_;refine Wa Xb fun K J=>?_;simp[hi,XZ,XX,hx];apply J;clear J K;refine Wf (by simp) ?_;refine Wp.skip ?_;refine hS _ ?_;clear hS S;refine Wb Xb fun K J=>?_;simp[hw];apply J;clear J K;refine⟨⟨[(0,sV z 2 (KY xs)),(1,iV .u64 a),(5,iV .i64 (i+1:Nat))],[]⟩,k - 1,?_,by omega,i+1,by omega,?_,rfl⟩
   ·apply Gh.of<;>simp
   rw[←hr,JC,JC,List.find?_cons_of_neg (by simpa using hx)]
 ·have hi:¬i<xs.length:=by simpa using hc
  rw[List.drop_eq_nil_of_le (by omega)]at hr;refine Wp.exit ?_;simp only[XV,Xx,if_true];clear hS S;refine hS _ ?_;clear hS S;refine Wa Xb fun K J=>?_;simp;apply J;clear J K;refine Wp.ret ?_;simp;rw[←hr];rfl
def Xmj:List EV→Option (Prop×YX)
 |[.one (.c (.sl _z 2 els)), .one (.c (.sc (.int .u64 a)))]=>(match unC els with|some xs=>some (xs.length≤1000000, .val (iV .u64 (JC xs a)))|none=>none)
 |_=>none
def sd1:Dw.Spec:=Xn 59 Xmj se1
theorem Yu:XF Tryz.prog sd1:=by
 refine Xp ⟨⟨_,Tryz.func59,rfl,rfl⟩⟩ (fun vs p r h hp=>?_) Xv;unfold Xmj at h;split at h
 ·split at h
  ·rename_i xs hx;simp only[Option.some.injEq,Prod.mk.injEq]at h;obtain⟨rfl,rfl⟩:=h;rw[Xbb hx];exact Xlt _ _ _ hp
  ·cases h
 ·cases h
set_option maxHeartbeats 4000000 in
theorem Xpf(c:Cz)(z:Bool)(all:List Ez)(n:Nat)(hn:n<all.length)(hl:c.fr.length=all.length)(_h1:all.length≤1000)(h2:c.f.length≤1000000):
  Xq Tryz.prog 29 [Yo c,sV z 14 (Yc all),iV .i64 n] (.val (bV (GK c.f c.fr (all.map Ez.e) n))):=by
 have hge:(all.map Ez.e).getD n default=all[n].e:=by simp[List.getD_eq_getElem?_getD,List.getElem?_map,List.getElem?_eq_getElem hn]
 have hfn:n<c.fr.length:=by omega
 have hgf:c.fr.getD n 0=c.fr[n]:=by simp[List.getD_eq_getElem?_getD,List.getElem?_eq_getElem hfn]
 unfold Yo;refine Xi (rs:=[.tmp 6]) (Xk _) Tryz.func29 rfl Tryz.ntmps29 rfl (by simp) ?_;refine Wa Yu fun K J=>?_;simp;apply J;clear J K;refine We fun S hS=>?_
 ((first|refine Wa Yu fun K J=>?_|refine Wb Yu fun K J=>?_|refine Wc Yu [7] fun K J=>?_|refine Wd Yu [7] fun K J=>?_);simp[hn,hfn,Xe,Xd,Xf,Xg,Ez.cv];apply And.intro;(·kernel_rfl);with_reducible refine J _ ?_;clear J K)
 have hd:GK c.f c.fr (all.map Ez.e) n=(if all[n].e.reads=false then decide (c.fr[n]= -1)else if c.fr[n]= -1 then decide (all[n].e.load=JC c.f all[n].e.addr)
   else decide (0≤c.fr[n]∧c.fr[n]<all.length∧c.fr[n]≠n)&&(((all.map Ez.e).getD (c.fr[n]).toNat default).writes&&decide (((all.map Ez.e).getD (c.fr[n]).toNat default).addr=all[n].e.addr∧((all.map Ez.e).getD (c.fr[n]).toNat default).store=all[n].e.load))):=by
  unfold GK;rw[hge,hgf];simp only[List.length_map]
 cases hrd:all[n].e.reads
 ·refine hS _ ?_;clear hS S;refine We fun S hS=>?_;refine Wp.block ?_;refine Wa Yu fun K J=>?_;simp[sd1,se1,Xn,Kw,X8,unS,Xa,Ev.eta',hrd];apply J;clear J K;refine Wt (by simp) ?_;refine Wa Yu fun K J=>?_;simp;apply J;clear J K;refine Wp.ret ?_;simp;rw[hd];simp[hrd]
 by_cases hv:c.fr[n]= -1
 ·have qv:=eq_true hv;refine hS _ ?_;clear hS S;refine We fun S hS=>?_;refine Wp.block ?_;refine Wa Yu fun K J=>?_;simp[sd1,se1,Xn,Kw,X8,unS,Xa,Ev.eta',hrd];apply J;clear J K;refine Wf (by simp) ?_;refine Wa Yu fun K J=>?_;simp[qv];apply J;clear J K;refine Wt (by simp) ?_;refine Wc Yu [] fun K J=>?_;simp[sd1,Xn,Xmj,Yv,h2];apply And.intro;(·kernel_rfl);apply J;clear J K;refine Wp.ret ?_;simp;rw[hd];simp[hrd,hv]
 have qv:=eq_false hv;by_cases h0:c.fr[n]<0
 ·have q0:=eq_true h0;refine hS _ ?_;clear hS S;refine We fun S hS=>?_;refine Wp.block ?_;refine Wa Yu fun K J=>?_;simp[sd1,se1,Xn,Kw,X8,unS,Xa,Ev.eta',hrd];apply J;clear J K;refine Wf (by simp) ?_;refine Wa Yu fun K J=>?_;simp[qv];apply J;clear J K;refine Wf (by simp) ?_;refine Wa Yu fun K J=>?_;simp[q0];apply J;clear J K;refine Wt (by simp) ?_;refine Wa Yu fun K J=>?_;simp;apply J;clear J K;refine Wp.ret ?_;simp;rw[hd];simp[hrd,hv];omega
 have q0:=eq_false h0;by_cases hg:(all.length:Int)≤c.fr[n]
 ·have qg:=eq_true hg;refine hS _ ?_;clear hS S;refine We fun S hS=>?_;refine Wp.block ?_;refine Wa Yu fun K J=>?_;simp[sd1,se1,Xn,Kw,X8,unS,Xa,Ev.eta',hrd];apply J;clear J K;refine Wf (by simp) ?_;refine Wa Yu fun K J=>?_;simp[qv];apply J;clear J K;refine Wf (by simp) ?_;refine Wa Yu fun K J=>?_;simp[Xe,q0,qg];apply J;clear J K;refine Wt (by simp) ?_;refine Wa Yu fun K J=>?_;simp;apply J;clear J K;refine Wp.ret ?_;simp;rw[hd];simp[hrd,hv];omega
 have qg:=eq_false hg;by_cases he:c.fr[n]=(n:Int)
 ·have qe:=eq_true he;refine hS _ ?_;clear hS S;refine We fun S hS=>?_;refine Wp.block ?_;refine Wa Yu fun K J=>?_;simp[sd1,se1,Xn,Kw,X8,unS,Xa,Ev.eta',hrd];apply J;clear J K;refine Wf (by simp) ?_;refine Wa Yu fun K J=>?_;simp[qv];apply J;clear J K;refine Wf (by simp) ?_;refine Wa Yu fun K J=>?_;simp[Xe,q0,qg,qe];apply J;clear J K;refine Wt (by simp) ?_;refine Wa Yu fun K J=>?_;simp;apply J;clear J K;refine Wp.ret ?_;simp;rw[hd];simp[hrd,he]
 have qe:=eq_false he;have k0:0≤c.fr[n]:=by omega
 have k1:c.fr[n]<(all.length:Int):=by omega
 have k2:(c.fr[n]).toNat<all.length:=by omega
 have hgv:(all.map Ez.e).getD (c.fr[n]).toNat default=all[(c.fr[n]).toNat].e:=by simp[List.getD_eq_getElem?_getD,List.getElem?_map,List.getElem?_eq_getElem k2]
 rw[hgv]at hd;cases hwr:all[(c.fr[n]).toNat].e.writes
 ·refine hS _ ?_;clear hS S;refine We fun S hS=>?_;refine Wp.block ?_;refine Wa Yu fun K J=>?_;simp[sd1,se1,Xn,Kw,X8,unS,Xa,Ev.eta',hrd];apply J;clear J K;refine Wf (by simp) ?_;refine Wa Yu fun K J=>?_;simp[qv];apply J;clear J K;refine Wf (by simp) ?_;refine Wa Yu fun K J=>?_;simp[Xe,q0,qg,qe];apply J;clear J K;refine Wf (by simp) ?_;refine Wp.skip ?_;refine hS _ ?_;clear hS S;refine Wc Yu [] fun K J=>?_;simp[sd1,se1,Xn,Kw,X8,unS,Xa,Ev.eta',Xe,Xd,Ez.cv,k0,k1,k2,hwr];apply And.intro;(·kernel_rfl);apply J;clear J K;refine Wp.ret ?_;simp;rw[hd];simp[hrd,hv,hwr]
 by_cases ha:all[(c.fr[n]).toNat].e.addr=all[n].e.addr
 case neg=>
  have qa:=eq_false ha;refine hS _ ?_;clear hS S;refine We fun S hS=>?_;refine Wp.block ?_;refine Wa Yu fun K J=>?_;simp[sd1,se1,Xn,Kw,X8,unS,Xa,Ev.eta',hrd];apply J;clear J K;refine Wf (by simp) ?_;refine Wa Yu fun K J=>?_;simp[qv];apply J;clear J K;refine Wf (by simp) ?_;refine Wa Yu fun K J=>?_;simp[Xe,q0,qg,qe];apply J;clear J K;refine Wf (by simp) ?_;refine Wp.skip ?_;refine hS _ ?_;clear hS S;refine Wc Yu [] fun K J=>?_;simp[sd1,se1,Xn,Kw,X8,unS,Xa,Ev.eta',Xe,Xd,Ez.cv,k0,k1,k2,hwr,qa];apply And.intro;(·kernel_rfl);apply J;clear J K;refine Wp.ret ?_;simp;rw[hd];simp[hrd,hv,hwr,ha]
 have qa:=eq_true ha;refine hS _ ?_;clear hS S;refine We fun S hS=>?_;refine Wp.block ?_;refine Wa Yu fun K J=>?_;simp[sd1,se1,Xn,Kw,X8,unS,Xa,Ev.eta',hrd];apply J;clear J K;refine Wf (by simp) ?_;refine Wa Yu fun K J=>?_;simp[qv];apply J;clear J K;refine Wf (by simp) ?_;refine Wa Yu fun K J=>?_;simp[Xe,q0,qg,qe];apply J;clear J K;refine Wf (by simp) ?_;refine Wp.skip ?_;refine hS _ ?_;clear hS S;refine Wc Yu [] fun K J=>?_;simp[sd1,se1,Xn,Kw,X8,unS,Xa,Ev.eta',Xe,Xd,Ez.cv,k0,k1,k2,hwr,qa];apply And.intro;(·kernel_rfl);apply J;clear J K;refine Wp.ret ?_;simp;rw[hd];simp[hrd,hv,hwr,ha,k0,k1,he]
set_option maxHeartbeats 4000000 in
theorem Xp6(n:Nat)(hn:n≤8):Xq Tryz.prog 87 [iV .u64 1,iV .u64 n] (.val (.tup [iV .u64 0,iV .u64 n])):=by
 have:n=0∨n=1∨n=2∨n=3∨n=4∨n=5∨n=6∨n=7∨n=8:=by omega
 refine Xi (rs:=[.tmp 4, .tmp 5]) (Xk _) Tryz.func87 rfl Tryz.ntmps87 rfl (by simp) ?_;rcases this with rfl|rfl|rfl|rfl|rfl|rfl|rfl|rfl|rfl
 all_goals
  repeat(first|((first|refine Wa Xb fun K J=>?_|refine Wb Xb fun K J=>?_|refine Wc Xb [] fun K J=>?_|refine Wd Xb [] fun K J=>?_);simp[IntKind.wrap,IntKind.bits,IntKind.signed];done)|((first|refine Wa Xb fun K J=>?_|refine Wb Xb fun K J=>?_|refine Wc Xb [] fun K J=>?_|refine Wd Xb [] fun K J=>?_);simp[IntKind.wrap,IntKind.bits,IntKind.signed];with_reducible refine J _ ?_;clear J K)|((first|refine Wa Xb fun K J=>?_|refine Wb Xb fun K J=>?_|refine Wc Xb [] fun K J=>?_|refine Wd Xb [] fun K J=>?_);simp[IntKind.wrap,IntKind.bits,IntKind.signed];apply And.intro;(·kernel_rfl);with_reducible refine J _ ?_;clear J K)|(refine We fun S hS=>?_)|(refine Wp.block ?_)|(refine Wp.skip ?_)|(apply Wp.condT; · (simp[IntKind.wrap,IntKind.bits,IntKind.signed];done))|(apply Wp.condF; · (simp[IntKind.wrap,IntKind.bits,IntKind.signed];done))|(refine hS _ ?_;clear hS S)|(clear hS S;refine hS _ ?_;clear hS S)|(clear hS S;clear hS S;refine hS _ ?_;clear hS S)|(clear hS S;clear hS S;clear hS S;refine hS _ ?_;clear hS S))
  refine Wp.ret ?_;simp
def Xuo:List EV→Option (Prop×YX)
 |[.one (.c (.sc (.int .u64 1))), .one (.c (.sc (.int .u64 n)))]=>some (0≤n∧n≤8, .val (.tup [iV .u64 0,iV .u64 n]))
 |_=>none
def sm1:Dw.Spec:=Xn 87 Xuo Xao
theorem Xsi:XF Tryz.prog sm1:=by
 refine Xp ⟨⟨_,Tryz.func87,rfl,rfl⟩⟩ (fun vs p r h hp=>?_) Xb;unfold Xuo at h;split at h
 ·rename_i n;simp only[Option.some.injEq,Prod.mk.injEq]at h;obtain⟨rfl,rfl⟩:=h;obtain⟨m,rfl⟩:∃m:Nat,n=m:=⟨n.toNat,by omega⟩;exact Xp6 m (by omega)
 ·cases h
theorem Xx2(n:Nat)(hn:n≤8):Xq Tryz.prog 54 [iV .u64 1,iV .u64 n] (.val (.tup [iV .u64 0,iV .u64 n])):=by
 have h8:(n:Int)≤8:=by omega
 refine Xi (rs:=[.tmp 4, .tmp 5]) (Xk _) Tryz.func54 rfl Tryz.ntmps54 rfl (by simp) ?_;refine Wa Xsi fun K J=>?_;simp;apply J;clear J K;refine We fun S hS=>?_;refine Wf (by simp) ?_;refine Wp.skip ?_;refine hS _ ?_;clear hS S;refine Wa Xsi fun K J=>?_;simp[sm1,Xn,Xuo,h8];apply J;clear J K;refine Wa Xsi fun K J=>?_;simp;apply J;clear J K;refine Wp.ret ?_;simp
end Go.Proofs.YtjhfcfpkgfpoiaaGreatDoor
namespace Go.Proofs.YtjhfcfpkgfpoiaaGreatDoor
open Go Go.RowKit
set_option maxRecDepth 100000
section
section
variable {P:Program} {w:World}
def Src(w:World)(A:Option Addr)(m size:Nat)(news:List Value):Prop:=
 news.length=m*size∧(0<m→∃ad,A=some ad∧∀(j:Nat) (u:Value),news[j]? =some u→w.cell? (ad.add j)=some u)∧∀u∈news,u.oneCell'=true
theorem Zx{w0 w1:World}(h:Below w0.heap.size w0 w1)(o:Obj):Below w0.heap.size w0 (w1.alloc o):=h.alloc h.size o
theorem HT{w0 w1 w2:World}(h:Below w0.heap.size w0 w1)(g:Below w1.heap.size w1 w2):Below w0.heap.size w0 w2:=h.trans (g.mono h.size)
theorem HU{B:Nat}{w0 w1:World}(h:Below B w0 w1):Below B w0 w1.drew:=below_drewN h 1
theorem Xfz.src{B:Nat}{A:Option Addr}{xs:List Int}(h:Xfz w B A xs):Src w A xs.length 1 (xs.map (.int .i64)):=by
 refine⟨by simp,fun h0=>?_,fun u hu=>?_⟩
 ·obtain⟨a,rfl,hab,hc⟩:=h.at_ h0;refine⟨a,rfl,fun j u hj=>?_⟩;have hj':j<xs.length:=by
   have:=(List.getElem?_eq_some_iff.1 hj).1;simpa using this
  obtain⟨a',e,_,hc'⟩:=h.at_ hj';injection e with e;subst e;rw[hc'];rw[List.getElem?_map,List.getElem?_eq_getElem hj']at hj;simp only[Option.map_some,Option.some.injEq]at hj;rw[←hj,List.getD_eq_getElem?_getD,List.getElem?_eq_getElem hj'];rfl
 ·obtain⟨x,_,rfl⟩:=List.mem_map.1 hu;rfl
theorem Xbt(t ty e:TypeId)(i:TypeInfo)(z:Value)(size bytes:Nat)(ht:P.underlying t=some (.slice e))(hi:P.info? e=some i)(hz:i.zero=some z)
  (hsize:i.size=size) (hby:i.bytes=bytes) (hzs:z.cells.size=size)
  (g:Nat) (A:Option Addr) (m c:Nat) (news:List Value) (hs:Src w A m size news) (h63:m≤maxLen) (hbytes:m*bytes≤140737488355328):
  ∃A' c' w',(Builtin.append_ #[t,t] ty #[.slice (some ⟨g,0,none⟩) 0 0, .slice A m c]).run P w= .ok (.slice A' m c') w'∧Below w.heap.size w w'∧(m≤c'∧A'.isSome=true)∧
   (0<m→∃ad,A'=some ad∧ad.block<w'.heap.size∧w.heap.size≤ad.block∧∀(j:Nat) (u:Value),news[j]? =some u→w'.cell? (ad.add j)=some u):=by
 obtain⟨hl,hr,h1⟩:=hs;by_cases hm:m=0
 ·subst hm;obtain rfl:news=[]:=List.eq_nil_of_length_eq_zero (by simpa using hl);refine⟨some ⟨g,0,none⟩,0,w,?_,Below.refl _ _,⟨Nat.le_refl _,rfl⟩,fun h=>absurd h (by omega)⟩;cases A<;>simp[Builtin.append_,run_underlying ht,sizeOf,typeInfo,hi,Builtin.lenOf,Builtin.firstCells,storeCells,loadCells,loadCellsFrom]
 ·obtain⟨ad,rfl,hc⟩:=hr (by omega);subst hsize;subst hby;have hmm:m≤9223372036854775807:=by simp only[maxLen]at h63;omega
  have hr:=run_append_grow (P:=P) w t ty e i z ht hi hz ⟨g,0,none⟩ 0 0 [] (by simp) (by intro j u hj;simp at hj) ad m c news hl hc (by omega) (by omega) (growslice_fits (by omega) (by simpa using hbytes));have hge:=grownCap_ge w (0+m) 0 e;rw[Nat.zero_add]at hr;rw[Nat.zero_add]at hge;refine⟨_,_,_,hr,?_,⟨hge,rfl⟩,fun _=>⟨_,rfl,by simp,Nat.le_refl _,fun j u hj=>?_⟩⟩
  ·exact(below_drewN (Below.refl _ _) 1).alloc (Nat.le_refl _) _
  ·have hj':=(List.getElem?_eq_some_iff.1 hj).1;have:((⟨w.heap.size,0,none⟩:Addr).add j)=⟨w.heap.size,j,none⟩:=by
    unfold Addr.add;split
    ·rename_i h;subst h;rfl
    ·simp
   rw[this,show(⟨w.heap.size,j,none⟩:Addr)=⟨w.drew.heap.size,j,none⟩from rfl,cell_of_row _ _ _ _ _ _ (heap_alloc_new w.drew _)];rw[Array.getElem?_append_left (by simpa using hj')];simpa using hj
theorem Jq{ops:Array Oper}{o:Oper}{a:Act}{K:Act→World→Prop}{Q:Exit→Act→World→Prop}{E:Prop}(hgd:o.guard=none)(s x:Operand)(t:TypeId)
  (ho:o.op= .call {callee:= .builtin .append,args:=#[s,x],argTypes:=#[t,t]})
  (e:TypeId) (i:TypeInfo) (z:Value) (size bytes:Nat) (ht:P.underlying t=some (.slice e)) (hi:P.info? e=some i) (hz:i.zero=some z)
  (hsize:i.size=size) (hby:i.bytes=bytes) (hzs:z.cells.size=size) (g:Nat) (hs:a.eval s= .slice (some ⟨g,0,none⟩) 0 0)
  (A:Option Addr) (m c:Nat) (news:List Value) (hx:a.eval x= .slice A m c) (hsrc:Src w A m size news) (h63:m≤maxLen) (hbytes:m*bytes≤140737488355328)
  (h:∀A' c' w',Below w.heap.size w w'→(m≤c'∧A'.isSome=true)→(0<m→∃ad,A'=some ad∧ad.block<w'.heap.size∧w.heap.size≤ad.block∧∀(j:Nat) (u:Value),news[j]? =some u→w'.cell? (ad.add j)=some u)→K (a.put o.dst (.slice A' m c')) w'):
  if Region.wanted o (yielded ops a.tmps)=true then Oper.wp P o a w K Q else E:=by
 have hw:Region.wanted o (yielded ops a.tmps)=true:=by simp[Region.wanted,hgd]
 rw[if_pos hw];obtain⟨A',c',w',hr,h2,h3,h5⟩:=Xbt (P:=P) (w:=w) t o.type e i z size bytes ht hi hz hsize hby hzs g A m c news hsrc h63 hbytes;unfold Oper.wp execOp;simp only[ho,resolve,invoke,builtin,Sem.run_bind,Sem.run_pure,Result.andThen_ok,List.map_toArray,List.map_cons,List.map_nil,hs,hx,hr];exact h A' c' w' h2 h3 h5
def Xad(w:World)(lo:Nat)(A:Option Addr)(xs:List Int):Prop:=Xfz w w.heap.size A xs∧(0<xs.length→∃ad,A=some ad∧lo≤ad.block)
theorem Xg1{lo:Nat}{A':Option Addr}{xs:List Int}(h:0<xs.length→∃ad,A'=some ad∧ad.block<w.heap.size∧lo≤ad.block∧∀(j:Nat) (u:Value),(xs.map (Value.int .i64))[j]? =some u→w.cell? (ad.add j)=some u):Xad w lo A' xs:=by
 refine⟨fun i hi=>?_,fun h0=>by obtain⟨ad,e,_,hl,_⟩:=h h0;exact⟨ad,e,hl⟩⟩;obtain⟨ad,e,hb,_,hc⟩:=h (by omega);refine⟨ad,e,hb,fun j u hj=>?_⟩;have:j=0:=by
  have:=(List.getElem?_eq_some_iff.1 hj).1;simpa using this
 subst this;simp only[List.getElem?_cons_zero,Option.some.injEq]at hj;have:=hc i (.int .i64 (xs.getD i 0)) (by rw[List.getElem?_map,List.getD_eq_getElem?_getD,List.getElem?_eq_getElem hi];rfl);rw[←hj];simpa using this
theorem Xad.below{lo:Nat}{A:Option Addr}{xs:List Int}{w1:World}(h:Xad w lo A xs)(b:Below w.heap.size w w1):Xad w1 lo A xs:=⟨Yb5 h.1 b,h.2⟩
theorem Xad.low{lo lo':Nat}{A:Option Addr}{xs:List Int}(h:Xad w lo A xs)(l:lo'≤lo):Xad w lo' A xs:=⟨h.1,fun h0=>by obtain⟨a,e,g⟩:=h.2 h0;exact⟨a,e,Nat.le_trans l g⟩⟩
theorem Xad.set{lo g j:Nat}{A:Option Addr}{xs:List Int}{v:Value}(h:Xad w lo A xs)(hg:g<lo):Xad (w.setCell ⟨g,j,none⟩ v) lo A xs:=by
 refine⟨fun i hi=>?_,h.2⟩;obtain⟨a,e,hb,hc⟩:=h.1 i hi;obtain⟨a',e',hl⟩:=h.2 (by omega);rw[e]at e';injection e' with e';subst e';refine⟨a,e,by simpa using hb,fun j' u hu=>?_⟩;rw[World.cell?_setCell_other]
 ·exact hc j' u hu
 ·intro q;have:(⟨g,j,none⟩:Addr).block=a.block:=by rw[q,add_block]
  simp at this;omega
end
end
end Go.Proofs.YtjhfcfpkgfpoiaaGreatDoor
