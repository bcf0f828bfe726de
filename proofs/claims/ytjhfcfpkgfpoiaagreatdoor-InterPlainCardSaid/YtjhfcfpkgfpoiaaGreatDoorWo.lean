/- What the program and the document compute, as plain data, and laws of it. No condition. -/
import Derived.BigQuiet
import Derived.BigRegion
import Derived.ChangeAlike
import Derived.Deep.AppendLies
import Derived.Deep.CutBlock
import Derived.Deep.CutRange
import Derived.Deep.DeepCutAuto
import Derived.Deep.QuietTactic
import Derived.Deep.RegionHeld3
import Derived.Deep.RegionLaw
import Derived.IntWalk
import Derived.KernelRfl
import Derived.Laws.CopyOwn
import Derived.Laws.MakeOwn
import Derived.Laws.OwnMore
import Derived.Laws.Rows
import Derived.Lib.Hide
import Derived.Maps.AppendAt
import Derived.Maps.OwnOps
import Derived.Maps.Views
import Derived.OwnWalk
import Derived.RegionTactic
import Derived.StillTailTactics
import Derived.WalkKit
import Derived.WalkLawsBesides
import Derived.WalkSpells
import Derived.WideMake
import Derived.Test.YtjhfcfpkgfpoiaaGreatDoorDe
import Derived.Test.YtjhfcfpkgfpoiaaGreatDoorProg
import Derived.Test.YtjhfcfpkgfpoiaaGreatDoorWf
import Derived.Test.YtjhfcfpkgfpoiaaGreatDoorWg
import Derived.Test.YtjhfcfpkgfpoiaaGreatDoorWh
import Derived.Test.YtjhfcfpkgfpoiaaGreatDoorWi
import Derived.Test.YtjhfcfpkgfpoiaaGreatDoorWj
import Derived.Test.YtjhfcfpkgfpoiaaGreatDoorWk
import Derived.Test.YtjhfcfpkgfpoiaaGreatDoorWl
import Derived.Test.YtjhfcfpkgfpoiaaGreatDoorWm
import Derived.Test.YtjhfcfpkgfpoiaaGreatDoorWn
namespace Go.Proofs.YtjhfcfpkgfpoiaaGreatDoor
open Go Go.RowKit Dw
set_option maxRecDepth 100000
attribute [local simp] cA cB cV Xbs Kb Xaf opE KM evO cEV_int cEV_bool cEV_str cEV_nil cEV_fn Dw.look Dw.put Dw.setD Dw.Xhq shI Xho Xhp unE GM X5 Jj Gx Je YJ XA Jf Hn Kq KD JD Kd K3 K0 Xd6 KK GF VD Xbr Xec Vr Gw Xgy Y4 Xf6 Yq Xf3 Xh1 Yw Xfi K9 chunks Dw.unC Xd7 JK YL Vc Vv KW YZ KP Xbw refs YS Vd over Xd5 eqC List.getElem?_cons_zero List.getElem?_cons_succ List.all_cons List.all_nil ty3 D3 ty4 D4 ty9 D9 Xkn Xkv D22 Xkm Xku D23 Xkl Xkt D24 Xib J7 J6 J5 J4 Xk0 ty31 D31 Xkk D38 Xkj Xks D44 Xki Xkr D50 Xia J3 fo57_1 fo57_2 fo57_3 Xkz eq57 Xh9 J2 J1 Xky Xh8 J0 JZ JY Xkx Xh7 JX JW JV JU JT JS JR JQ JP JO KI KH Xkw ty71 Xkq D71 Xkh JN JM bu75 eq75 ty97 D97 HW H3 Xk5 G9 H2 Xkg ty112 HZ D112 HV Xk4 G8 Xk3 G7 H1 Xkf G0 fo231_0 fo231_1 fo231_2 fo231_3 fo231_4 fo231_5 fo231_6 fo231_7 fo231_8 fo231_9 fo231_10 H4 H0 H6 H5 init0 init1 init2 init3 init4 init5 init6 Jz Xb9 Xdm rdL rdG rdO Xbu Zg Ge G4 Dw.del KB XV Xx YP Xex J9 Xe0 Kl erefs_agg_c XJ XT XI XQ inH Gt Gu VT Kt
set_option maxHeartbeats 16000000 in
theorem Xlr(c:Cz)(hc0:H7 c)(hev:Xd3 ((JF c).map Ez.e)):Xq Tryz.prog 14 [Yo c] (.val (Yai c)):=by
 have bok:=eq_true hc0;have bev:Xwh c=True:=eq_true hev;have hn:=hev.n;cases hck:XU (Yx c)
 ·have hR:Yai c=Xby false 1 (-1) (-1):=by unfold Yai;rw[hck];rfl
  have hl:JF c=[]:=by simp[JF,hck]
  rw[hR];unfold Yo Xby;refine Xi (rs:=[.cell 2 57]) (Xk _) Tryz.func14 rfl Tryz.ntmps14 rfl (by simp) ?_
  repeat(first|(refine We fun S hS=>?_)|(refine Wp.block ?_)|(refine Wp.skip ?_)|(refine hS _ ?_;clear hS S)|(clear hS S;refine hS _ ?_;clear hS S)|(clear hS S;clear hS S;refine hS _ ?_;clear hS S))
  first|refine Wa XP fun K J=>?_|refine Wb XP fun K J=>?_|refine Wc XP [] fun K J=>?_|refine Wd XP [] fun K J=>?_
  simp;apply J;clear J K;refine hS _ ?_;clear hS S;refine Wp.frzBox (b:=1) (cs:=c.cv) rfl rfl ?_;change Wp _ _ _ _ (⟨[(0,Yo c),(1,cA c),(2, .one (.ptr 2 0))],[(2, .box [.c (.sc (.bool false)), .c (.sc (.int .i64 0)), .c (.sc (.int .i64 0)), .c (.sc (.int .i64 0))])]⟩:St);refine Wa XP fun K J=>?_;simp[sjd,sn1,Xn,Xyp,Xh5,Xs,bok,hl,hck];apply J;clear J K;refine We fun S hS=>?_;refine Wa XP fun K J=>?_;simp;apply J;clear J K;refine Wt (by simp) ?_;refine Wa XP fun K J=>?_;simp[sjd,Xn,Xqj,Xby];apply J;clear J K;refine Wp.ret ?_;simp
 ·have CY:=GV.of hck;have hal:=Z8 hck;have hmap:=HH c;have hlen:=Xb4 c;have hfl:c.fr.length=(JF c).length:=by rw[hlen,hal];exact CY.fl
  have hfl':Ylw c=True:=eq_true (fun _=>hfl);have hod:∀i (h:i<c.od.length),0≤c.od[i]∧c.od[i]<c.fr.length:=fun i h=>by
   have:=CY.ord_ok (i:=i) h;rw[←CY.fl]at this;simpa[Yx,List.getD_eq_getElem?_getD,List.getElem?_eq_getElem h]using this
  have bod:Ylu c=True:=eq_true hod;have hpo:∀n,n<(JF c).length→(((JF c).map Ez.e).getD n default).kind=4→Xop ((JF c).map Ez.e) c.fr c.od (YO c.fr.length c.od) n:=fun n h1 h2=>by
   rw[hmap,hal]at h2⊢;rw[hlen,hal]at h1;exact CY.pair_ok (Ydk hc0) h1 h2
  have hin:∀x y,(x,y)∈Xbv c→x<(JF c).length∧y<(JF c).length:=fun x y h=>by
   have:=Xc6.1 h;have h1:=this.1;have h2:=this.2.1;rw[hlen];omega
  have hpl:(YO c.fr.length c.od).length=(JF c).length:=by rw[Zc];exact hfl
  obtain⟨R,hR⟩:∃R,Yai c=R:=⟨_,rfl⟩;rw[hR];unfold Yai at hR;rw[if_pos hck]at hR;clear CY hal hmap hlen;obtain⟨l,hl⟩:∃l,JF c=l:=⟨_,rfl⟩;obtain⟨pl,hpe⟩:∃pl,YO c.fr.length c.od=pl:=⟨_,rfl⟩;obtain⟨L,hL⟩:∃L,Xbv c=L:=⟨_,rfl⟩;rw[hl,hpe,hL]at hR;rw[hl]at hn hfl hpo hin hpl;rw[hpe]at hpo hpl;rw[hL]at hin;rw[List.length_map]at hn;have hl0:(JF c).length=l.length:=by rw[hl]
  have hLb:L.length≤1000000:=by
   have:=Xiu ((JF c).map Ez.e) c.fr 0 (JF c).length;rw[show ZJ ((JF c).map Ez.e) c.fr 0 (JF c).length=L from hL,List.length_map,hl0]at this;exact Nat.le_trans this (Nat.mul_le_mul hn hn)
  obtain⟨zl,hz⟩:∃z,decide (l=[])=z:=⟨_,rfl⟩;obtain⟨zL,hzL⟩:∃z,decide (L=[])=z:=⟨_,rfl⟩;unfold Yo;refine Xi (rs:=[.cell 2 57]) (Xk _) Tryz.func14 rfl Tryz.ntmps14 rfl (by simp) ?_
  repeat(first|(refine We fun S hS=>?_)|(refine Wp.block ?_)|(refine Wp.skip ?_)|(refine hS _ ?_;clear hS S)|(clear hS S;refine hS _ ?_;clear hS S)|(clear hS S;clear hS S;refine hS _ ?_;clear hS S))
  first|refine Wa XP fun K J=>?_|refine Wb XP fun K J=>?_|refine Wc XP [] fun K J=>?_|refine Wd XP [] fun K J=>?_
  simp;apply J;clear J K;refine hS _ ?_;clear hS S;refine Wp.frzBox (b:=1) (cs:=c.cv) rfl rfl ?_;change Wp _ _ _ _ (⟨[(0,Yo c),(1,cA c),(2, .one (.ptr 2 0))],[(2, .box [.c (.sc (.bool false)), .c (.sc (.int .i64 0)), .c (.sc (.int .i64 0)), .c (.sc (.int .i64 0))])]⟩:St);refine Wa XP fun K J=>?_;simp[sjd,sn1,Xn,Xyp,Xh5,Xs,bok,hl,hck,hz];apply J;clear J K;refine We fun S hS=>?_;refine Wa XP fun K J=>?_;simp;apply J;clear J K;refine Wf (by simp) ?_;refine Wp.skip ?_;refine hS _ ?_;clear hS S;refine Wa XP fun K J=>?_;simp[sjd,Xn,Xhb,Xs,bok,hck,hpe,bod];apply J;clear J K;refine Wa XP fun K J=>?_;simp[sjd,Xn,Xmh,Xs,bok,hzL,hL,bev,hfl'];apply J;clear J K;refine We fun S hS=>?_;refine Wa XP fun K J=>?_;simp;apply J;clear J K;refine Wp.block ?_;refine Wp.gh (.frz (b:=22) rfl) ?_;refine Wp.loop (fun k s=>∃i:Nat,i+k=L.length∧Yb3 pl (Yaj (l.map Ez.e) c.fr pl (Xg0 (l.map Ez.e) c.fr c.od pl 0 l.length) 0 l.length) (L.drop i)=R∧s=⟨[(1,cA c),(2, .one (.ptr 2 0)),(3, .one (.ptr 3 0)),(5,sV false 1 (Xj pl)),(6,sV zL 2 (prE L)),(7,iV .i64 i)],[(2, .box [.c (.sc (.bool false)), .c (.sc (.int .i64 0)), .c (.sc (.int .i64 0)), .c (.sc (.int .i64 0))]),(3, .box (cV c zl l))]⟩)
   L.length (s0:=⟨[(1,cA c),(2, .one (.ptr 2 0)),(3, .one (.ptr 3 0)),(5,sV false 1 (Xj pl)),(6,sV zL 2 (prE L)),(7,iV .i64 (0:Nat))],[(2, .box [.c (.sc (.bool false)), .c (.sc (.int .i64 0)), .c (.sc (.int .i64 0)), .c (.sc (.int .i64 0))]),(3, .box (cV c zl l))]⟩) ?_ ⟨0,by simp,by simpa using hR,rfl⟩ fun k s ⟨i,hik,hRi,hs⟩=>?_
  ·apply Gh.of<;>simp[Hr,Xuv,Xmm,Xml,Xbw,Dw.del]
  subst hs;clear hR;refine We fun S hS=>?_;refine Wa XP fun K J=>?_;simp[Xcq];apply J;clear J K;refine Wp.cond rfl (fun hc=>?_) (fun hc=>?_)
  ·have hi:i<L.length:=by simpa using hc
   rw[List.drop_eq_getElem_cons hi]at hRi;unfold Yb3 at hRi;have hwi:IntKind.i64.wrap ((i:Int)+1)=(i+1:Nat):=by rw[wrap_small]<;>omega
   obtain⟨h1,h2⟩:=hin (L[i]).1 (L[i]).2 (List.getElem_mem hi);have h1':(L[i]).1<pl.length:=by omega
   have h2':(L[i]).2<pl.length:=by omega
   have g1:pl.getD (L[i]).1 0=pl[(L[i]).1]:=by rw[List.getD_eq_getElem?_getD,List.getElem?_eq_getElem h1'];rfl
   have g2:pl.getD (L[i]).2 0=pl[(L[i]).2]:=by rw[List.getD_eq_getElem?_getD,List.getElem?_eq_getElem h2'];rfl
   rw[g1,g2]at hRi
   repeat(first|(refine We fun S hS=>?_)|(refine Wp.block ?_)|(refine Wp.skip ?_)|(refine hS _ ?_;clear hS S)|(clear hS S;refine hS _ ?_;clear hS S)|(clear hS S;clear hS S;refine hS _ ?_;clear hS S))
   by_cases hlt:pl[(L[i]).2]<pl[(L[i]).1]
   ·rw[if_pos hlt]at hRi;subst hRi
    ((first|refine Wa XP fun K J=>?_|refine Wb XP fun K J=>?_|refine Wc XP [] fun K J=>?_|refine Wd XP [] fun K J=>?_);simp[hi,Xcq,Zo,Xf,Xg,h1',h2',hlt];apply And.intro;(·kernel_rfl);with_reducible refine J _ ?_;clear J K)
    refine hS _ ?_;clear hS S;refine Wt (by simp) ?_;refine We fun S hS=>?_
    ((first|refine Wa XP fun K J=>?_|refine Wb XP fun K J=>?_|refine Wc XP [2] fun K J=>?_|refine Wd XP [2] fun K J=>?_);simp[sjd,Xn,Xqj,Xby,hi,Xcq,Zo];apply And.intro;(·kernel_rfl);with_reducible refine J _ ?_;clear J K)
    refine hS _ ?_;clear hS S;refine Wp.ret ?_;simp[Xby]
   ·rw[if_neg hlt]at hRi
    ((first|refine Wa XP fun K J=>?_|refine Wb XP fun K J=>?_|refine Wc XP [] fun K J=>?_|refine Wd XP [] fun K J=>?_);simp[hi,Xcq,Zo,Xf,Xg,h1',h2',hlt];apply And.intro;(·kernel_rfl);with_reducible refine J _ ?_;clear J K)
    refine hS _ ?_;clear hS S;refine Wf (by simp) ?_;refine Wp.skip ?_;refine hS _ ?_;clear hS S;refine Wb XP fun K J=>?_;simp[hwi];apply J;clear J K;refine⟨⟨[(1,cA c),(2, .one (.ptr 2 0)),(3, .one (.ptr 3 0)),(5,sV false 1 (Xj pl)),(6,sV zL 2 (prE L)),(7,iV .i64 (i+1:Nat))],[(2, .box [.c (.sc (.bool false)), .c (.sc (.int .i64 0)), .c (.sc (.int .i64 0)), .c (.sc (.int .i64 0))]),(3, .box (cV c zl l))]⟩,k - 1,?_,by omega,i+1,by omega,hRi,rfl⟩;apply Gh.of<;>simp
  ·have hi:¬i<L.length:=by simpa using hc
   rw[List.drop_eq_nil_of_le (by omega)]at hRi;unfold Yb3 at hRi;refine Wp.exit ?_;simp only[XV,Xx,if_true];clear hc hi hik;clear hS S;refine hS _ ?_;clear hS S;refine We fun S hS=>?_;refine Wa XP fun K J=>?_;simp;apply J;clear J K;refine Wp.block ?_;refine Wp.loop (fun k s=>∃n:Nat,n+k=l.length∧Yaj (l.map Ez.e) c.fr pl (Xg0 (l.map Ez.e) c.fr c.od pl 0 l.length) n k=R∧s=⟨[(1,cA c),(2, .one (.ptr 2 0)),(3, .one (.ptr 3 0)),(5,sV false 1 (Xj pl)),(8,iV .i64 n)],[(2, .box [.c (.sc (.bool false)), .c (.sc (.int .i64 0)), .c (.sc (.int .i64 0)), .c (.sc (.int .i64 0))]),(3, .box (cV c zl l))]⟩)
    l.length (s0:=⟨[(1,cA c),(2, .one (.ptr 2 0)),(3, .one (.ptr 3 0)),(5,sV false 1 (Xj pl)),(8,iV .i64 (0:Nat))],[(2, .box [.c (.sc (.bool false)), .c (.sc (.int .i64 0)), .c (.sc (.int .i64 0)), .c (.sc (.int .i64 0))]),(3, .box (cV c zl l))]⟩) ?_ ⟨0,by simp,hRi,rfl⟩ fun k s ⟨n,hnk,hRn,hs⟩=>?_
   ·apply Gh.of<;>simp
   subst hs;refine We fun S hS=>?_;refine Wa XP fun K J=>?_;simp[Xe];apply J;clear J K;refine Wp.cond rfl (fun hc=>?_) (fun hc=>?_)
   ·have hi:n<l.length:=by simpa using hc
    have hif:n<c.fr.length:=by omega
    have hwn:IntKind.i64.wrap ((n:Int)+1)=(n+1:Nat):=by rw[wrap_small]<;>omega
    obtain⟨k,rfl⟩:∃k',k=k'+1:=⟨k - 1,by omega⟩;unfold Yaj at hRn;have hge:(l.map Ez.e).getD n default=l[n].e:=by simp[List.getD_eq_getElem?_getD,List.getElem?_map,List.getElem?_eq_getElem hi]
    have hgf:c.fr.getD n 0=c.fr[n]:=by simp[List.getD_eq_getElem?_getD,List.getElem?_eq_getElem hif]
    rw[hge,hgf]at hRn;by_cases hrd:l[n].e.reads=true
    ·by_cases hsr:JH (l.map Ez.e) pl n=c.fr[n]
     ·rw[if_neg (fun q=>q.2 hsr)]at hRn
      repeat(first|((first|refine Wa XP fun K J=>?_|refine Wb XP fun K J=>?_|refine Wc XP [] fun K J=>?_|refine Wd XP [] fun K J=>?_);simp[sjd,Xn,Xum,Xb6,Yd,Xa,X8,unS,Ev.eta,hi,Xe,Xd,Ez.cv,hrd,hpl,hn,hif,Xf,Xg,hsr,hwn];first|done|(with_reducible refine J _ ?_;clear J K)|(apply And.intro;(·kernel_rfl);with_reducible refine J _ ?_;clear J K))|refine We fun S hS=>?_|refine Wp.block ?_|refine Wp.skip ?_|(apply Wt;· (simp;done))|(apply Wf;· (simp;done))|(refine hS _ ?_;clear hS S)|(clear hS S;refine hS _ ?_;clear hS S))
      refine⟨⟨[(1,cA c),(2, .one (.ptr 2 0)),(3, .one (.ptr 3 0)),(5,sV false 1 (Xj pl)),(8,iV .i64 (n+1:Nat))],[(2, .box [.c (.sc (.bool false)), .c (.sc (.int .i64 0)), .c (.sc (.int .i64 0)), .c (.sc (.int .i64 0))]),(3, .box (cV c zl l))]⟩,k,?_,by omega,n+1,by omega,hRn,rfl⟩;apply Gh.of<;>simp
     ·rw[if_pos ⟨hrd,hsr⟩]at hRn;subst hRn
      repeat(first|((first|refine Wa XP fun K J=>?_|refine Wb XP fun K J=>?_|refine Wc XP [] fun K J=>?_|refine Wd XP [] fun K J=>?_);simp[sjd,Xn,Xum,Xb6,Xqj,Xby,Yd,Xa,X8,unS,Ev.eta,hi,Xe,Xd,Ez.cv,hrd,hpl,hn,hif,Xf,Xg,hsr];first|done|(with_reducible refine J _ ?_;clear J K)|(apply And.intro;(·kernel_rfl);with_reducible refine J _ ?_;clear J K))|refine We fun S hS=>?_|refine Wp.block ?_|refine Wp.skip ?_|(apply Wt;· (simp;done))|(apply Wf;· (simp;done))|(refine hS _ ?_;clear hS S)|(clear hS S;refine hS _ ?_;clear hS S))
      refine Wp.ret ?_;simp[Xby]
    ·rw[if_neg (fun q=>hrd q.1)]at hRn;have hrd':l[n].e.reads=false:=by simpa using hrd
     refine Wp.skip ?_;refine hS _ ?_;clear hS S;refine We fun S hS=>?_;refine Wp.block ?_;refine We fun S hS=>?_;refine Wa XP fun K J=>?_;simp[sjd,Xn,Xum,Xa,X8,unS,Ev.eta,hi,Xe,Xd,Ez.cv,hrd'];apply J;clear J K;refine Wt (by simp) ?_;refine Wp.exit ?_;simp only[XV,Xx,if_true];clear hS S;refine hS _ ?_;clear hS S;refine Wb XP fun K J=>?_;simp[hwn];apply J;clear J K;refine⟨⟨[(1,cA c),(2, .one (.ptr 2 0)),(3, .one (.ptr 3 0)),(5,sV false 1 (Xj pl)),(8,iV .i64 (n+1:Nat))],[(2, .box [.c (.sc (.bool false)), .c (.sc (.int .i64 0)), .c (.sc (.int .i64 0)), .c (.sc (.int .i64 0))]),(3, .box (cV c zl l))]⟩,k,?_,by omega,n+1,by omega,hRn,rfl⟩;apply Gh.of<;>simp
   ·have hi:¬n<l.length:=by simpa using hc
    obtain rfl:k=0:=by omega
    unfold Yaj at hRn;refine Wp.exit ?_;simp only[XV,Xx,if_true];clear hc hi hnk;clear hS S;refine hS _ ?_;clear hS S;refine We fun S hS=>?_;refine Wa XP fun K J=>?_;simp;apply J;clear J K;refine Wp.block ?_;refine Wp.loop (fun k s=>∃n:Nat,n+k=l.length∧Xg0 (l.map Ez.e) c.fr c.od pl n k=R∧s=⟨[(1,cA c),(2, .one (.ptr 2 0)),(3, .one (.ptr 3 0)),(5,sV false 1 (Xj pl)),(10,iV .i64 n)],[(2, .box [.c (.sc (.bool false)), .c (.sc (.int .i64 0)), .c (.sc (.int .i64 0)), .c (.sc (.int .i64 0))]),(3, .box (cV c zl l))]⟩)
     l.length (s0:=⟨[(1,cA c),(2, .one (.ptr 2 0)),(3, .one (.ptr 3 0)),(5,sV false 1 (Xj pl)),(10,iV .i64 (0:Nat))],[(2, .box [.c (.sc (.bool false)), .c (.sc (.int .i64 0)), .c (.sc (.int .i64 0)), .c (.sc (.int .i64 0))]),(3, .box (cV c zl l))]⟩) ?_ ⟨0,by simp,hRn,rfl⟩ fun k s ⟨n,hnk,hRn,hs⟩=>?_
    ·apply Gh.of<;>simp
    subst hs;refine We fun S hS=>?_;refine Wa XP fun K J=>?_;simp[Xe];apply J;clear J K;refine Wp.cond rfl (fun hc=>?_) (fun hc=>?_)
    ·have hi:n<l.length:=by simpa using hc
     have hwn:IntKind.i64.wrap ((n:Int)+1)=(n+1:Nat):=by rw[wrap_small]<;>omega
     obtain⟨k,rfl⟩:∃k',k=k'+1:=⟨k - 1,by omega⟩;unfold Xg0 at hRn;have hge:(l.map Ez.e).getD n default=l[n].e:=by simp[List.getD_eq_getElem?_getD,List.getElem?_map,List.getElem?_eq_getElem hi]
     have hpn:=hpo n hi;rw[hge]at hRn hpn;by_cases h4:l[n].e.kind=4
     ·have bpn:=eq_true (hpn h4);by_cases hw:0≤Xct (l.map Ez.e) c.fr c.od pl n
      ·rw[if_pos ⟨h4,hw⟩]at hRn;subst hRn
       repeat(first|((first|refine Wa XP fun K J=>?_|refine Wb XP fun K J=>?_|refine Wc XP [] fun K J=>?_|refine Wd XP [] fun K J=>?_);simp[sjd,Xn,Xn2,Xqj,Xby,Yd,Xa,hi,Xe,Xd,Ez.cv,h4,bpn,hw];first|done|(with_reducible refine J _ ?_;clear J K)|(apply And.intro;(·kernel_rfl);with_reducible refine J _ ?_;clear J K))|refine We fun S hS=>?_|refine Wp.block ?_|refine Wp.skip ?_|(apply Wt;· (simp;done))|(apply Wf;· (simp;done))|(refine hS _ ?_;clear hS S)|(clear hS S;refine hS _ ?_;clear hS S))
       refine Wp.ret ?_;simp[Xby]
      ·rw[if_neg (fun q=>hw q.2)]at hRn
       repeat(first|((first|refine Wa XP fun K J=>?_|refine Wb XP fun K J=>?_|refine Wc XP [] fun K J=>?_|refine Wd XP [] fun K J=>?_);simp[sjd,Xn,Xn2,Yd,Xa,hi,Xe,Xd,Ez.cv,h4,bpn,hw,hwn];first|done|(with_reducible refine J _ ?_;clear J K)|(apply And.intro;(·kernel_rfl);with_reducible refine J _ ?_;clear J K))|refine We fun S hS=>?_|refine Wp.block ?_|refine Wp.skip ?_|(apply Wt;· (simp;done))|(apply Wf;· (simp;done))|(refine hS _ ?_;clear hS S)|(clear hS S;refine hS _ ?_;clear hS S))
       refine⟨⟨[(1,cA c),(2, .one (.ptr 2 0)),(3, .one (.ptr 3 0)),(5,sV false 1 (Xj pl)),(10,iV .i64 (n+1:Nat))],[(2, .box [.c (.sc (.bool false)), .c (.sc (.int .i64 0)), .c (.sc (.int .i64 0)), .c (.sc (.int .i64 0))]),(3, .box (cV c zl l))]⟩,k,?_,by omega,n+1,by omega,hRn,rfl⟩;apply Gh.of<;>simp
     ·rw[if_neg (fun q=>h4 q.1)]at hRn;refine Wp.skip ?_;refine hS _ ?_;clear hS S;refine We fun S hS=>?_;refine Wp.block ?_;refine We fun S hS=>?_;refine Wa XP fun K J=>?_;simp[hi,Xe,Xd,Ez.cv,h4];apply J;clear J K;refine Wt (by simp) ?_;refine Wp.exit ?_;simp only[XV,Xx,if_true];clear hS S;refine hS _ ?_;clear hS S;refine Wb XP fun K J=>?_;simp[hwn];apply J;clear J K;refine⟨⟨[(1,cA c),(2, .one (.ptr 2 0)),(3, .one (.ptr 3 0)),(5,sV false 1 (Xj pl)),(10,iV .i64 (n+1:Nat))],[(2, .box [.c (.sc (.bool false)), .c (.sc (.int .i64 0)), .c (.sc (.int .i64 0)), .c (.sc (.int .i64 0))]),(3, .box (cV c zl l))]⟩,k,?_,by omega,n+1,by omega,hRn,rfl⟩;apply Gh.of<;>simp
    ·have hi:¬n<l.length:=by simpa using hc
     obtain rfl:k=0:=by omega
     unfold Xg0 at hRn;subst hRn;refine Wp.exit ?_;simp only[XV,Xx,if_true];clear hS S;refine hS _ ?_;clear hS S;refine Wa XP fun K J=>?_;simp;apply J;clear J K;refine Wp.ret ?_;simp[Xby]
def JOk(es:List Ev)(fr od pl:List Int):Prop:=
 (∀x y,Xoq es fr x y→pl.getD x 0≤pl.getD y 0)∧(∀n,n<es.length→(es.getD n default).reads=true→JH es pl n=fr.getD n 0)∧∀n,n<es.length→(es.getD n default).kind=4→Xct es fr od pl n<0
theorem Yb2(pl:List Int){b':Bool}{x' y' z':Int}(L:List (Nat×Nat)):∃b x y z,Yb3 pl (Xby b' x' y' z') L=Xby b x y z∧(b=true↔(∀p∈L,pl.getD p.1 0≤pl.getD p.2 0)∧b'=true):=by
 induction L with
 |nil=>exact⟨b',x',y',z',rfl,by simp⟩
 |cons p r ih=>
  unfold Yb3;by_cases h:pl.getD p.2 0<pl.getD p.1 0
  ·rw[if_pos h];refine⟨false,_,_,_,rfl,?_⟩;constructor
   ·intro q;cases q
   ·intro q;have:=q.1 p List.mem_cons_self;omega
  ·rw[if_neg h];obtain⟨b,x,y,z,e,hb⟩:=ih;refine⟨b,x,y,z,e,hb.trans ?_⟩;constructor
   ·rintro⟨h1,h2⟩;refine⟨fun q hq=>?_,h2⟩;rcases List.mem_cons.1 hq with rfl|hq
    ·omega
    ·exact h1 q hq
   ·rintro⟨h1,h2⟩;exact⟨fun q hq=>h1 q (List.mem_cons_of_mem _ hq),h2⟩
theorem Yb1(es:List Ev)(fr pl:List Int){b':Bool}{x' y' z':Int}(n f:Nat):∃b x y z,Yaj es fr pl (Xby b' x' y' z') n f=Xby b x y z∧(b=true↔(∀m,n≤m→m<n+f→(es.getD m default).reads=true→JH es pl m=fr.getD m 0)∧b'=true):=by
 induction f generalizing n with
 |zero=>exact⟨b',x',y',z',rfl,⟨fun h=>⟨fun m h1 h2=>by omega,h⟩,fun h=>h.2⟩⟩
 |succ f ih=>
  unfold Yaj;by_cases h:(es.getD n default).reads=true∧JH es pl n≠fr.getD n 0
  ·rw[if_pos h];refine⟨false,_,_,_,rfl,?_⟩;constructor
   ·intro q;cases q
   ·intro q;exact absurd (q.1 n (Nat.le_refl _) (by omega) h.1) h.2
  ·rw[if_neg h];obtain⟨b,x,y,z,e,hb⟩:=ih (n+1);refine⟨b,x,y,z,e,hb.trans ?_⟩;constructor
   ·rintro⟨h1,h2⟩;refine⟨fun m m1 m2 hr=>?_,h2⟩;rcases Nat.eq_or_lt_of_le m1 with g|g
    ·subst g;exact Decidable.byContradiction fun q=>h ⟨hr,q⟩
    ·exact h1 m g (by omega) hr
   ·rintro⟨h1,h2⟩;exact⟨fun m m1 m2 hr=>h1 m (by omega) (by omega) hr,h2⟩
theorem Xye(es:List Ev)(fr od pl:List Int)(n f:Nat):∃b x y z,Xg0 es fr od pl n f=Xby b x y z∧(b=true↔∀m,n≤m→m<n+f→(es.getD m default).kind=4→Xct es fr od pl m<0):=by
 induction f generalizing n with
 |zero=>exact⟨true,0, -1, -1,rfl,⟨fun _ m h1 h2=>by omega,fun _=>rfl⟩⟩
 |succ f ih=>
  unfold Xg0;by_cases h:(es.getD n default).kind=4∧0≤Xct es fr od pl n
  ·rw[if_pos h];refine⟨false,_,_,_,rfl,?_⟩;constructor
   ·intro q;cases q
   ·intro q;have:=q n (Nat.le_refl _) (by omega) h.1;omega
  ·rw[if_neg h];obtain⟨b,x,y,z,e,hb⟩:=ih (n+1);refine⟨b,x,y,z,e,hb.trans ?_⟩;constructor
   ·intro h1 m m1 m2 hr;rcases Nat.eq_or_lt_of_le m1 with g|g
    ·subst g;rcases Int.lt_or_le (Xct es fr od pl n) 0 with q|q
     ·exact q
     ·exact absurd ⟨hr,q⟩ h
    ·exact h1 m g (by omega) hr
   ·intro h1 m m1 m2 hr;exact h1 m (by omega) (by omega) hr
theorem Yb0(c:Cz):∃b x y z,Yai c=Xby b x y z∧(b=true↔XU (Yx c)=true∧JOk (allB (Yx c)) c.fr c.od (YO c.fr.length c.od)):=by
 unfold Yai;by_cases hck:XU (Yx c)=true
 ·rw[if_pos hck];rw[HH,Xb4];generalize YO c.fr.length c.od=pl;obtain⟨b1,x1,y1,z1,e1,h1⟩:=Xye (allB (Yx c)) c.fr c.od pl 0 (allB (Yx c)).length;rw[e1];obtain⟨b2,x2,y2,z2,e2,h2⟩:=Yb1 (allB (Yx c)) c.fr pl (b':=b1) (x':=x1) (y':=y1) (z':=z1) 0 (allB (Yx c)).length;rw[e2];obtain⟨b3,x3,y3,z3,e3,h3⟩:=Yb2 pl (b':=b2) (x':=x2) (y':=y2) (z':=z2) (Xbv c);rw[e3];refine⟨b3,x3,y3,z3,rfl,?_⟩;rw[h3,h2,h1];simp only[Nat.zero_add,Nat.zero_le,true_implies,hck,true_and];unfold JOk;constructor
  ·rintro⟨g1,g2,g3⟩;exact⟨fun x y h=>g1 (x,y) (Xc6.2 h),g2,g3⟩
  ·rintro⟨g1,g2,g3⟩;exact⟨fun p h=>g1 p.1 p.2 (Xc6.1 h),g2,g3⟩
 ·rw[if_neg hck];exact⟨false,1, -1, -1,rfl,by simp[hck]⟩
def Xmi:List EV→Option (Prop×YX)
 |[v]=>(match KJ v with|some c=>some (H7 c∧Xwh c, .val (Yai c))|none=>none)
 |_=>none
def sq:Dw.Spec:=Xn 14 Xmi sjd
theorem Yez:XF Tryz.prog sq:=by
 refine Xp ⟨⟨_,Tryz.func14,rfl,rfl⟩⟩ (fun vs p r h hp=>?_) XP;unfold Xmi at h;split at h
 ·split at h
  ·rename_i c hc;simp only[Option.some.injEq,Prod.mk.injEq]at h;obtain⟨rfl,rfl⟩:=h;rw[Yk hc];exact Xlr c hp.1 hp.2
  ·cases h
 ·cases h
theorem Xxe(c:Cz)(hc0:H7 c)(hev:Xwh c):∃b:Bool,(b=true↔XU (Yx c)=true∧JOk (allB (Yx c)) c.fr c.od (YO c.fr.length c.od))∧Xq Tryz.prog 6 [Yo c] (.val (bV b)):=by
 have bok:=eq_true hc0;have bev:=eq_true hev;obtain⟨b,x,y,z,e,hb⟩:=Yb0 c;refine⟨b,hb,?_⟩;unfold Yo;refine Xi (rs:=[.tmp 2]) (Xk _) Tryz.func6 rfl Tryz.ntmps6 rfl (by simp) ?_;refine Wa Yez fun K J=>?_;simp;apply J;clear J K;refine Wa Yez fun K J=>?_;simp[sq,Xn,Xmi,Xs,bok,bev,e,Xby];apply J;clear J K;refine Wp.ret ?_;simp
theorem Xsz:List.range 2=[0,1]:=rfl
set_option maxHeartbeats 16000000 in
theorem Xli(c:Cz)(hfew:Xqn c=true):Xq Tryz.prog 9 [Yo c] (.val (Yo (Xh2 c))):=by
 obtain⟨f1,f2,f3,f4,f5,f6⟩:=Xa1 hfew;have f3':c.f.length≤1000000:=by omega
 have f5':c.od.length≤1000:=by omega
 show Xq _ _ _ (.val (.agg [.c (.sl false 2 (KY c.f)), .c (.sl (decide (c.hs.length=0)) 1 (XW (YI c.hs 0))), .c (.sl (decide (c.fr.length=0)) 1 (Xj (JG c.fr))), .c (.sl (decide (c.od.length=0)) 1 (Xj (c.od.map YQ)))]))
 unfold Yo;refine Xi (rs:=[.cell 2 26]) (Xk _) Tryz.func9 rfl Tryz.ntmps9 rfl (by simp) ?_
 repeat(first|(refine We fun S hS=>?_)|(refine Wp.block ?_)|(refine Wp.skip ?_)|(refine hS _ ?_;clear hS S)|(clear hS S;refine hS _ ?_;clear hS S)|(clear hS S;clear hS S;refine hS _ ?_;clear hS S))
 first|refine Wa Ys fun K J=>?_|refine Wb Ys fun K J=>?_|refine Wc Ys [] fun K J=>?_|refine Wd Ys [] fun K J=>?_
 simp;apply J;clear J K;refine hS _ ?_;clear hS S;refine Wp.frzBox (b:=1) (cs:=c.cv) rfl rfl ?_;change Wp _ _ _ _ (⟨[(0,Yo c),(1,cA c),(2, .one (.ptr 2 0))],[(2, .box [.c (.sl true 0 []), .c (.sl true 0 []), .c (.sl true 0 []), .c (.sl true 0 [])])]⟩:St);refine Wa Ys fun K J=>?_;simp[ss,Xn,Ycg,Yv,f3'];apply J;clear J K;refine We fun S hS=>?_;refine Wa Ys fun K J=>?_;simp;apply J;clear J K;refine Wp.block ?_;refine Wp.adoptBox (k:=3) (b:=74) (i:=1) rfl rfl rfl 50 1 ?_;refine Wp.loop (fun k s=>∃h:Nat,h+k=c.hs.length∧s=⟨[(1,cA c),(2, .one (.ptr 2 0)),(3, .one (.ptr 3 0)),(4,iV .i64 h)],[(2, .box [.c (.sl true 0 []), .c (.sl true 0 []), .c (.sl true 0 []), .c (.sl true 0 [])]),(3, .box [.c (.sl false 2 (KY c.f)), .own 74, .c (.sl true 0 []), .c (.sl true 0 [])]),(74, .row (decide (h=0)) 50 1 (XW (YI (c.hs.take h) 0)))]⟩)
  c.hs.length (s0:=⟨[(1,cA c),(2, .one (.ptr 2 0)),(3, .one (.ptr 3 0)),(4,iV .i64 (0:Nat))],[(2, .box [.c (.sl true 0 []), .c (.sl true 0 []), .c (.sl true 0 []), .c (.sl true 0 [])]),(3, .box [.c (.sl false 2 (KY c.f)), .own 74, .c (.sl true 0 []), .c (.sl true 0 [])]),(74, .row true 50 1 [])]⟩) ?_ ⟨0,by simp,by simp[YI,XW]⟩ fun kk s ⟨h,hhk,hs⟩=>?_
 ·apply Gh.of<;>simp
 subst hs;refine We fun S hS=>?_;refine Wa Ys fun K J=>?_;simp[Xo];apply J;clear J K;refine Wp.cond rfl (fun hc=>?_) (fun hc=>?_)
 ·have hh:h<c.hs.length:=by simpa using hc
  have hwh:IntKind.i64.wrap ((h:Int)+1)=(h+1:Nat):=by rw[wrap_small]<;>omega
  obtain⟨g1,g2⟩:=f6 _ (List.getElem_mem hh);refine Wp.skip ?_;refine hS _ ?_;clear hS S;refine We fun S hS=>?_;refine Wp.block ?_;refine Wa Ys fun K J=>?_;simp;apply J;clear J K;refine We fun S hS=>?_;refine Wa Ys fun K J=>?_;simp;apply J;clear J K;refine Wp.block ?_;refine Wp.loop (fun k s=>∃i:Nat,i+k=c.hs[h].2.length∧s=⟨[(1,cA c),(2, .one (.ptr 2 0)),(3, .one (.ptr 3 0)),(4,iV .i64 h),(5, .one (.own 5)),(6,iV .i64 i)],[(2, .box [.c (.sl true 0 []), .c (.sl true 0 []), .c (.sl true 0 []), .c (.sl true 0 [])]),(3, .box [.c (.sl false 2 (KY c.f)), .own 74, .c (.sl true 0 []), .c (.sl true 0 [])]),(74, .row (decide (h=0)) 50 1 (XW (YI (c.hs.take h) 0))),(5, .row (decide (i=0)) 67 14 (Yc (YB h (c.hs[h].2.take i) 0)))]⟩)
   c.hs[h].2.length (s0:=⟨[(1,cA c),(2, .one (.ptr 2 0)),(3, .one (.ptr 3 0)),(4,iV .i64 h),(5, .one (.own 5)),(6,iV .i64 (0:Nat))],[(2, .box [.c (.sl true 0 []), .c (.sl true 0 []), .c (.sl true 0 []), .c (.sl true 0 [])]),(3, .box [.c (.sl false 2 (KY c.f)), .own 74, .c (.sl true 0 []), .c (.sl true 0 [])]),(74, .row (decide (h=0)) 50 1 (XW (YI (c.hs.take h) 0))),(5, .row true 67 14 [])]⟩) ?_ ⟨0,by simp,by simp[YB,Yc]⟩ fun k s ⟨i,hik,hs⟩=>?_
  ·refine .trans (.adopt (t:=5) (b:=5) rfl rfl 67 14) ?_;apply Gh.of<;>simp
  subst hs;refine We fun S hS=>?_;refine Wa Ys fun K J=>?_;simp[hh,Xo,Xz,Xe];apply J;clear J K;refine Wp.cond rfl (fun hc=>?_) (fun hc=>?_)
  ·have hi:i<c.hs[h].2.length:=by simpa using hc
   have hwi:IntKind.i64.wrap ((i:Int)+1)=(i+1:Nat):=by rw[wrap_small]<;>omega
   have hw2:IntKind.i64.wrap (2*(i:Int))=(2*i:Nat):=by rw[wrap_small]<;>omega
   have hw3:IntKind.i64.wrap (2*(i:Int)+1)=(2*i+1:Nat):=by rw[wrap_small]<;>omega
   obtain⟨q1,q2,q3⟩:=g2 _ (List.getElem_mem hi);have r1:c.hs[h].2[i].e.da.length≤1000000:=by omega
   have r2:c.hs[h].2[i].e.dd.length≤1000000:=by omega
   have r3:c.hs[h].2[i].e.dw.length≤1000000:=by omega
   have s1:c.hs[h].2[i].e.da.length≤1000:=by omega
   have s2:c.hs[h].2[i].e.dd.length≤1000:=by omega
   have s3:c.hs[h].2[i].e.dw.length≤1000:=by omega
   repeat(first|(refine We fun S hS=>?_)|(refine Wp.block ?_)|(refine Wp.skip ?_)|(refine hS _ ?_;clear hS S)|(clear hS S;refine hS _ ?_;clear hS S)|(clear hS S;clear hS S;refine hS _ ?_;clear hS S))
   first|refine Wa Ys fun K J=>?_|refine Wb Ys fun K J=>?_|refine Wc Ys [] fun K J=>?_|refine Wd Ys [] fun K J=>?_
   simp[hh,Xo,Xz,Xe,Xd,hi,Ez.cv,ss,Xn,Yce,X8,unS,Xa,Ev.eta,r1,r2,r3,evV];apply J;clear J K
   repeat(first|(refine We fun S hS=>?_)|(refine Wp.block ?_)|(refine Wp.skip ?_)|(refine hS _ ?_;clear hS S)|(clear hS S;refine hS _ ?_;clear hS S)|(clear hS S;clear hS S;refine hS _ ?_;clear hS S))
   first|refine Wa Ys fun K J=>?_|refine Wb Ys fun K J=>?_|refine Wc Ys [] fun K J=>?_|refine Wd Ys [] fun K J=>?_
   simp[hw2];apply J;clear J K;refine hS _ ?_;clear hS S;refine Wp.gh (s':=⟨[(1,cA c),(2, .one (.ptr 2 0)),(3, .one (.ptr 3 0)),(4,iV .i64 h),(5, .one (.own 5)),(6,iV .i64 i),(7, .one (.ptr 7 0))],[(2, .box [.c (.sl true 0 []), .c (.sl true 0 []), .c (.sl true 0 []), .c (.sl true 0 [])]),(3, .box [.c (.sl false 2 (KY c.f)), .own 74, .c (.sl true 0 []), .c (.sl true 0 [])]),(74, .row (decide (h=0)) 50 1 (XW (YI (c.hs.take h) 0))),(5, .row (decide (i=0)) 67 14 (Yc (YB h (c.hs[h].2.take i) 0))),(7, .box [.c (.sc (.int .i64 c.hs[h].2[i].e.hart)), .c (.sc (.int .i64 (2*i:Nat))), .c (.sc (.int .i64 c.hs[h].2[i].e.kind)), .c (.sc (.int .u64 c.hs[h].2[i].e.addr)), .c (.sc (.int .u64 c.hs[h].2[i].e.load)), .c (.sc (.int .u64 c.hs[h].2[i].e.store)), .c (.sc (.bool c.hs[h].2[i].e.aq)), .c (.sc (.bool c.hs[h].2[i].e.rl)), .c (.sc (.int .i64 c.hs[h].2[i].e.pred)), .c (.sc (.int .i64 c.hs[h].2[i].e.succ)), .c (.sc (.int .i64 (YQ c.hs[h].2[i].e.pair))), .c (.sl false 1 (Xj c.hs[h].2[i].e.da)), .c (.sl false 1 (Xj c.hs[h].2[i].e.dd)), .c (.sl false 1 (Xj c.hs[h].2[i].e.dw))])]⟩) ?_ ?_
   ·apply Gh.of<;>simp
    try rfl
   repeat(first|(refine We fun S hS=>?_)|(refine Wp.block ?_)|(refine Wp.skip ?_)|(refine hS _ ?_;clear hS S)|(clear hS S;refine hS _ ?_;clear hS S)|(clear hS S;clear hS S;refine hS _ ?_;clear hS S))
   ((first|refine Wa Ys fun K J=>?_|refine Wb Ys fun K J=>?_|refine Wc Ys [7] fun K J=>?_|refine Wd Ys [7] fun K J=>?_);simp[ss,Xn,Xn1,Xa,s1,s2,s3];apply And.intro;(·kernel_rfl);with_reducible refine J _ ?_;clear J K)
   refine hS _ ?_;clear hS S;refine Wp.gh (s':=⟨[(1,cA c),(2, .one (.ptr 2 0)),(3, .one (.ptr 3 0)),(4,iV .i64 h),(5, .one (.own 5)),(6,iV .i64 i),(7, .one (.ptr 7 0))],[(2, .box [.c (.sl true 0 []), .c (.sl true 0 []), .c (.sl true 0 []), .c (.sl true 0 [])]),(3, .box [.c (.sl false 2 (KY c.f)), .own 74, .c (.sl true 0 []), .c (.sl true 0 [])]),(74, .row (decide (h=0)) 50 1 (XW (YI (c.hs.take h) 0))),(5, .row (decide (i=0)) 67 14 (Yc (YB h (c.hs[h].2.take i) 0))),(7, .box [.c (.sc (.int .i64 c.hs[h].2[i].e.hart)), .c (.sc (.int .i64 (2*i:Nat))), .c (.sc (.int .i64 c.hs[h].2[i].e.kind)), .c (.sc (.int .u64 c.hs[h].2[i].e.addr)), .c (.sc (.int .u64 c.hs[h].2[i].e.load)), .c (.sc (.int .u64 c.hs[h].2[i].e.store)), .c (.sc (.bool c.hs[h].2[i].e.aq)), .c (.sc (.bool c.hs[h].2[i].e.rl)), .c (.sc (.int .i64 c.hs[h].2[i].e.pred)), .c (.sc (.int .i64 c.hs[h].2[i].e.succ)), .c (.sc (.int .i64 (YQ c.hs[h].2[i].e.pair))), .c (.sl (decide (c.hs[h].2[i].e.da.length=0)) 1 (Xj (c.hs[h].2[i].e.da.map YQ))), .c (.sl (decide (c.hs[h].2[i].e.dd.length=0)) 1 (Xj (c.hs[h].2[i].e.dd.map YQ))), .c (.sl (decide (c.hs[h].2[i].e.dw.length=0)) 1 (Xj (c.hs[h].2[i].e.dw.map YQ)))])]⟩) ?_ ?_
   ·apply Gh.of<;>simp
   have hlm:(YB h (c.hs[h].2.take i) 0).length≤60:=by rw[Xan];simp;omega
   have hl1:(YB h (c.hs[h].2.take i) 0).length+2≤maxLen:=by unfold maxLen;omega
   have hl2:((YB h (c.hs[h].2.take i) 0).length+2)*152≤140737488355328:=by omega
   have htk:Yc (YB h (c.hs[h].2.take (i+1)) 0)=Yc (YB h (c.hs[h].2.take i) 0)++[(Xw1 c.hs[h].2[i] i).cv,(Xn7 h i).cv]:=by rw[Xlj hi];unfold Yc;rw[List.map_append];rfl
   repeat(first|(refine We fun S hS=>?_)|(refine Wp.block ?_)|(refine Wp.skip ?_)|(refine hS _ ?_;clear hS S)|(clear hS S;refine hS _ ?_;clear hS S)|(clear hS S;clear hS S;refine hS _ ?_;clear hS S))
   first|refine Wp.rkF (Xk _) Ys [] [(67,1)] rfl fun K J=>?_|refine Wp.rlF (Xk _) Ys [] [(67,1)] rfl fun K J=>?_
   simp[Xw3,Xyk,Yfe,Yhi,Ybq,Yfo,hw2,hw3,Xe,hl1,hl2,Xsz];apply J;clear J K
   repeat(first|(refine We fun S hS=>?_)|(refine Wp.block ?_)|(refine Wp.skip ?_)|(refine hS _ ?_;clear hS S)|(clear hS S;refine hS _ ?_;clear hS S)|(clear hS S;clear hS S;refine hS _ ?_;clear hS S))
   first|refine Wa Ys fun K J=>?_|refine Wb Ys fun K J=>?_|refine Wc Ys [] fun K J=>?_|refine Wd Ys [] fun K J=>?_
   simp[hwi];apply J;clear J K;refine⟨⟨[(1,cA c),(2, .one (.ptr 2 0)),(3, .one (.ptr 3 0)),(4,iV .i64 h),(5, .one (.own 5)),(6,iV .i64 (i+1:Nat))],[(2, .box [.c (.sl true 0 []), .c (.sl true 0 []), .c (.sl true 0 []), .c (.sl true 0 [])]),(3, .box [.c (.sl false 2 (KY c.f)), .own 74, .c (.sl true 0 []), .c (.sl true 0 [])]),(74, .row (decide (h=0)) 50 1 (XW (YI (c.hs.take h) 0))),(5, .row (decide (i+1=0)) 67 14 (Yc (YB h (c.hs[h].2.take (i+1)) 0)))]⟩,k - 1,?_,by omega,i+1,by omega,rfl⟩;rw[htk];apply Gh.of<;>simp[Ez.cv,Xw1,Xn7,Xj]
   trace_state
  ·have hi:¬i<c.hs[h].2.length:=by simpa using hc
   refine Wp.exit ?_;simp only[XV,Xx,if_true]
   repeat(first|(refine We fun S hS=>?_)|(refine Wp.block ?_)|(refine Wp.skip ?_)|(refine hS _ ?_;clear hS S)|(clear hS S;refine hS _ ?_;clear hS S)|(clear hS S;clear hS S;refine hS _ ?_;clear hS S))
   have hik0:i=c.hs[h].2.length:=by omega
   have hz:decide (i=0)=decide (c.hs[h].2.length=0):=by rw[hik0]
   rw[List.take_of_length_le (show c.hs[h].2.length≤i by omega),hz];clear hc hi hik hik0 hz;refine Wp.gh (.frz (b:=5) rfl) ?_;have hlm:(YI (c.hs.take h) 0).length≤9:=by rw[Xcj];simp;omega
   have hl1:(YI (c.hs.take h) 0).length+1≤maxLen:=by unfold maxLen;omega
   have hl2:((YI (c.hs.take h) 0).length+1)*24≤140737488355328:=by omega
   have htk:XW (YI (c.hs.take (h+1)) 0)=XW (YI (c.hs.take h) 0)++[[.sl (decide (c.hs[h].2.length=0)) 14 (Yc (YB h c.hs[h].2 0))]]:=by rw[Xo3 hh];unfold XW;rw[List.map_append];rfl
   first|refine Wa Ys fun K J=>?_|refine Wb Ys fun K J=>?_|refine Wc Ys [] fun K J=>?_|refine Wd Ys [] fun K J=>?_
   simp[Xo,hl1,hl2,Hr,Xuv,Xmm,Xml];apply J;clear J K
   repeat(first|(refine We fun S hS=>?_)|(refine Wp.block ?_)|(refine Wp.skip ?_)|(refine hS _ ?_;clear hS S)|(clear hS S;refine hS _ ?_;clear hS S)|(clear hS S;clear hS S;refine hS _ ?_;clear hS S))
   first|refine Wa Ys fun K J=>?_|refine Wb Ys fun K J=>?_|refine Wc Ys [] fun K J=>?_|refine Wd Ys [] fun K J=>?_
   simp[hwh];apply J;clear J K;refine⟨⟨[(1,cA c),(2, .one (.ptr 2 0)),(3, .one (.ptr 3 0)),(4,iV .i64 (h+1:Nat))],[(2, .box [.c (.sl true 0 []), .c (.sl true 0 []), .c (.sl true 0 []), .c (.sl true 0 [])]),(3, .box [.c (.sl false 2 (KY c.f)), .own 74, .c (.sl true 0 []), .c (.sl true 0 [])]),(74, .row (decide (h+1=0)) 50 1 (XW (YI (c.hs.take (h+1)) 0)))]⟩,kk - 1,?_,by omega,h+1,by omega,rfl⟩;rw[htk];apply Gh.of<;>simp
 ·have hh:¬h<c.hs.length:=by simpa using hc
  refine Wp.exit ?_;simp only[XV,Xx,if_true];have hh0:h=c.hs.length:=by omega
  have hz:decide (h=0)=decide (c.hs.length=0):=by rw[hh0]
  rw[List.take_of_length_le (show c.hs.length≤h by omega),hz];clear hc hh hhk hh0 hz;clear hS S;refine hS _ ?_;clear hS S;refine We fun S hS=>?_;refine Wa Ys fun K J=>?_;simp;apply J;clear J K;refine Wp.block ?_;refine Wp.adoptBox (k:=3) (b:=96) (i:=2) rfl rfl rfl 3 1 ?_;refine Wp.loop (fun k s=>∃n:Nat,n+k=c.fr.length∧s=⟨[(1,cA c),(2, .one (.ptr 2 0)),(3, .one (.ptr 3 0)),(8,iV .i64 n)],[(2, .box [.c (.sl true 0 []), .c (.sl true 0 []), .c (.sl true 0 []), .c (.sl true 0 [])]),(3, .box [.c (.sl false 2 (KY c.f)), .own 74, .own 96, .c (.sl true 0 [])]),(74, .row (decide (c.hs.length=0)) 50 1 (XW (YI c.hs 0))),(96, .row (decide (n=0)) 3 1 (Xj (JG (c.fr.take n))))]⟩)
   c.fr.length (s0:=⟨[(1,cA c),(2, .one (.ptr 2 0)),(3, .one (.ptr 3 0)),(8,iV .i64 (0:Nat))],[(2, .box [.c (.sl true 0 []), .c (.sl true 0 []), .c (.sl true 0 []), .c (.sl true 0 [])]),(3, .box [.c (.sl false 2 (KY c.f)), .own 74, .own 96, .c (.sl true 0 [])]),(74, .row (decide (c.hs.length=0)) 50 1 (XW (YI c.hs 0))),(96, .row true 3 1 [])]⟩) ?_ ⟨0,by simp,by simp[JG,Xj]⟩ fun k s ⟨n,hnk,hs⟩=>?_
  ·apply Gh.of<;>simp
  subst hs;refine We fun S hS=>?_;refine Wa Ys fun K J=>?_;simp[Xf];apply J;clear J K;refine Wp.cond rfl (fun hc=>?_) (fun hc=>?_)
  ·have hn:n<c.fr.length:=by simpa using hc
   have hwn:IntKind.i64.wrap ((n:Int)+1)=(n+1:Nat):=by rw[wrap_small]<;>omega
   have hlm:(JG (c.fr.take n)).length≤120:=by rw[Xif];simp;omega
   have hl1:(JG (c.fr.take n)).length+2≤maxLen:=by unfold maxLen;omega
   have hl2:((JG (c.fr.take n)).length+2)*8≤140737488355328:=by omega
   have htk:Xj (JG (c.fr.take (n+1)))=Xj (JG (c.fr.take n))++[[.sc (.int .i64 (if c.fr[n]<0 then c.fr[n]else YQ c.fr[n]))],[.sc (.int .i64 (-1))]]:=by rw[Xo4 hn];unfold Xj;rw[List.map_append];rfl
   by_cases hw0:c.fr[n]<0
   ·have hw0':¬(0≤c.fr[n]):=by omega
    rw[if_pos hw0]at htk;refine Wp.skip ?_;refine hS _ ?_;clear hS S;refine We fun S hS=>?_;refine Wp.block ?_;refine Wa Ys fun K J=>?_;simp[hn,Xf,Xg];apply J;clear J K;refine We fun S hS=>?_;refine Wa Ys fun K J=>?_;simp[hw0'];apply J;clear J K;refine Wf (by simp) ?_;refine Wp.skip ?_;refine hS _ ?_;clear hS S;refine Wb Ys fun K J=>?_;simp[Xf,hl1,hl2,Xsz];apply J;clear J K;refine hS _ ?_;clear hS S;refine Wb Ys fun K J=>?_;simp[hwn];apply J;clear J K;refine⟨⟨[(1,cA c),(2, .one (.ptr 2 0)),(3, .one (.ptr 3 0)),(8,iV .i64 (n+1:Nat))],[(2, .box [.c (.sl true 0 []), .c (.sl true 0 []), .c (.sl true 0 []), .c (.sl true 0 [])]),(3, .box [.c (.sl false 2 (KY c.f)), .own 74, .own 96, .c (.sl true 0 [])]),(74, .row (decide (c.hs.length=0)) 50 1 (XW (YI c.hs 0))),(96, .row (decide (n+1=0)) 3 1 (Xj (JG (c.fr.take (n+1)))))]⟩,k - 1,?_,by omega,n+1,by omega,rfl⟩;rw[htk];apply Gh.of<;>simp
   ·have hw0':0≤c.fr[n]:=by omega
    rw[if_neg hw0]at htk;refine Wp.skip ?_;refine hS _ ?_;clear hS S;refine We fun S hS=>?_;refine Wp.block ?_;refine Wa Ys fun K J=>?_;simp[hn,Xf,Xg];apply J;clear J K;refine We fun S hS=>?_;refine Wa Ys fun K J=>?_;simp[hw0'];apply J;clear J K;refine Wt (by simp) ?_;refine Wb Ys fun K J=>?_;simp;apply J;clear J K;refine hS _ ?_;clear hS S;refine Wb Ys fun K J=>?_;simp[Xf,hl1,hl2,Xsz];apply J;clear J K;refine hS _ ?_;clear hS S;refine Wb Ys fun K J=>?_;simp[hwn];apply J;clear J K;refine⟨⟨[(1,cA c),(2, .one (.ptr 2 0)),(3, .one (.ptr 3 0)),(8,iV .i64 (n+1:Nat))],[(2, .box [.c (.sl true 0 []), .c (.sl true 0 []), .c (.sl true 0 []), .c (.sl true 0 [])]),(3, .box [.c (.sl false 2 (KY c.f)), .own 74, .own 96, .c (.sl true 0 [])]),(74, .row (decide (c.hs.length=0)) 50 1 (XW (YI c.hs 0))),(96, .row (decide (n+1=0)) 3 1 (Xj (JG (c.fr.take (n+1)))))]⟩,k - 1,?_,by omega,n+1,by omega,rfl⟩;rw[htk];apply Gh.of<;>simp[YQ]
  ·have hn:¬n<c.fr.length:=by simpa using hc
   refine Wp.exit ?_;simp only[XV,Xx,if_true];have hn0:n=c.fr.length:=by omega
   have hz:decide (n=0)=decide (c.fr.length=0):=by rw[hn0]
   rw[List.take_of_length_le (show c.fr.length≤n by omega),hz];clear hc hn hnk hn0 hz
   repeat(first|(refine We fun S hS=>?_)|(refine Wp.block ?_)|(refine Wp.skip ?_)|(refine hS _ ?_;clear hS S)|(clear hS S;refine hS _ ?_;clear hS S)|(clear hS S;clear hS S;refine hS _ ?_;clear hS S))
   refine Wp.gh (.trans (.frz (b:=74) rfl) (.frz (b:=96) rfl)) ?_
   first|refine Wa Ys fun K J=>?_|refine Wb Ys fun K J=>?_|refine Wc Ys [] fun K J=>?_|refine Wd Ys [] fun K J=>?_
   simp[ss,Xn,Xn1,Xa,f5',Hr,Xuv,Xmm,Xml];apply J;clear J K;refine hS _ ?_;clear hS S;refine Wa Ys fun K J=>?_;simp;apply J;clear J K;refine Wp.ret ?_;simp
   trace_state
def Yiv:List EV→Option (Prop×YX)
 |[v]=>(match KJ v with|some c=>some (H7 c∧Y3 c=true, .val (sV (decide ((Xr c.hs).length=0)) 14 (Yc (Xr c.hs))))|none=>none)
 |_=>none
def Xmg:List EV→Option (Prop×YX)
 |[.one (.c (.sl _ 1 [[.sc (.int .i64 (-1))]])), .one (.c (.sc (.int .i64 n)))]=>some (1≤n∧n≤8, .row false 3 1 (Xj (List.replicate n.toNat (-1))))
 |_=>none
def sp:Dw.Spec:=Xn 19 Yiv (Xn 20 Xmg sz1)
theorem YC:XF Tryz.prog sp:=by
 refine Xp ⟨⟨_,Tryz.func19,rfl,rfl⟩⟩ (fun vs p r h hp=>?_) (Xp ⟨⟨_,Tryz.func20,rfl,rfl⟩⟩ (fun vs p r h hp=>?_) V7)
 ·unfold Yiv at h;split at h
  ·split at h
   ·rename_i c hc;simp only[Option.some.injEq,Prod.mk.injEq]at h;obtain⟨rfl,rfl⟩:=h;rw[Yk hc];exact Xzs c hp.1 hp.2
   ·cases h
  ·cases h
 ·unfold Xmg at h;split at h
  ·rename_i n;simp only[Option.some.injEq,Prod.mk.injEq]at h;obtain⟨rfl,rfl⟩:=h;obtain⟨m,rfl⟩:∃m:Nat,n=m:=⟨n.toNat,by omega⟩;exact Xlw _ m (by omega) (by omega)
  ·cases h
theorem Xt8(l:List Int)(i:Nat)(v:Int):(Xj l).set i [.sc (.int .i64 v)]=Xj (l.set i v):=by simp[Xj,List.map_set]
set_option maxHeartbeats 16000000 in
theorem Xpn(c:Cz)(hc0:H7 c):Xq Tryz.prog 8 [Yo c] (.val (bV (Jd c))):=by
 have bok:=eq_true hc0;generalize hR:Jd c=R;cases hck:Y3 c
 ·obtain rfl:R=false:=by rw[←hR,Jd,hck];rfl
  unfold Yo;refine Xi (rs:=[.tmp 2]) (Xk _) Tryz.func8 rfl Tryz.ntmps8 rfl (by simp) ?_;refine Wa YC fun K J=>?_;simp;apply J;clear J K;refine We fun S hS=>?_;refine Wa YC fun K J=>?_;simp[sp,sz1,Xn,Xdg,Xs,bok,hck,Yt];apply J;clear J K;refine Wt (by simp) ?_;refine Wa YC fun K J=>?_;simp;apply J;clear J K;refine Wp.ret ?_;simp
 have hlen:1≤c.hs.length∧c.hs.length≤8:=by
  have:=hck;unfold Y3 at this;simp only[Bool.and_eq_true,decide_eq_true_eq]at this;exact this.2.1
 have hlen1:(1:Int)≤c.hs.length:=by omega
 have hlen8:(c.hs.length:Int)≤8:=by omega
 have hfl:c.fr.length=(Xr c.hs).length:=by
  have:=hck;unfold Y3 at this;simp only[Bool.and_eq_true,decide_eq_true_eq]at this;exact this.2.2.2.1
 have hod:∀k∈c.od,0≤k∧k<(Xr c.hs).length:=by
  have:=hck;unfold Y3 at this;simp only[Bool.and_eq_true,decide_eq_true_eq]at this;have:=Xl2 this.2.2.2.2.2;simpa[Kk]using this
 have hht:∀x∈Xr c.hs,0≤x.e.hart∧x.e.hart<c.hs.length:=fun x hx=>Xqi hck hx;have hodl:=hc0.od;have hall:=hc0.all;unfold Yo;refine Xi (rs:=[.tmp 2]) (Xk _) Tryz.func8 rfl Tryz.ntmps8 rfl (by simp) ?_
 repeat(first|(refine We fun S hS=>?_)|(refine Wp.block ?_)|(refine Wp.skip ?_)|(refine hS _ ?_;clear hS S)|(clear hS S;refine hS _ ?_;clear hS S)|(clear hS S;clear hS S;refine hS _ ?_;clear hS S))
 first|refine Wa YC fun K J=>?_|refine Wb YC fun K J=>?_|refine Wc YC [] fun K J=>?_|refine Wd YC [] fun K J=>?_
 simp;apply J;clear J K;refine hS _ ?_;clear hS S;refine Wp.frzBox (b:=1) (cs:=c.cv) rfl rfl ?_;change Wp _ _ _ _ (⟨[(0,Yo c),(1,cA c),(2,bV false)],[]⟩:St);refine We fun S hS=>?_;refine Wa YC fun K J=>?_;simp[sp,sz1,Xn,Xdg,Xs,bok,hck,Yt];apply J;clear J K;refine Wf (by simp) ?_;refine Wp.skip ?_;refine hS _ ?_;clear hS S;refine Wa YC fun K J=>?_;simp[sp,Xn,Yiv,Xs,bok,hck];apply J;clear J K;refine We fun S hS=>?_
 repeat(first|(refine We fun S hS=>?_)|(refine Wp.block ?_)|(refine Wp.skip ?_)|(refine hS _ ?_;clear hS S)|(clear hS S;refine hS _ ?_;clear hS S)|(clear hS S;clear hS S;refine hS _ ?_;clear hS S))
 first|refine Wp.rkF (Xk _) YC [16] [] rfl fun K J=>?_|refine Wp.rlF (Xk _) YC [16] [] rfl fun K J=>?_
 simp[Xw3,Xyk,Yfe,Yfo,Hr,Xuv,Xml,Dw.del,sp,Xn,Xmg,Xo,hlen1,hlen8];apply J;clear J K;refine hS _ ?_;clear hS S;refine Wa YC fun K J=>?_;simp;apply J;clear J K;refine We fun S hS=>?_;refine Wa YC fun K J=>?_;simp[Xf];apply J;clear J K;refine Wp.block ?_;generalize hal:Xr c.hs=all at*
 generalize hzz:decide (all=[])=zz at*
 rw[Jd,hck,Bool.true_and,hal]at hR;refine Wp.loop (fun k s=>∃(j:Nat) (at_:List Int) (by_:List (Int×Int)),j+k=c.od.length∧at_.length=c.hs.length∧KN (all.map Ez.e) c.fr (c.od.drop j) at_ by_=R∧
   s=⟨[(1,cA c),(2,bV false),(3,sV zz 14 (Yc all)),(4, .one (.own 20)),(5, .one (.map 21)),(23,sV c.z4 1 (Xj c.od)),(24,iV .i64 c.od.length),(25,iV .i64 j)],[(20, .row false 3 1 (Xj at_)),(21, .map (Xgt by_))]⟩)
  c.od.length (s0:=⟨[(1,cA c),(2,bV false),(3,sV zz 14 (Yc all)),(4, .one (.own 20)),(5, .one (.map 21)),(23,sV c.z4 1 (Xj c.od)),(24,iV .i64 c.od.length),(25,iV .i64 (0:Nat))],[(20, .row false 3 1 (Xj (List.replicate c.hs.length (-1)))),(21, .map [])]⟩) ?_ ⟨0,List.replicate c.hs.length (-1),[],by simp,by simp,by simpa using hR,rfl⟩ fun k s ⟨j,at_,by_,hjk,hal_,hr,hs⟩=>?_
 ·apply Gh.of<;>simp
 subst hs;refine Wa YC fun K J=>?_;simp;apply J;clear J K;refine We fun S hS=>?_;refine Wp.cond rfl (fun hc=>?_) (fun hc=>?_)
 ·have hj:j<c.od.length:=by simpa using hc
  have hw:IntKind.i64.wrap ((j:Int)+1)=(j+1:Nat):=by rw[wrap_small]<;>omega
  rw[List.drop_eq_getElem_cons hj]at hr;unfold KN at hr;obtain⟨o1,o2⟩:=hod _ (List.getElem_mem hj);have o3:(c.od[j]).toNat<all.length:=by omega
  have o4:(c.od[j]).toNat<c.fr.length:=by omega
  have o5:c.od[j]<(c.fr.length:Int):=by omega
  have hge:(all.map Ez.e).getD (c.od[j]).toNat default=all[(c.od[j]).toNat].e:=by simp[List.getD_eq_getElem?_getD,List.getElem?_map,List.getElem?_eq_getElem o3]
  have hgf:c.fr.getD (c.od[j]).toNat 0=c.fr[(c.od[j]).toNat]:=by simp[List.getD_eq_getElem?_getD,List.getElem?_eq_getElem o4]
  obtain⟨t1,t2⟩:=hht _ (List.getElem_mem o3);simp only[hge,hgf]at hr;refine Wp.skip ?_;refine hS _ ?_;clear hS S;refine We fun S hS=>?_;refine Wp.block ?_;refine Wa YC fun K J=>?_;simp[hj,Xf,Xg];apply J;clear J K;refine Wa YC fun K J=>?_;simp[Xe,Xd,o1,o2,o3,Ez.cv];apply J;clear J K;refine We fun S hS=>?_;refine We fun S hS=>?_;generalize hx:all[(c.od[j]).toNat]=x at*
  have t3:x.e.hart.toNat<at_.length:=by omega
  have t4:x.e.hart<(at_.length:Int):=by omega
  have hga:at_.getD x.e.hart.toNat 0=at_[x.e.hart.toNat]:=by simp[List.getD_eq_getElem?_getD,List.getElem?_eq_getElem t3]
  rw[hga]at hr;by_cases k1:x.e.pos<at_[x.e.hart.toNat]
  ·rw[if_pos k1]at hr
   ((first|refine Wa YC fun K J=>?_|refine Wb YC fun K J=>?_|refine Wc YC [] fun K J=>?_|refine Wd YC [] fun K J=>?_);simp[t1,t3,t4,Xf,Xg,k1];apply And.intro;(·kernel_rfl);with_reducible refine J _ ?_;clear J K)
   refine hS _ ?_;clear hS S;refine Wt (by simp) ?_;refine Wa YC fun K J=>?_;simp;apply J;clear J K;refine Wp.ret ?_;simp;exact hr.symm
  rw[if_neg k1]at hr
  ((first|refine Wa YC fun K J=>?_|refine Wb YC fun K J=>?_|refine Wc YC [] fun K J=>?_|refine Wd YC [] fun K J=>?_);simp[t1,t3,t4,Xf,Xg,k1];apply And.intro;(·kernel_rfl);with_reducible refine J _ ?_;clear J K)
  refine hS _ ?_;clear hS S;refine Wf (by simp) ?_;refine Wp.skip ?_;refine hS _ ?_;clear hS S;refine Wa YC fun K J=>?_;simp[t1,t3,t4,Xf,Xg,Xt8];apply J;clear J K;refine We fun S hS=>?_;have hmc:(Kj x.e.addr by_ 0=none∧Hl x.e.addr by_= -1)∨∃i' v',Kj x.e.addr by_ 0=some (i',v')∧Hl x.e.addr by_=v':=by
   unfold Hl;cases Kj x.e.addr by_ 0 with
   |none=>exact .inl ⟨rfl,rfl⟩
   |some q=>exact .inr ⟨q.1,q.2,rfl,rfl⟩
  rcases hmc with⟨hm,hg⟩|⟨i',v',hm,hg⟩
  all_goals
   rw[hg]at hr;cases hrd:XD x.e.kind
   ·have hrd':¬(x.e.reads=true):=by unfold Ev.reads;rw[hrd];simp
    rw[if_neg (fun q=>hrd' q.1)]at hr;cases hwr:Xu x.e.kind
    ·have hwr':¬(x.e.writes=true):=by unfold Ev.writes;rw[hwr];simp
     rw[if_neg hwr']at hr
     repeat(first|((first|refine Wa YC fun K J=>?_|refine Wb YC fun K J=>?_|refine Wc YC [] fun K J=>?_|refine Wd YC [] fun K J=>?_);simp[Vz,hm,sp,sz1,sy,sw2,sw1,sv2,sv1,sp6,sp5,sp4,sp3,sp2,Xn,JB,VX,X8,unS,Xa,Ev.eta,hrd,hwr,hw];first|done|(with_reducible refine J _ ?_;clear J K)|(apply And.intro;(·kernel_rfl);with_reducible refine J _ ?_;clear J K))|refine We fun S hS=>?_|refine Wp.block ?_|refine Wp.skip ?_|(apply Wt;· (simp;done))|(apply Wf;· (simp;done))|(refine hS _ ?_;clear hS S)|(clear hS S;refine hS _ ?_;clear hS S))
     refine⟨⟨[(1,cA c),(2,bV false),(3,sV zz 14 (Yc all)),(4, .one (.own 20)),(5, .one (.map 21)),(23,sV c.z4 1 (Xj c.od)),(24,iV .i64 c.od.length),(25,iV .i64 (j+1:Nat))],[(20, .row false 3 1 (Xj (at_.set x.e.hart.toNat x.e.pos))),(21, .map (Xgt by_))]⟩,k - 1,?_,by omega,j+1,at_.set x.e.hart.toNat x.e.pos,by_,by omega,by simpa using hal_,hr,rfl⟩;apply Gh.of<;>simp
    ·have hwr':x.e.writes=true:=by unfold Ev.writes;exact hwr
     rw[if_pos hwr']at hr
     repeat(first|((first|refine Wa YC fun K J=>?_|refine Wb YC fun K J=>?_|refine Wc YC [] fun K J=>?_|refine Wd YC [] fun K J=>?_);simp[Vz,hm,sp,sz1,sy,sw2,sw1,sv2,sv1,sp6,sp5,sp4,sp3,sp2,Xn,JB,VX,X8,unS,Xa,Ev.eta,hrd,hwr,hw];first|done|(with_reducible refine J _ ?_;clear J K)|(apply And.intro;(·kernel_rfl);with_reducible refine J _ ?_;clear J K))|refine We fun S hS=>?_|refine Wp.block ?_|refine Wp.skip ?_|(apply Wt;· (simp;done))|(apply Wf;· (simp;done))|(refine hS _ ?_;clear hS S)|(clear hS S;refine hS _ ?_;clear hS S))
     refine⟨⟨[(1,cA c),(2,bV false),(3,sV zz 14 (Yc all)),(4, .one (.own 20)),(5, .one (.map 21)),(23,sV c.z4 1 (Xj c.od)),(24,iV .i64 c.od.length),(25,iV .i64 (j+1:Nat))],[(20, .row false 3 1 (Xj (at_.set x.e.hart.toNat x.e.pos))),(21, .map (Xgt (HY x.e.addr c.od[j] by_)))]⟩,k - 1,?_,by omega,j+1,at_.set x.e.hart.toNat x.e.pos,HY x.e.addr c.od[j] by_,by omega,by simpa using hal_,hr,rfl⟩;apply Gh.of<;>simp;simp[HY,hm,Xgt,List.map_set]
   ·have hrd':x.e.reads=true:=by unfold Ev.reads;exact hrd
    by_cases k2:Hl x.e.addr by_=c.fr[(c.od[j]).toNat]
    ·rw[hg]at k2;rw[if_neg (fun q=>q.2 k2)]at hr;have qk2:=eq_true k2;have qk3:=eq_true k2.symm;cases hwr:Xu x.e.kind
     ·have hwr':¬(x.e.writes=true):=by unfold Ev.writes;rw[hwr];simp
      rw[if_neg hwr']at hr
      repeat(first|((first|refine Wa YC fun K J=>?_|refine Wb YC fun K J=>?_|refine Wc YC [] fun K J=>?_|refine Wd YC [] fun K J=>?_);simp[Vz,hm,sp,sz1,sy,sw2,sw1,sv2,sv1,sp6,sp5,sp4,sp3,sp2,Xn,JB,VX,X8,unS,Xa,Ev.eta,hrd,hwr,hw,qk2,o1,o4,o5,Xf,Xg];first|done|(with_reducible refine J _ ?_;clear J K)|(apply And.intro;(·kernel_rfl);with_reducible refine J _ ?_;clear J K))|refine We fun S hS=>?_|refine Wp.block ?_|refine Wp.skip ?_|(apply Wt;· (simp;done))|(apply Wf;· (simp;done))|(refine hS _ ?_;clear hS S)|(clear hS S;refine hS _ ?_;clear hS S))
      refine⟨⟨[(1,cA c),(2,bV false),(3,sV zz 14 (Yc all)),(4, .one (.own 20)),(5, .one (.map 21)),(23,sV c.z4 1 (Xj c.od)),(24,iV .i64 c.od.length),(25,iV .i64 (j+1:Nat))],[(20, .row false 3 1 (Xj (at_.set x.e.hart.toNat x.e.pos))),(21, .map (Xgt by_))]⟩,k - 1,?_,by omega,j+1,at_.set x.e.hart.toNat x.e.pos,by_,by omega,by simpa using hal_,hr,rfl⟩;apply Gh.of<;>simp
     ·have hwr':x.e.writes=true:=by unfold Ev.writes;exact hwr
      rw[if_pos hwr']at hr
      repeat(first|((first|refine Wa YC fun K J=>?_|refine Wb YC fun K J=>?_|refine Wc YC [] fun K J=>?_|refine Wd YC [] fun K J=>?_);simp[Vz,hm,sp,sz1,sy,sw2,sw1,sv2,sv1,sp6,sp5,sp4,sp3,sp2,Xn,JB,VX,X8,unS,Xa,Ev.eta,hrd,hwr,hw,qk2,o1,o4,o5,Xf,Xg];first|done|(with_reducible refine J _ ?_;clear J K)|(apply And.intro;(·kernel_rfl);with_reducible refine J _ ?_;clear J K))|refine We fun S hS=>?_|refine Wp.block ?_|refine Wp.skip ?_|(apply Wt;· (simp;done))|(apply Wf;· (simp;done))|(refine hS _ ?_;clear hS S)|(clear hS S;refine hS _ ?_;clear hS S))
      refine⟨⟨[(1,cA c),(2,bV false),(3,sV zz 14 (Yc all)),(4, .one (.own 20)),(5, .one (.map 21)),(23,sV c.z4 1 (Xj c.od)),(24,iV .i64 c.od.length),(25,iV .i64 (j+1:Nat))],[(20, .row false 3 1 (Xj (at_.set x.e.hart.toNat x.e.pos))),(21, .map (Xgt (HY x.e.addr c.od[j] by_)))]⟩,k - 1,?_,by omega,j+1,at_.set x.e.hart.toNat x.e.pos,HY x.e.addr c.od[j] by_,by omega,by simpa using hal_,hr,rfl⟩;apply Gh.of<;>simp;simp[HY,hm,Xgt,List.map_set]
    ·rw[hg]at k2;rw[if_pos ⟨hrd',k2⟩]at hr;have qk2:=eq_false k2;have qk3:=eq_false (Ne.symm k2)
     repeat(first|((first|refine Wa YC fun K J=>?_|refine Wb YC fun K J=>?_|refine Wc YC [] fun K J=>?_|refine Wd YC [] fun K J=>?_);simp[Vz,hm,sp,sz1,sy,sw2,sw1,sv2,sv1,sp6,sp5,sp4,sp3,sp2,Xn,JB,X8,unS,Xa,Ev.eta,hrd,qk2,o1,o4,o5,Xf,Xg];first|done|(with_reducible refine J _ ?_;clear J K)|(apply And.intro;(·kernel_rfl);with_reducible refine J _ ?_;clear J K))|refine We fun S hS=>?_|refine Wp.block ?_|refine Wp.skip ?_|(apply Wt;· (simp;done))|(apply Wf;· (simp;done))|(refine hS _ ?_;clear hS S)|(clear hS S;refine hS _ ?_;clear hS S))
     refine Wp.ret ?_;simp;exact hr.symm
 ·have hj:¬j<c.od.length:=by simpa using hc
  refine Wp.exit ?_;simp only[XV,Xx,if_true];rw[List.drop_eq_nil_of_le (by omega)]at hr;clear hS S;refine hS _ ?_;clear hS S;refine Wa YC fun K J=>?_;simp;apply J;clear J K;refine Wp.ret ?_;simp;exact hr.symm
end Go.Proofs.YtjhfcfpkgfpoiaaGreatDoor
namespace Go.Proofs.YtjhfcfpkgfpoiaaGreatDoor
open Go Go.RowKit Dw
set_option maxRecDepth 100000
open Classical in
noncomputable def okB(c:Cz):Bool:=decide (XU (Yx c)=true∧JOk (allB (Yx c)) c.fr c.od (YO c.fr.length c.od))
open Classical in
noncomputable def Xep(c:Cz):Bool:=decide (XU (Yx c)=true∧Xhz (allB (Yx c)) c.fr)
theorem Xma(c:Cz):okB c=true↔XU (Yx c)=true∧JOk (allB (Yx c)) c.fr c.od (YO c.fr.length c.od):=by simp[okB]
theorem ZZ(c:Cz):Xep c=true↔XU (Yx c)=true∧Xhz (allB (Yx c)) c.fr:=by simp[Xep]
theorem Xx1(c:Cz)(hc0:H7 c)(hev:Xwh c):Xq Tryz.prog 6 [Yo c] (.val (bV (okB c))):=by
 obtain⟨b,hb,h⟩:=Xxe c hc0 hev;have:okB c=b:=by
  rw[Bool.eq_iff_iff,Xma];exact hb.symm
 rw[this];exact h
theorem Xqk(c:Cz)(hc0:H7 c)(hev:Xwh c):Xq Tryz.prog 7 [Yo c] (.val (bV (Xep c))):=by
 obtain⟨R,hr,h⟩:=Xpe c hc0 hev (fun h=>by rw[Xb4,Z8 h];exact(GV.of h).fl);have:Xep c=R:=by
  rw[Bool.eq_iff_iff,ZZ,hr,HH]
 rw[this];exact h
def Xup:List EV→Option (Prop×YX)
 |[]=>some (Xq Tryz.prog 4 [] (.val (bV true)), .val (bV true))
 |_=>none
def Xhd:List EV→Option (Prop×YX)
 |[v, .one (.c (.sc (.int .i64 n)))]=>(match KJ v with|some c=>some (n=30, .val (bV (Xqn c)))|none=>none)
 |_=>none
noncomputable def Yec:List EV→Option (Prop×YX)
 |[v]=>(match KJ v with|some c=>some (H7 c∧Xwh c, .val (bV (okB c)))|none=>none)
 |_=>none
noncomputable def Xn3:List EV→Option (Prop×YX)
 |[v]=>(match KJ v with|some c=>some (H7 c∧Xwh c, .val (bV (Xep c)))|none=>none)
 |_=>none
def Xax:List EV→Option (Prop×YX)
 |[v]=>(match KJ v with|some c=>some (H7 c, .val (bV (Jd c)))|none=>none)
 |_=>none
def Ycc:List EV→Option (Prop×YX)
 |[v]=>(match KJ v with|some c=>some (Xqn c=true, .val (Yo (Xh2 c)))|none=>none)
 |_=>none
noncomputable def sr:Dw.Spec:=Xn 4 Xup (Xn 5 Xhd (Xn 6 Yec (Xn 7 Xn3 (Xn 8 Xax (Xn 9 Ycc sj)))))
theorem Jc:XF Tryz.prog sr:=by
 refine Xp ⟨⟨_,Tryz.func4,rfl,rfl⟩⟩ (fun vs p r h hp=>?_) (Xp ⟨⟨_,Tryz.func5,rfl,rfl⟩⟩ (fun vs p r h hp=>?_) (Xp ⟨⟨_,Tryz.func6,rfl,rfl⟩⟩ (fun vs p r h hp=>?_) (Xp ⟨⟨_,Tryz.func7,rfl,rfl⟩⟩ (fun vs p r h hp=>?_) (Xp ⟨⟨_,Tryz.func8,rfl,rfl⟩⟩ (fun vs p r h hp=>?_) (Xp ⟨⟨_,Tryz.func9,rfl,rfl⟩⟩ (fun vs p r h hp=>?_) Ha)))))
 ·unfold Xup at h;split at h
  ·simp only[Option.some.injEq,Prod.mk.injEq]at h;obtain⟨rfl,rfl⟩:=h;exact hp
  ·cases h
 ·unfold Xhd at h;split at h
  ·split at h
   ·rename_i c hc;simp only[Option.some.injEq,Prod.mk.injEq]at h;obtain⟨rfl,rfl⟩:=h;subst hp;rw[Yk hc];exact Xen c
   ·cases h
  ·cases h
 ·unfold Yec at h;split at h
  ·split at h
   ·rename_i c hc;simp only[Option.some.injEq,Prod.mk.injEq]at h;obtain⟨rfl,rfl⟩:=h;rw[Yk hc];exact Xx1 c hp.1 hp.2
   ·cases h
  ·cases h
 ·unfold Xn3 at h;split at h
  ·split at h
   ·rename_i c hc;simp only[Option.some.injEq,Prod.mk.injEq]at h;obtain⟨rfl,rfl⟩:=h;rw[Yk hc];exact Xqk c hp.1 hp.2
   ·cases h
  ·cases h
 ·unfold Xax at h;split at h
  ·split at h
   ·rename_i c hc;simp only[Option.some.injEq,Prod.mk.injEq]at h;obtain⟨rfl,rfl⟩:=h;rw[Yk hc];exact Xpn c hp
   ·cases h
  ·cases h
 ·unfold Ycc at h;split at h
  ·split at h
   ·rename_i c hc;simp only[Option.some.injEq,Prod.mk.injEq]at h;obtain⟨rfl,rfl⟩:=h;rw[Yk hc];exact Xli c hp
   ·cases h
  ·cases h
end Go.Proofs.YtjhfcfpkgfpoiaaGreatDoor
