/- What the program and the document compute, as plain data, and laws of it. No condition. -/
import Derived.BigQuiet
import Derived.BigRegion
import Derived.ChangeAlike
import Derived.Deep.AppendLies
import Derived.Deep.CutBlock
import Derived.Deep.CutRange
import Derived.Deep.DeepCutAuto
import Derived.Deep.QuietTactic
import Derived.Deep.RegionHeld3
import Derived.Deep.RegionLaw
import Derived.IntWalk
import Derived.KernelRfl
import Derived.Laws.CopyOwn
import Derived.Laws.MakeOwn
import Derived.Laws.OwnMore
import Derived.Lib.Hide
import Derived.Maps.AppendAt
import Derived.Maps.OwnOps
import Derived.Maps.Views
import Derived.OwnWalk
import Derived.RegionTactic
import Derived.StillTailTactics
import Derived.WalkKit
import Derived.WalkLawsBesides
import Derived.WalkSpells
import Derived.WideMake
import Derived.Test.YtjhfcfpkgfpoiaaGreatDoorDe
import Derived.Test.YtjhfcfpkgfpoiaaGreatDoorProg
import Derived.Test.YtjhfcfpkgfpoiaaGreatDoorWf
import Derived.Test.YtjhfcfpkgfpoiaaGreatDoorWg
import Derived.Test.YtjhfcfpkgfpoiaaGreatDoorWh
import Derived.Test.YtjhfcfpkgfpoiaaGreatDoorWi
import Derived.Test.YtjhfcfpkgfpoiaaGreatDoorWj
import Derived.Test.YtjhfcfpkgfpoiaaGreatDoorWk
import Derived.Test.YtjhfcfpkgfpoiaaGreatDoorWl
namespace Go.Proofs.YtjhfcfpkgfpoiaaGreatDoor
open Go Go.RowKit Dw
set_option maxRecDepth 100000
attribute [local simp] cA cB cV Xbs Kb Xaf opE KM evO cEV_int cEV_bool cEV_str cEV_nil cEV_fn Dw.look Dw.put Dw.setD Dw.Xhq shI Xho Xhp unE GM X5 Jj Gx Je YJ XA Jf Hn Kq KD JD Kd K3 K0 Xd6 KK GF VD Xbr Xec Vr Gw Xgy Y4 Xf6 Yq Xf3 Xh1 Yw Xfi K9 chunks Dw.unC Xd7 JK YL Vc Vv KW YZ KP Xbw refs YS Vd over Xd5 eqC List.getElem?_cons_zero List.getElem?_cons_succ List.all_cons List.all_nil ty3 D3 ty4 D4 ty9 D9 Xkn Xkv D22 Xkm Xku D23 Xkl Xkt D24 Xib J7 J6 J5 J4 Xk0 ty31 D31 Xkk D38 Xkj Xks D44 Xki Xkr D50 Xia J3 fo57_1 fo57_2 fo57_3 Xkz eq57 Xh9 J2 J1 Xky Xh8 J0 JZ JY Xkx Xh7 JX JW JV JU JT JS JR JQ JP JO KI KH Xkw ty71 Xkq D71 Xkh JN JM bu75 eq75 ty97 D97 HW H3 Xk5 G9 H2 Xkg ty112 HZ D112 HV Xk4 G8 Xk3 G7 H1 Xkf G0 fo231_0 fo231_1 fo231_2 fo231_3 fo231_4 fo231_5 fo231_6 fo231_7 fo231_8 fo231_9 fo231_10 H4 H0 H6 H5 init0 init1 init2 init3 init4 init5 init6 Jz Xb9 Xdm rdL rdG rdO Xbu Zg Ge G4 Dw.del KB XV Xx YP Xex J9 Xe0 Kl erefs_agg_c XJ XT XI XQ inH Gt Gu VT Kt
def VZ:List EV→Option (Prop×YX)
 |[.one (.c (.sl _ 2 els))]=>(match unC els with|some xs=>some (xs.length≤1000000, .val (bV (VC xs)))|none=>none)
 |_=>none
def Xjt:List EV→Option (Prop×YX)
 |[.one (.c (.sc (.int .i64 h))), .one (.c (.sl _ 14 els))]=>(match Xow els with|some l=>some (l.length≤1000∧∀x∈l,GL x.e, .val (iV .i64 (Xqo (Xkp h (l.map Ez.e)))))|none=>none)
 |_=>none
def Hq:List EV→Option (Prop×YX)
 |[v]=>(match KJ v with|some c=>some (H7 c, .val (sV (decide ((Xr c.hs).length=0)) 14 (Yc (Jk c.hs))))|none=>none)
 |_=>none
def ZY:List EV→Option (Prop×YX)
 |[v, .one (.c (.sl _ 14 els)), .one (.c (.sc (.int .i64 n)))]=>(match KJ v,Xow els with
  |some c,some l=>some (0≤n∧n<l.length∧c.fr.length=l.length∧l.length≤1000∧c.f.length≤1000000, .val (bV (GK c.f c.fr (l.map Ez.e) n.toNat)))
  |_,_=>none)
 |_=>none
def sm2:Dw.Spec:=Xn 26 VZ (Xn 27 Xjt (Xn 28 Hq (Xn 29 ZY (Xn 16 (Kw Ev.mem) Xao))))
theorem XB:XF Tryz.prog sm2:=by
 refine Xp ⟨⟨_,Tryz.func26,rfl,rfl⟩⟩ (fun vs p r h hp=>?_) (Xp ⟨⟨_,Tryz.func27,rfl,rfl⟩⟩ (fun vs p r h hp=>?_) (Xp ⟨⟨_,Tryz.func28,rfl,rfl⟩⟩ (fun vs p r h hp=>?_) (Xp ⟨⟨_,Tryz.func29,rfl,rfl⟩⟩ (fun vs p r h hp=>?_) (Xp ⟨⟨_,Tryz.func16,rfl,rfl⟩⟩ (Xay ZG) Xb))))
 ·unfold VZ at h;split at h
  ·split at h
   ·rename_i xs hx;simp only[Option.some.injEq,Prod.mk.injEq]at h;obtain⟨rfl,rfl⟩:=h;rw[Xbb hx];exact Xly _ _ hp
   ·cases h
  ·cases h
 ·unfold Xjt at h;split at h
  ·split at h
   ·rename_i l hl;simp only[Option.some.injEq,Prod.mk.injEq]at h;obtain⟨rfl,rfl⟩:=h;rw[G6 hl];exact Xst _ _ _ hp.1 hp.2
   ·cases h
  ·cases h
 ·unfold Hq at h;split at h
  ·split at h
   ·rename_i c hc;simp only[Option.some.injEq,Prod.mk.injEq]at h;obtain⟨rfl,rfl⟩:=h;rw[Yk hc];exact KZ (Xe7 c hp)
   ·cases h
  ·cases h
 ·unfold ZY at h;split at h
  ·split at h
   ·rename_i n _ _ c l hc hl;simp only[Option.some.injEq,Prod.mk.injEq]at h;obtain⟨rfl,rfl⟩:=h;obtain⟨h1,h2,h3,h4,h5⟩:=hp;obtain⟨n,rfl⟩:∃m:Nat,n=m:=⟨n.toNat,by omega⟩;rw[Yk hc,G6 hl];exact Xpf _ _ _ _ (by omega) h3 h4 h5
   ·cases h
  ·cases h
def ZD(n:Nat)(od:List Int):List Bool:=(List.range n).map fun k:Nat=>decide ((k:Int)∈od)
theorem Xsm(n:Nat)(od:List Int):(ZD n od).length=n:=by simp[ZD]
theorem Xw4{n:Nat}{od:List Int}{i:Nat}(h:i<(ZD n od).length):(ZD n od)[i]=decide ((i:Int)∈od):=by simp[ZD]
theorem Xsl(n:Nat):ZD n []=List.replicate n false:=by
 unfold ZD;apply List.ext_getElem (by simp);intro i h1 h2;simp
theorem Xsk{n:Nat}{od:List Int}{i:Nat}(hi:i<od.length)(h0:0≤od[i]):(ZD n (od.take i)).set (od[i]).toNat true=ZD n (od.take (i+1)):=by
 unfold ZD;apply List.ext_getElem (by simp);intro k h1 h2;rw[List.getElem_set];simp only[List.getElem_map,List.getElem_range,List.take_succ_eq_append_getElem hi,List.mem_append,List.mem_singleton];by_cases hk:(od[i]).toNat=k
 ·rw[if_pos hk,eq_comm,decide_eq_true_eq];exact .inr (by omega)
 ·rw[if_neg hk];have:¬(k:Int)=od[i]:=by omega
  simp[this]
theorem Xij{od:List Int}{i:Nat}(hi:i<od.length):od[i]∈od.take i↔∃j,j<i∧od.getD j 0=od.getD i 0:=by
 rw[List.mem_take_iff_getElem];constructor
 ·rintro⟨j,hj,e⟩;exact⟨j,by omega,by rw[Xd4 (by omega),Xd4 hi];exact e⟩
 ·rintro⟨j,hj,e⟩;rw[Xd4 (by omega),Xd4 hi]at e;exact⟨j,by omega,e⟩
set_option maxHeartbeats 16000000 in
theorem Xlx(c:Cz)(hc:H7 c):Xq Tryz.prog 10 [Yo c] (.val (iV .i64 (Yt (XU (Yx c))))):=by
 have b1:=hc.f;have b2:=hc.hs;have b3:=hc.all;have b4:=hc.fr;have b5:=hc.od;have b6:=hc.ev;have bok:=eq_true hc;have b1':c.f.length≤1000000:=by omega
 obtain⟨R,hR⟩:∃R,Yt (XU (Yx c))=R:=⟨_,rfl⟩;rw[hR];obtain⟨es,hes⟩:∃es,(Xr c.hs).map Ez.e=es:=⟨_,rfl⟩;have hfl:(Yx c).harts.flatten=es:=by rw[←hes];unfold Xr Yx;simp only[List.map_flatten,List.map_map];rfl
 have hel:es.length=(Xr c.hs).length:=by rw[←hes,List.length_map]
 have hFl:(Jk c.hs).map Ez.e=es:=by rw[Xux,hes]
 have hFn:(Jk c.hs).length=es.length:=by rw[←hFl,List.length_map]
 have hck:XU (Yx c)=(VC c.f&&(decide (1≤c.hs.length∧c.hs.length≤8)&&((List.range c.hs.length).all (fun i=>Xkp i ((c.hs.map fun p=>p.2.map Ez.e).getD i []))&&(decide (c.fr.length=es.length)&&((List.range es.length).all (GK c.f c.fr es)&&((List.range c.od.length).all (Xar es c.od)&&decide (c.od.length=X4 es))))))):=by
  unfold XU;rw[hfl];simp only[Yx,List.length_map];rfl
 have hgr:∀i (h:i<c.hs.length),(c.hs.map fun p=>p.2.map Ez.e).getD i []=c.hs[i].2.map Ez.e:=fun i h=>by simp[List.getD_eq_getElem?_getD,List.getElem?_map,List.getElem?_eq_getElem h]
 have no:XU (Yx c)=false→(2:Int)=R:=fun h=>by rw[←hR,h];rfl
 unfold Yo;refine Xi (rs:=[.tmp 2]) (Xk _) Tryz.func10 rfl Tryz.ntmps10 rfl (by simp) ?_
 repeat(first|(refine We fun S hS=>?_)|(refine Wp.block ?_)|(refine Wp.skip ?_)|(refine hS _ ?_;clear hS S)|(clear hS S;refine hS _ ?_;clear hS S)|(clear hS S;clear hS S;refine hS _ ?_;clear hS S))
 first|refine Wa XB fun K J=>?_|refine Wb XB fun K J=>?_|refine Wc XB [] fun K J=>?_|refine Wd XB [] fun K J=>?_
 simp;apply J;clear J K;refine hS _ ?_;clear hS S;refine Wp.frzBox (b:=1) (cs:=c.cv) rfl rfl ?_;change Wp _ _ _ _ (⟨[(0,Yo c),(1,cA c),(2,iV .i64 0)],[]⟩:St);cases e1:VC c.f
 ·refine We fun S hS=>?_;refine Wa XB fun K J=>?_;simp[sm2,Xn,VZ,Yv,b1',e1];apply J;clear J K;refine Wt (by simp) ?_;refine Wa XB fun K J=>?_;simp;apply J;clear J K;refine Wp.ret ?_;simp;exact no (by rw[hck,e1];rfl)
 by_cases g1:(c.hs.length:Int)<1
 ·refine We fun S hS=>?_;refine Wa XB fun K J=>?_;simp[sm2,Xn,VZ,Yv,Xo,b1',e1,g1];apply J;clear J K;refine Wt (by simp) ?_;refine Wa XB fun K J=>?_;simp;apply J;clear J K;refine Wp.ret ?_;simp;exact no (by rw[hck,decide_eq_false (fun q=>by omega)];simp)
 by_cases g2:8<(c.hs.length:Int)
 ·refine We fun S hS=>?_;refine Wa XB fun K J=>?_;simp[sm2,Xn,VZ,Yv,Xo,b1',e1,g1,g2];apply J;clear J K;refine Wt (by simp) ?_;refine Wa XB fun K J=>?_;simp;apply J;clear J K;refine Wp.ret ?_;simp;exact no (by rw[hck,decide_eq_false (fun q=>by omega)];simp)
 rw[e1,decide_eq_true (by omega:1≤c.hs.length∧c.hs.length≤8),Bool.true_and,Bool.true_and]at hck;refine We fun S hS=>?_;refine Wa XB fun K J=>?_;simp[sm2,Xn,VZ,Yv,Xo,b1',e1,g1,g2];apply J;clear J K;refine Wf (by simp) ?_;refine Wp.skip ?_;refine hS _ ?_;clear hS S;refine Wa XB fun K J=>?_;simp;apply J;clear J K;refine We fun S hS=>?_;refine Wa XB fun K J=>?_;simp;apply J;clear J K;refine Wp.block ?_;refine Wp.loop (fun k s=>∃i:Nat,i+k=c.hs.length∧(∀j,j<i→Xkp (j:Nat) ((c.hs.map fun p=>p.2.map Ez.e).getD j [])=true)∧s=⟨[(1,cA c),(3,iV .i64 (Xr (c.hs.take i)).length),(4,iV .i64 i)],[]⟩)
  c.hs.length (s0:=⟨[(1,cA c),(3,iV .i64 (0:Nat)),(4,iV .i64 (0:Nat))],[]⟩) ?_ ⟨0,by simp,by simp,by simp[Xr]⟩ fun k s ⟨i,hik,hr,hs⟩=>?_
 ·apply Gh.of<;>simp
 subst hs;by_cases hi:i<c.hs.length
 ·have hw:IntKind.i64.wrap ((i:Int)+1)=(i+1:Nat):=by rw[wrap_small]<;>omega
  have hle:=VM c.hs (i+1);have hst:=congrArg List.length (Kz hi);rw[List.length_append]at hst;have hrl:c.hs[i].2.length≤1000:=by omega
  have hws:IntKind.i64.wrap (((Xr (c.hs.take i)).length:Int)+c.hs[i].2.length)=((Xr (c.hs.take (i+1))).length:Nat):=by rw[wrap_small]<;>omega
  have hbig:(4096<((Xr (c.hs.take (i+1))).length:Int))=False:=eq_false (by omega);have hbig':(4096<(Xr (c.hs.take (i+1))).length)=False:=eq_false (by omega);have hev:=eq_true (fun x hx=>(b6 _ (List.getElem_mem hi) x hx).2:∀x∈c.hs[i].2,GL x.e);cases er:Xkp (i:Nat) (c.hs[i].2.map Ez.e)
  ·refine We fun S hS=>?_;refine Wa XB fun K J=>?_;simp[Xo,hi];apply J;clear J K;refine Wt (by simp) ?_;refine Wp.skip ?_;refine hS _ ?_;clear hS S;refine We fun S hS=>?_;refine Wp.block ?_;refine Wa XB fun K J=>?_;simp[Xo,Xz,Xe,hi,hws];apply J;clear J K;refine Wa XB fun K J=>?_;simp[sm2,Xn,Xjt,Ya,Xo,Xz,hi,hrl,hbig,hev,er,Xqo];apply J;clear J K;refine Wt (by simp) ?_;refine Wa XB fun K J=>?_;simp;apply J;clear J K;refine Wp.ret ?_;simp;refine no ?_;rw[hck,all_false hi (by rw[hgr i hi];exact er)];rfl
  ·repeat(first|((first|refine Wa XB fun K J=>?_|refine Wb XB fun K J=>?_|refine Wc XB [] fun K J=>?_|refine Wd XB [] fun K J=>?_);simp[sm2,Xn,Xjt,Ya,Xo,Xz,Xe,hi,hrl,hws,hbig,hev,er,Xqo,hw];first|done|(with_reducible refine J _ ?_;clear J K)|(apply And.intro;(·kernel_rfl);with_reducible refine J _ ?_;clear J K))|refine We fun S hS=>?_|refine Wp.block ?_|refine Wp.skip ?_|(apply Wt;· (simp;done))|(apply Wf;· (simp;done))|(refine hS _ ?_;clear hS S)|(clear hS S;refine hS _ ?_;clear hS S))
   refine⟨⟨[(1,cA c),(3,iV .i64 (Xr (c.hs.take (i+1))).length),(4,iV .i64 (i+1:Nat))],[]⟩,k - 1,?_,by omega,i+1,by omega,Y7 hr (by rw[hgr i hi];exact er),rfl⟩;apply Gh.of<;>simp
 obtain rfl:i=c.hs.length:=by omega
 rw[all_true hr,Bool.true_and]at hck;refine We fun S hS=>?_;refine Wa XB fun K J=>?_;simp[Xo];apply J;clear J K;refine Wf (by simp) ?_;refine Wp.exit ?_;simp only[XV,Xx,if_true]
 try rw[List.take_length]
 rw[←hel];clear hr hik;by_cases hf:c.fr.length=es.length
 case neg=>
  have qf:((c.fr.length:Int)=es.length)=False:=eq_false (by omega);have qf':=eq_false hf;clear hS S;refine hS _ ?_;clear hS S;refine Wa XB fun K J=>?_;simp[sm2,Xn,Hq,Xs,bok];apply J;clear J K;refine We fun S hS=>?_;refine Wa XB fun K J=>?_;simp[Xf,qf];apply J;clear J K;refine Wt (by simp) ?_;refine Wa XB fun K J=>?_;simp;apply J;clear J K;refine Wp.ret ?_;simp;exact no (by rw[hck,decide_eq_false hf];rfl)
 have qf:((c.fr.length:Int)=es.length)=True:=eq_true (by omega);rw[decide_eq_true hf,Bool.true_and]at hck;clear hS S;refine hS _ ?_;clear hS S;refine Wa XB fun K J=>?_;simp[sm2,Xn,Hq,Xs,bok];apply J;clear J K;refine We fun S hS=>?_;refine Wa XB fun K J=>?_;simp[Xf,hf];apply J;clear J K;refine Wf (by simp) ?_;refine Wp.skip ?_;refine hS _ ?_;clear hS S;refine Wa XB fun K J=>?_;simp;apply J;clear J K;refine We fun S hS=>?_;refine Wa XB fun K J=>?_;simp;apply J;clear J K;refine Wp.block ?_;obtain⟨zz,hzz⟩:∃z,decide ((Xr c.hs).length=0)=z:=⟨_,rfl⟩;refine Wp.loop (fun k s=>∃i:Nat,i+k=es.length∧(∀j,j<i→GK c.f c.fr es j=true)∧s=⟨[(1,cA c),(3,iV .i64 es.length),(5,sV zz 14 (Yc (Jk c.hs))),(6,iV .i64 (X4 (es.take i))),(7,iV .i64 i)],[]⟩)
  es.length (s0:=⟨[(1,cA c),(3,iV .i64 es.length),(5,sV zz 14 (Yc (Jk c.hs))),(6,iV .i64 (0:Nat)),(7,iV .i64 (0:Nat))],[]⟩) ?_ ⟨0,by simp,by simp,by simp[X4]⟩ fun k s ⟨i,hik,hr,hs⟩=>?_
 ·rw[←hzz];apply Gh.of<;>simp
 subst hs;by_cases hi:i<es.length
 ·have hw:IntKind.i64.wrap ((i:Int)+1)=(i+1:Nat):=by rw[wrap_small]<;>omega
  have hiF:i<(Jk c.hs).length:=by omega
  have hfF:c.fr.length=(Jk c.hs).length:=by omega
  have hlF:(Jk c.hs).length≤1000:=by omega
  obtain⟨x,hx⟩:∃x,(Jk c.hs)[i]=x:=⟨_,rfl⟩;have hgx:es.getD i default=x.e:=by rw[←hFl,Xeo hiF,hx]
  have hms:=Xgs hi;have hml:=Xc7 es i;have hml2:=Xc7 es (i+1);rw[hgx]at hms;cases ef:GK c.f c.fr es i
  ·refine We fun S hS=>?_;refine Wa XB fun K J=>?_;simp[hi];apply J;clear J K;refine Wt (by simp) ?_;refine Wp.skip ?_;refine hS _ ?_;clear hS S;refine We fun S hS=>?_;refine Wp.block ?_;refine We fun S hS=>?_;refine Wa XB fun K J=>?_;simp[sm2,Xn,ZY,Ya,Xs,hiF,hfF,hlF,b1',hFl,ef];apply J;clear J K;refine Wt (by simp) ?_;refine Wa XB fun K J=>?_;simp;apply J;clear J K;refine Wp.ret ?_;simp;exact no (by rw[hck,all_false hi ef];rfl)
  cases em:x.e.mem
  ·rw[em]at hms;have hms:X4 (es.take (i+1))=X4 (es.take i):=by simpa using hms
   repeat(first|((first|refine Wa XB fun K J=>?_|refine Wb XB fun K J=>?_|refine Wc XB [] fun K J=>?_|refine Wd XB [] fun K J=>?_);simp[sm2,Xn,ZY,Kw,Ya,Xs,X8,unS,Xa,Ev.eta',Xe,Xd,hi,hiF,hfF,hlF,b1',hFl,ef,Ez.cv,hx,em,hw];first|done|(with_reducible refine J _ ?_;clear J K)|(apply And.intro;(·kernel_rfl);with_reducible refine J _ ?_;clear J K))|refine We fun S hS=>?_|refine Wp.block ?_|refine Wp.skip ?_|(apply Wt;· (simp;done))|(apply Wf;· (simp;done))|(refine hS _ ?_;clear hS S)|(clear hS S;refine hS _ ?_;clear hS S))
   refine⟨⟨[(1,cA c),(3,iV .i64 es.length),(5,sV zz 14 (Yc (Jk c.hs))),(6,iV .i64 (X4 (es.take (i+1)))),(7,iV .i64 (i+1:Nat))],[]⟩,k - 1,?_,by omega,i+1,by omega,Y7 hr ef,rfl⟩;rw[hms];apply Gh.of<;>simp
  ·rw[em,if_pos rfl]at hms;have hwc:IntKind.i64.wrap ((X4 (es.take i):Int)+1)=(X4 (es.take (i+1)):Nat):=by rw[wrap_small]<;>omega
   repeat(first|((first|refine Wa XB fun K J=>?_|refine Wb XB fun K J=>?_|refine Wc XB [] fun K J=>?_|refine Wd XB [] fun K J=>?_);simp[sm2,Xn,ZY,Kw,Ya,Xs,X8,unS,Xa,Ev.eta',Xe,Xd,hi,hiF,hfF,hlF,b1',hFl,ef,Ez.cv,hx,em,hwc,hw];first|done|(with_reducible refine J _ ?_;clear J K)|(apply And.intro;(·kernel_rfl);with_reducible refine J _ ?_;clear J K))|refine We fun S hS=>?_|refine Wp.block ?_|refine Wp.skip ?_|(apply Wt;· (simp;done))|(apply Wf;· (simp;done))|(refine hS _ ?_;clear hS S)|(clear hS S;refine hS _ ?_;clear hS S))
   refine⟨⟨[(1,cA c),(3,iV .i64 es.length),(5,sV zz 14 (Yc (Jk c.hs))),(6,iV .i64 (X4 (es.take (i+1)))),(7,iV .i64 (i+1:Nat))],[]⟩,k - 1,?_,by omega,i+1,by omega,Y7 hr ef,rfl⟩;apply Gh.of<;>simp
 obtain rfl:i=es.length:=by omega
 rw[all_true hr,Bool.true_and]at hck;refine We fun S hS=>?_;refine Wa XB fun K J=>?_;simp;apply J;clear J K;refine Wf (by simp) ?_;refine Wp.exit ?_;simp only[XV,Xx,if_true]
 try rw[List.take_length]
 clear hr hik;have hb1:(es.length:Int)≤1000000:=by omega
 have hb2:(es.length:Int)≤281474976710656:=by omega
 clear hS S;refine hS _ ?_;clear hS S;refine Wa XB fun K J=>?_;simp[hb1,hb2,Xfo];apply J;clear J K;refine We fun S hS=>?_;refine Wa XB fun K J=>?_;simp;apply J;clear J K;refine Wp.block ?_;refine Wp.loop (fun k s=>∃i:Nat,i+k=c.od.length∧(∀j,j<i→Xar es c.od j=true)∧s=⟨[(1,cA c),(3,iV .i64 es.length),(5,sV zz 14 (Yc (Jk c.hs))),(6,iV .i64 (X4 es)),(8, .one (.own 79)),(9,iV .i64 i)],[(79, .row false 4 1 (KQ (ZD es.length (c.od.take i))))]⟩)
  c.od.length (s0:=⟨[(1,cA c),(3,iV .i64 es.length),(5,sV zz 14 (Yc (Jk c.hs))),(6,iV .i64 (X4 es)),(8, .one (.own 79)),(9,iV .i64 (0:Nat))],[(79, .row false 4 1 (KQ (List.replicate es.length false)))]⟩) ?_ ⟨0,by simp,by simp,by rw[List.take_zero,Xsl]⟩ fun k s ⟨i,hik,hr,hs⟩=>?_
 ·apply Gh.of<;>simp
 subst hs;by_cases hi:i<c.od.length
 ·have hw:IntKind.i64.wrap ((i:Int)+1)=(i+1:Nat):=by rw[wrap_small]<;>omega
  have bad:Xar es c.od i=false→XU (Yx c)=false:=fun q=>by rw[hck,all_false hi q];rfl
  unfold Xar at bad;rw[Xd4 hi]at bad;by_cases q1:c.od[i]<0
  ·repeat(first|((first|refine Wa XB fun K J=>?_|refine Wb XB fun K J=>?_|refine Wc XB [] fun K J=>?_|refine Wd XB [] fun K J=>?_);simp[Xf,Xg,hi,q1];first|done|(with_reducible refine J _ ?_;clear J K)|(apply And.intro;(·kernel_rfl);with_reducible refine J _ ?_;clear J K))|refine We fun S hS=>?_|refine Wp.block ?_|refine Wp.skip ?_|(apply Wt;· (simp;done))|(apply Wf;· (simp[sm2,Xn,VZ,Xjt,Hq,ZY,Kw,Yv,Ya,Xs,X8,unS,Xa,Ev.eta',Xo,Xz,Xe,Xd,Xf,Xg,XZ,hi,q1];done))|(refine hS _ ?_;clear hS S)|(clear hS S;refine hS _ ?_;clear hS S))
   refine Wp.ret ?_;simp;exact no (bad (by rw[decide_eq_false (fun q=>by omega)];rfl))
  by_cases q2:(es.length:Int)≤c.od[i]
  ·repeat(first|((first|refine Wa XB fun K J=>?_|refine Wb XB fun K J=>?_|refine Wc XB [] fun K J=>?_|refine Wd XB [] fun K J=>?_);simp[Xf,Xg,hi,q1,q2];first|done|(with_reducible refine J _ ?_;clear J K)|(apply And.intro;(·kernel_rfl);with_reducible refine J _ ?_;clear J K))|refine We fun S hS=>?_|refine Wp.block ?_|refine Wp.skip ?_|(apply Wt;· (simp;done))|(apply Wf;· (simp[sm2,Xn,VZ,Xjt,Hq,ZY,Kw,Yv,Ya,Xs,X8,unS,Xa,Ev.eta',Xo,Xz,Xe,Xd,Xf,Xg,XZ,hi,q1,q2];done))|(refine hS _ ?_;clear hS S)|(clear hS S;refine hS _ ?_;clear hS S))
   refine Wp.ret ?_;simp;exact no (bad (by rw[decide_eq_false (fun q=>by omega)];rfl))
  have p0:0≤c.od[i]:=by omega
  have p1:c.od[i]<(es.length:Int):=by omega
  have p2:(c.od[i]).toNat<es.length:=by omega
  have p3:(c.od[i]).toNat<(Jk c.hs).length:=by omega
  have p4:c.od[i]<((Jk c.hs).length:Int):=by omega
  have hsl:=Xsm es.length (c.od.take i);have p5:(c.od[i]).toNat<(ZD es.length (c.od.take i)).length:=by omega
  have hsv:(ZD es.length (c.od.take i))[(c.od[i]).toNat]=decide (c.od[i]∈c.od.take i):=by rw[Xw4 p5,Int.toNat_of_nonneg p0]
  rw[decide_eq_true (⟨p0,p1⟩:0≤c.od[i]∧c.od[i]<(es.length:Int)),Bool.true_and]at bad;by_cases q3:c.od[i]∈c.od.take i
  ·rw[decide_eq_true q3]at hsv
   repeat(first|((first|refine Wa XB fun K J=>?_|refine Wb XB fun K J=>?_|refine Wc XB [] fun K J=>?_|refine Wd XB [] fun K J=>?_);simp[Xf,Xg,hi,q1,q2,p0,p1,p2,hsl,Ki,Yp,hsv];first|done|(with_reducible refine J _ ?_;clear J K)|(apply And.intro;(·kernel_rfl);with_reducible refine J _ ?_;clear J K))|refine We fun S hS=>?_|refine Wp.block ?_|refine Wp.skip ?_|(apply Wt;· (simp;done))|(apply Wf;· (simp[sm2,Xn,VZ,Xjt,Hq,ZY,Kw,Yv,Ya,Xs,X8,unS,Xa,Ev.eta',Xo,Xz,Xe,Xd,Xf,Xg,XZ,hi,q1,q2,p0,p1,p2,p3,p4,p5,hsl,Ki,Yp,hsv];done))|(refine hS _ ?_;clear hS S)|(clear hS S;refine hS _ ?_;clear hS S))
   refine Wp.ret ?_;simp;obtain⟨j,hj,he⟩:=(Xij hi).1 q3;rw[Xd4 hi]at he;exact no (bad (by rw[decide_eq_false (fun q=>q j hj he)];rfl))
  rw[decide_eq_false q3]at hsv;have hall:∀j,j<i→c.od.getD j 0≠c.od[i]:=fun j hj he=>q3 ((Xij hi).2 ⟨j,hj,by rw[Xd4 hi];exact he⟩);rw[decide_eq_true hall,Bool.true_and]at bad;obtain⟨x,hx⟩:∃x,(Jk c.hs)[(c.od[i]).toNat]=x:=⟨_,rfl⟩;have hgx:es.getD (c.od[i]).toNat default=x.e:=by rw[←hFl,Xeo p3,hx]
  rw[hgx]at bad;cases em:x.e.mem
  ·repeat(first|((first|refine Wa XB fun K J=>?_|refine Wb XB fun K J=>?_|refine Wc XB [] fun K J=>?_|refine Wd XB [] fun K J=>?_);simp[sm2,Xn,Kw,X8,unS,Xa,Ev.eta',Xe,Xd,Xf,Xg,hi,q1,q2,p0,p1,p2,p3,p4,hsl,Ki,Yp,hsv,Ez.cv,hx,em];first|done|(with_reducible refine J _ ?_;clear J K)|(apply And.intro;(·kernel_rfl);with_reducible refine J _ ?_;clear J K))|refine We fun S hS=>?_|refine Wp.block ?_|refine Wp.skip ?_|(apply Wt;· (simp;done))|(apply Wf;· (simp[sm2,Xn,VZ,Xjt,Hq,ZY,Kw,Yv,Ya,Xs,X8,unS,Xa,Ev.eta',Xo,Xz,Xe,Xd,Xf,Xg,XZ,hi,q1,q2,p0,p1,p2,p3,p4,p5,hsl,Ki,Yp,hsv,Ez.cv,hx,em];done))|(refine hS _ ?_;clear hS S)|(clear hS S;refine hS _ ?_;clear hS S))
   refine Wp.ret ?_;simp;exact no (bad em)
  ·have hok:Xar es c.od i=true:=by
    unfold Xar;rw[Xd4 hi,decide_eq_true (⟨p0,p1⟩:0≤c.od[i]∧c.od[i]<(es.length:Int)),decide_eq_true hall,hgx,em];rfl
   repeat(first|((first|refine Wa XB fun K J=>?_|refine Wb XB fun K J=>?_|refine Wc XB [] fun K J=>?_|refine Wd XB [] fun K J=>?_);simp[sm2,Xn,Kw,X8,unS,Xa,Ev.eta',Xe,Xd,Xf,Xg,hi,q1,q2,p0,p1,p2,p3,p4,hsl,Ki,Yp,hsv,Ez.cv,hx,em,Xa5,hw];first|done|(with_reducible refine J _ ?_;clear J K)|(apply And.intro;(·kernel_rfl);with_reducible refine J _ ?_;clear J K))|refine We fun S hS=>?_|refine Wp.block ?_|refine Wp.skip ?_|(apply Wt;· (simp;done))|(apply Wf;· (simp;done))|(refine hS _ ?_;clear hS S)|(clear hS S;refine hS _ ?_;clear hS S))
   refine⟨⟨[(1,cA c),(3,iV .i64 es.length),(5,sV zz 14 (Yc (Jk c.hs))),(6,iV .i64 (X4 es)),(8, .one (.own 79)),(9,iV .i64 (i+1:Nat))],[(79, .row false 4 1 (KQ (ZD es.length (c.od.take (i+1)))))]⟩,k - 1,?_,by omega,i+1,by omega,Y7 hr hok,rfl⟩;rw[←Xsk hi p0];apply Gh.of<;>simp
 obtain rfl:i=c.od.length:=by omega
 rw[all_true hr,Bool.true_and]at hck;refine We fun S hS=>?_;refine Wa XB fun K J=>?_;simp[Xf];apply J;clear J K;refine Wf (by simp) ?_;refine Wp.exit ?_;simp only[XV,Xx,if_true];by_cases hm:c.od.length=X4 es
 ·have qm:((c.od.length:Int)=X4 es)=True:=eq_true (by omega);clear hS S;refine hS _ ?_;clear hS S;refine We fun S hS=>?_;refine Wa XB fun K J=>?_;simp[Xf,hm];apply J;clear J K;refine Wf (by simp) ?_;refine Wp.skip ?_;refine hS _ ?_;clear hS S;refine Wa XB fun K J=>?_;simp;apply J;clear J K;refine Wp.ret ?_;simp;rw[←hR,hck,decide_eq_true hm];rfl
 ·have qm:((c.od.length:Int)=X4 es)=False:=eq_false (by omega);have qm':=eq_false hm;clear hS S;refine hS _ ?_;clear hS S;refine We fun S hS=>?_;refine Wa XB fun K J=>?_;simp[Xf,qm];apply J;clear J K;refine Wt (by simp) ?_;refine Wa XB fun K J=>?_;simp;apply J;clear J K;refine Wp.ret ?_;simp;exact no (by rw[hck,decide_eq_false hm])
end Go.Proofs.YtjhfcfpkgfpoiaaGreatDoor
namespace Go.Proofs.YtjhfcfpkgfpoiaaGreatDoor
open Go Go.RowKit Dw
set_option maxRecDepth 100000
def VY:List EV→Option (Prop×YX)
 |[v]=>(match KJ v with|some c=>some (H7 c, .val (iV .i64 (Yt (XU (Yx c)))))|none=>none)
 |_=>none
def sj:Dw.Spec:=Xn 10 VY sy1
theorem Ha:XF Tryz.prog sj:=by
 refine Xp ⟨⟨_,Tryz.func10,rfl,rfl⟩⟩ (fun vs p r h hp=>?_) YR;unfold VY at h;split at h
 ·split at h
  ·rename_i c hc;simp only[Option.some.injEq,Prod.mk.injEq]at h;obtain⟨rfl,rfl⟩:=h;rw[Yk hc];exact Xlx c hp
  ·cases h
 ·cases h
end Go.Proofs.YtjhfcfpkgfpoiaaGreatDoor
namespace Go.Proofs.YtjhfcfpkgfpoiaaGreatDoor
open Go Go.RowKit Dw
set_option maxRecDepth 100000
attribute [local simp] cA cB cV Xbs Kb Xaf opE KM evO cEV_int cEV_bool cEV_str cEV_nil cEV_fn Dw.look Dw.put Dw.setD Dw.Xhq shI Xho Xhp unE GM X5 Jj Gx Je YJ XA Jf Hn Kq KD JD Kd K3 K0 Xd6 KK GF VD Xbr Xec Vr Gw Xgy Y4 Xf6 Yq Xf3 Xh1 Yw Xfi K9 chunks Dw.unC Xd7 JK YL Vc Vv KW YZ KP Xbw refs YS Vd over Xd5 eqC List.getElem?_cons_zero List.getElem?_cons_succ List.all_cons List.all_nil ty3 D3 ty4 D4 ty9 D9 Xkn Xkv D22 Xkm Xku D23 Xkl Xkt D24 Xib J7 J6 J5 J4 Xk0 ty31 D31 Xkk D38 Xkj Xks D44 Xki Xkr D50 Xia J3 fo57_1 fo57_2 fo57_3 Xkz eq57 Xh9 J2 J1 Xky Xh8 J0 JZ JY Xkx Xh7 JX JW JV JU JT JS JR JQ JP JO KI KH Xkw ty71 Xkq D71 Xkh JN JM bu75 eq75 ty97 D97 HW H3 Xk5 G9 H2 Xkg ty112 HZ D112 HV Xk4 G8 Xk3 G7 H1 Xkf G0 fo231_0 fo231_1 fo231_2 fo231_3 fo231_4 fo231_5 fo231_6 fo231_7 fo231_8 fo231_9 fo231_10 H4 H0 H6 H5 init0 init1 init2 init3 init4 init5 init6 Jz Xb9 Xdm rdL rdG rdO Xbu Zg Ge G4 Dw.del KB XV Xx YP Xex J9 Xe0 Kl erefs_agg_c XJ XT XI XQ inH Gt Gu VT Kt
theorem Xq7{P:Program}{f:FuncId}{vs:List EV}{e e':Nat}(h:Xq P f vs (.val (sV true e []))):Xq P f vs (.val (sV true e' [])):=by
 intro M w us hM hu;refine(h M w us hM hu).mono ?_;rintro r w' ⟨u,rfl,hb,hr⟩;refine⟨u,rfl,hb,?_⟩;have hr:X9 w' _ noB (sV true e []) u:=hr;cases hr with|one hr=>
 have hr':XN w' _ (.sl true e []) u:=hr;cases hr';exact .one (.nil (esz:=e'))
def JF(c:Cz):List Ez:=if XU (Yx c)=true then Jk c.hs else []
def Xun:List EV→Option (Prop×YX)
 |[v]=>(match KJ v with|some c=>some (H7 c, .val (sV (decide ((Xr c.hs).length=0)) 14 (Yc (Jk c.hs))))|none=>none)
 |_=>none
def sk1:Dw.Spec:=Xn 28 Xun sj
theorem Xck:XF Tryz.prog sk1:=by
 refine Xp ⟨⟨_,Tryz.func28,rfl,rfl⟩⟩ (fun vs p r h hp=>?_) Ha;unfold Xun at h;split at h
 ·split at h
  ·rename_i c hc;simp only[Option.some.injEq,Prod.mk.injEq]at h;obtain⟨rfl,rfl⟩:=h;rw[Yk hc];exact KZ (Xe7 c hp)
  ·cases h
 ·cases h
theorem Xs0(c:Cz)(hc0:H7 c):Xq Tryz.prog 44 [Yo c] (.val (sV (decide ((JF c).length=0)) 14 (Yc (JF c)))):=by
 have bok:=eq_true hc0;cases hck:XU (Yx c)
 ·have e:JF c=[]:=by simp[JF,hck]
  rw[e];refine Xq7 (e:=0) ?_;unfold Yo;refine Xi (rs:=[.tmp 2]) (Xk _) Tryz.func44 rfl Tryz.ntmps44 rfl (by simp) ?_;refine Wa Xck fun K J=>?_;simp;apply J;clear J K;refine We fun S hS=>?_;refine Wa Xck fun K J=>?_;simp[sk1,sj,Xn,VY,Xs,bok,hck,Yt];apply J;clear J K;refine Wt (by simp) ?_;refine Wa Xck fun K J=>?_;simp;apply J;clear J K;refine Wp.ret ?_;simp
 ·have e:JF c=Jk c.hs:=by simp[JF,hck]
  have el:(Jk c.hs).length=(Xr c.hs).length:=by simp[Jk]
  rw[e,el];unfold Yo;refine Xi (rs:=[.tmp 2]) (Xk _) Tryz.func44 rfl Tryz.ntmps44 rfl (by simp) ?_;refine Wa Xck fun K J=>?_;simp;apply J;clear J K;refine We fun S hS=>?_;refine Wa Xck fun K J=>?_;simp[sk1,sj,Xn,VY,Xs,bok,hck,Yt];apply J;clear J K;refine Wf (by simp) ?_;refine Wp.skip ?_;refine hS _ ?_;clear hS S;refine Wa Xck fun K J=>?_;simp[sk1,Xn,Xun,Xs,bok];apply J;clear J K;refine Wp.ret ?_;simp
def Xyq:List EV→Option (Prop×YX)
 |[v]=>(match KJ v with|some c=>some (H7 c, .val (sV (decide ((JF c).length=0)) 14 (Yc (JF c))))|none=>none)
 |_=>none
def sk2:Dw.Spec:=Xn 44 Xyq sk1
theorem VJ:XF Tryz.prog sk2:=by
 refine Xp ⟨⟨_,Tryz.func44,rfl,rfl⟩⟩ (fun vs p r h hp=>?_) Xck;unfold Xyq at h;split at h
 ·split at h
  ·rename_i c hc;simp only[Option.some.injEq,Prod.mk.injEq]at h;obtain⟨rfl,rfl⟩:=h;rw[Yk hc];exact Xs0 c hp
  ·cases h
 ·cases h
def Xh5(c:Cz)(l:List Ez):EV:= .agg [.c (.sl c.z1 2 (KY c.f)), .c (.sl c.z2 1 (XW c.hs)), .c (.sl c.z3 1 (Xj c.fr)), .c (.sl c.z4 1 (Xj c.od)), .c (.sl (decide (l.length=0)) 14 (Yc l))]
set_option maxHeartbeats 2000000 in
theorem Xni(c:Cz)(hc0:H7 c):Xq Tryz.prog 15 [Yo c] (.val (.tup [Xh5 c (JF c),bV (XU (Yx c))])):=by
 have bok:=eq_true hc0;unfold Yo Xh5;refine Xi (rs:=[.cell 2 60, .tmp 3]) (Xk _) Tryz.func15 rfl Tryz.ntmps15 rfl (by simp) ?_
 repeat(first|(refine We fun S hS=>?_)|(refine Wp.block ?_)|(refine Wp.skip ?_)|(refine hS _ ?_;clear hS S)|(clear hS S;refine hS _ ?_;clear hS S)|(clear hS S;clear hS S;refine hS _ ?_;clear hS S))
 first|refine Wa VJ fun K J=>?_|refine Wb VJ fun K J=>?_|refine Wc VJ [] fun K J=>?_|refine Wd VJ [] fun K J=>?_
 simp;apply J;clear J K
 repeat(first|(refine We fun S hS=>?_)|(refine Wp.block ?_)|(refine Wp.skip ?_)|(refine hS _ ?_;clear hS S)|(clear hS S;refine hS _ ?_;clear hS S)|(clear hS S;clear hS S;refine hS _ ?_;clear hS S))
 refine Wp.frzBox (b:=1) (cs:=c.cv) rfl rfl ?_;change Wp _ _ _ _ (⟨[(0,Yo c),(1,cA c),(2, .one (.ptr 2 0)),(3,bV false)],[(2, .box [.c (.sl true 0 []), .c (.sl true 0 []), .c (.sl true 0 []), .c (.sl true 0 []), .c (.sl true 0 [])])]⟩:St);cases hck:XU (Yx c)
 ·((first|refine Wa VJ fun K J=>?_|refine Wb VJ fun K J=>?_|refine Wc VJ [2] fun K J=>?_|refine Wd VJ [2] fun K J=>?_);simp[sk2,sk1,sj,Xn,VY,Xyq,Xs,bok,hck,Yt];apply And.intro;(·kernel_rfl);with_reducible refine J _ ?_;clear J K)
  refine hS _ ?_;clear hS S;refine Wp.ret ?_;simp;exact hck
 ·((first|refine Wa VJ fun K J=>?_|refine Wb VJ fun K J=>?_|refine Wc VJ [2] fun K J=>?_|refine Wd VJ [2] fun K J=>?_);simp[sk2,sk1,sj,Xn,VY,Xyq,Xs,bok,hck,Yt];apply And.intro;(·kernel_rfl);with_reducible refine J _ ?_;clear J K)
  refine hS _ ?_;clear hS S;refine Wp.ret ?_;simp;exact hck
end Go.Proofs.YtjhfcfpkgfpoiaaGreatDoor
namespace Go.Proofs.YtjhfcfpkgfpoiaaGreatDoor
open Go Go.RowKit
set_option maxRecDepth 100000
def placeOf(od:List Int)(k j:Nat):Int:=(List.range k).foldl (fun a i=>if od.getD i 0=(j:Int)then(i:Int)else a) (-1)
def YO(n:Nat)(od:List Int):List Int:=(List.range n).map (placeOf od od.length)
theorem Hf(od:List Int)(k j:Nat):placeOf od (k+1) j=if od.getD k 0=(j:Int)then(k:Int)else placeOf od k j:=by
 simp[placeOf,List.range_succ]
theorem Zc(n:Nat)(od:List Int):(YO n od).length=n:=by simp[YO]
theorem Xfa{n:Nat}{od:List Int}{j:Nat}(hj:j<n):(YO n od).getD j 0=placeOf od od.length j:=by
 simp[YO,List.getD_eq_getElem?_getD,hj]
end Go.Proofs.YtjhfcfpkgfpoiaaGreatDoor
namespace Go.Proofs.YtjhfcfpkgfpoiaaGreatDoor
open Go Go.RowKit Dw
set_option maxRecDepth 100000
attribute [local simp] cA cB cV Xbs Kb Xaf opE KM evO cEV_int cEV_bool cEV_str cEV_nil cEV_fn Dw.look Dw.put Dw.setD Dw.Xhq shI Xho Xhp unE GM X5 Jj Gx Je YJ XA Jf Hn Kq KD JD Kd K3 K0 Xd6 KK GF VD Xbr Xec Vr Gw Xgy Y4 Xf6 Yq Xf3 Xh1 Yw Xfi K9 chunks Dw.unC Xd7 JK YL Vc Vv KW YZ KP Xbw refs YS Vd over Xd5 eqC List.getElem?_cons_zero List.getElem?_cons_succ List.all_cons List.all_nil ty3 D3 ty4 D4 ty9 D9 Xkn Xkv D22 Xkm Xku D23 Xkl Xkt D24 Xib J7 J6 J5 J4 Xk0 ty31 D31 Xkk D38 Xkj Xks D44 Xki Xkr D50 Xia J3 fo57_1 fo57_2 fo57_3 Xkz eq57 Xh9 J2 J1 Xky Xh8 J0 JZ JY Xkx Xh7 JX JW JV JU JT JS JR JQ JP JO KI KH Xkw ty71 Xkq D71 Xkh JN JM bu75 eq75 ty97 D97 HW H3 Xk5 G9 H2 Xkg ty112 HZ D112 HV Xk4 G8 Xk3 G7 H1 Xkf G0 fo231_0 fo231_1 fo231_2 fo231_3 fo231_4 fo231_5 fo231_6 fo231_7 fo231_8 fo231_9 fo231_10 H4 H0 H6 H5 init0 init1 init2 init3 init4 init5 init6 Jz Xb9 Xdm rdL rdG rdO Xbu Zg Ge G4 Dw.del KB XV Xx YP Xex J9 Xe0 Kl erefs_agg_c XJ XT XI XQ inH Gt Gu VT Kt
theorem Xfe(l:List Int)(i:Nat)(v:Int):(Xj l).set i [.sc (.int .i64 v)]=Xj (l.set i v):=by simp[Xj,List.map_set]
theorem Xt9(n:Nat):List.replicate n [Cv.sc (.int .i64 0)]=Xj (List.replicate n 0):=by simp[Xj]
def Xtu(n i:Nat):List Int:=List.replicate i (-1)++List.replicate (n - i) 0
theorem Xx4{n i:Nat}(h:i≤n):(Xtu n i).length=n:=by simp[Xtu];omega
theorem Xx3{n i:Nat}(h:i<n):(Xtu n i).set i (-1)=Xtu n (i+1):=by
 unfold Xtu;rw[List.set_append_right _ _ (by simp),List.length_replicate,Nat.sub_self,show n - i=(n - (i+1))+1 by omega,List.replicate_succ,List.set_cons_zero,List.replicate_succ' (n:=i),List.append_assoc];rfl
theorem Xtt(n:Nat):Xtu n 0=List.replicate n 0:=by simp[Xtu]
theorem Xx5(n:Nat):Xtu n n=List.replicate n (-1):=by simp[Xtu]
def plU(n:Nat)(od:List Int)(k:Nat):List Int:=(List.range n).map (placeOf od k)
theorem Xxs(n:Nat)(od:List Int):plU n od 0=List.replicate n (-1):=by
 unfold plU;apply List.ext_getElem (by simp);intro i h1 h2;simp[placeOf]
theorem Ybk(n:Nat)(od:List Int)(k:Nat):(plU n od k).length=n:=by simp[plU]
theorem Ybj{n:Nat}{od:List Int}{k:Nat}(hk:k<od.length)(h0:0≤od[k]):(plU n od k).set (od[k]).toNat k=plU n od (k+1):=by
 unfold plU;apply List.ext_getElem (by simp);intro i h1 h2;have hg:od.getD k 0=od[k]:=by rw[List.getD_eq_getElem?_getD,List.getElem?_eq_getElem hk];rfl
 rw[List.getElem_set];simp only[List.getElem_map,List.getElem_range];rw[Hf,hg];by_cases hi:(od[k]).toNat=i
 ·rw[if_pos hi,if_pos (by omega)]
 ·rw[if_neg hi,if_neg (by omega)]
set_option maxHeartbeats 16000000 in
theorem Xip(c:Cz)(hc0:H7 c)(hck:XU (Yx c)=true)(hod:∀i (h:i<c.od.length),0≤c.od[i]∧c.od[i]<c.fr.length):
  Xq Tryz.prog 39 [Yo c] (.row false 3 1 (Xj (YO c.fr.length c.od))):=by
 have bok:=eq_true hc0;have b4:=hc0.fr;have b5:=hc0.od;have n1:(c.fr.length:Int)≤1000000:=by omega
 have n2:8*(c.fr.length:Int)≤281474976710656:=by omega
 have hpl:YO c.fr.length c.od=plU c.fr.length c.od c.od.length:=rfl;rw[hpl];unfold Yo;refine Xi (rs:=[.tmp 2]) (Xk _) Tryz.func39 rfl Tryz.ntmps39 rfl (by simp) ?_
 repeat(first|(refine We fun S hS=>?_)|(refine Wp.block ?_)|(refine Wp.skip ?_)|(refine hS _ ?_;clear hS S)|(clear hS S;refine hS _ ?_;clear hS S)|(clear hS S;clear hS S;refine hS _ ?_;clear hS S))
 first|refine Wa Ha fun K J=>?_|refine Wb Ha fun K J=>?_|refine Wc Ha [] fun K J=>?_|refine Wd Ha [] fun K J=>?_
 simp;apply J;clear J K;refine hS _ ?_;clear hS S;refine Wp.frzBox (b:=1) (cs:=c.cv) rfl rfl ?_;change Wp _ _ _ _ (⟨[(0,Yo c),(1,cA c),(2,sV true 0 [])],[]⟩:St);refine We fun S hS=>?_;refine Wa Ha fun K J=>?_;simp[sj,Xn,VY,Xs,bok,hck,Yt];apply J;clear J K;refine Wf (by simp) ?_;refine Wp.skip ?_;refine hS _ ?_;clear hS S;refine Wa Ha fun K J=>?_;simp[Xf,n1,n2,Xt9];apply J;clear J K;refine We fun S hS=>?_;refine Wa Ha fun K J=>?_;simp;apply J;clear J K;refine Wp.block ?_;refine Wp.loop (fun k s=>∃i:Nat,i+k=c.fr.length∧s=⟨[(1,cA c),(2,sV true 0 []),(3, .one (.own 12)),(4,iV .i64 i)],[(12, .row false 3 1 (Xj (Xtu c.fr.length i)))]⟩)
  c.fr.length (s0:=⟨[(1,cA c),(2,sV true 0 []),(3, .one (.own 12)),(4,iV .i64 (0:Nat))],[(12, .row false 3 1 (Xj (List.replicate c.fr.length 0)))]⟩) ?_ ⟨0,by simp,by rw[Xtt]⟩ fun k s ⟨i,hik,hs⟩=>?_
 ·apply Gh.of<;>simp
 subst hs;have hml:=Xx4 (n:=c.fr.length) (i:=i) (by omega);refine We fun S hS=>?_;refine Wa Ha fun K J=>?_;simp[Xf,hml];apply J;clear J K;refine Wp.cond rfl (fun hc=>?_) (fun hc=>?_)
 ·have hi:i<c.fr.length:=by simpa using hc
  have hw:IntKind.i64.wrap ((i:Int)+1)=(i+1:Nat):=by rw[wrap_small]<;>omega
  refine Wp.skip ?_;refine hS _ ?_;clear hS S;refine We fun S hS=>?_;refine Wp.block ?_;refine Wb Ha fun K J=>?_;simp[hi,Xf,hml,Xg];apply J;clear J K;refine hS _ ?_;clear hS S;refine Wb Ha fun K J=>?_;simp[hw];apply J;clear J K;refine⟨⟨[(1,cA c),(2,sV true 0 []),(3, .one (.own 12)),(4,iV .i64 (i+1:Nat))],[(12, .row false 3 1 (Xj (Xtu c.fr.length (i+1))))]⟩,k - 1,?_,by omega,i+1,by omega,rfl⟩;rw[←Xx3 hi];apply Gh.of<;>simp[Xfe]
 ·have hi:¬i<c.fr.length:=by simpa using hc
  obtain rfl:i=c.fr.length:=by omega
  refine Wp.exit ?_;simp only[XV,Xx,if_true];rw[Xx5,←Xxs c.fr.length c.od];clear hc hi hik hml;clear hS S;refine hS _ ?_;clear hS S;refine We fun S hS=>?_;refine Wa Ha fun K J=>?_;simp;apply J;clear J K;refine Wp.block ?_;refine Wp.loop (fun k s=>∃i:Nat,i+k=c.od.length∧s=⟨[(1,cA c),(2,sV true 0 []),(3, .one (.own 12)),(5,iV .i64 i)],[(12, .row false 3 1 (Xj (plU c.fr.length c.od i)))]⟩)
   c.od.length (s0:=⟨[(1,cA c),(2,sV true 0 []),(3, .one (.own 12)),(5,iV .i64 (0:Nat))],[(12, .row false 3 1 (Xj (plU c.fr.length c.od 0)))]⟩) ?_ ⟨0,by simp,rfl⟩ fun k s ⟨i,hik,hs⟩=>?_
  ·apply Gh.of<;>simp
  subst hs;have hplen:=Ybk c.fr.length c.od i;refine We fun S hS=>?_;refine Wa Ha fun K J=>?_;simp[Xf];apply J;clear J K;refine Wp.cond rfl (fun hc=>?_) (fun hc=>?_)
  ·have hi:i<c.od.length:=by simpa using hc
   have hw:IntKind.i64.wrap ((i:Int)+1)=(i+1:Nat):=by rw[wrap_small]<;>omega
   obtain⟨o1,o2⟩:=hod i hi;have o3:(c.od[i]).toNat<c.fr.length:=by omega
   refine Wp.skip ?_;refine hS _ ?_;clear hS S;refine We fun S hS=>?_;refine Wp.block ?_;refine Wb Ha fun K J=>?_;simp[hi,Xf,Xg,hplen,o1,o2,o3];apply J;clear J K;refine hS _ ?_;clear hS S;refine Wb Ha fun K J=>?_;simp[hw];apply J;clear J K;refine⟨⟨[(1,cA c),(2,sV true 0 []),(3, .one (.own 12)),(5,iV .i64 (i+1:Nat))],[(12, .row false 3 1 (Xj (plU c.fr.length c.od (i+1))))]⟩,k - 1,?_,by omega,i+1,by omega,rfl⟩;rw[←Ybj hi o1];apply Gh.of<;>simp[Xfe]
  ·have hi:¬i<c.od.length:=by simpa using hc
   obtain rfl:i=c.od.length:=by omega
   refine Wp.exit ?_;simp only[XV,Xx,if_true];clear hS S;refine hS _ ?_;clear hS S;refine Wa Ha fun K J=>?_;simp;apply J;clear J K;refine Wp.ret ?_;simp
end Go.Proofs.YtjhfcfpkgfpoiaaGreatDoor
namespace Go.Proofs.YtjhfcfpkgfpoiaaGreatDoor
open Go Go.RowKit
set_option maxRecDepth 100000
section
def allB(c:Cd):List Ev:=if XU c=true then c.harts.flatten else []
theorem Z8{c:Cd}(h:XU c=true):allB c=c.harts.flatten:=by simp[allB,h]
theorem Xv2{c:Cd}(h:XU c=false):allB c=[]:=by simp[allB,h]
section
variable {w w1 w2:World} {c:Cd} {A1 A2 A3 A4:Option Addr} {c1 c2 c3 c4:Nat}
end
end
def G2(es:List Ev)(fr:List Int)(a b:Nat):Int:=(((List.range 13).find? fun r:Nat=>Vw es fr a b ((r:Int)+1)).map fun r:Nat=>(r:Int)+1).getD 0
theorem Xxa{es:List Ev}{fr:List Int}{a b k:Nat}(h1:1≤k)(h13:k≤13)(h:Vw es fr a b k=true)(hn:∀r:Nat,1≤r→r<k→Vw es fr a b r=false):G2 es fr a b=k:=by
 obtain⟨j,rfl⟩:∃j,k=j+1:=⟨k - 1,by omega⟩;have:(List.range 13).find? (fun r:Nat=>Vw es fr a b ((r:Int)+1))=some j:=by
  rw[List.find?_eq_some_iff_getElem];refine⟨by simpa using h,j,by simp;omega,by simp,fun i hi=>?_⟩;have:=hn (i+1) (by omega) (by omega);simpa using this
 simp[G2,this]
theorem Xw9{es:List Ev}{fr:List Int}{a b:Nat}(hn:∀r:Nat,1≤r→r<14→Vw es fr a b r=false):G2 es fr a b=0:=by
 have:(List.range 13).find? (fun r:Nat=>Vw es fr a b ((r:Int)+1))=none:=by
  rw[List.find?_eq_none];intro i hi;have:=hn (i+1) (by omega) (by have:=List.mem_range.1 hi;omega);simpa using this
 simp[G2,this]
theorem Xss{es:List Ev}{fr:List Int}{a b:Nat}:0<G2 es fr a b↔∃r:Nat,1≤r∧r≤13∧Vw es fr a b r=true:=by
 unfold G2;cases h:(List.range 13).find? (fun r:Nat=>Vw es fr a b ((r:Int)+1))with
 |none=>
  rw[List.find?_eq_none]at h;simp only[Option.map_none,Option.getD_none,Int.lt_irrefl,false_iff];rintro⟨r,h1,h2,h3⟩;refine h (r - 1) (List.mem_range.2 (by omega)) ?_;rw[show((r - 1:Nat):Int)+1=(r:Int) by omega];exact h3
 |some j=>
  have h1:=List.find?_some h;have h2:=List.mem_range.1 (List.mem_of_find?_eq_some h);simp only[Option.map_some,Option.getD_some];exact⟨fun _=>⟨j+1,by omega,by omega,by simpa using h1⟩,fun _=>by omega⟩
def Xeb(es:List Ev)(pl:List Int)(n:Nat)(best:Int)(k:Nat):Prop:=
 k≠n∧(es.getD k default).writes=true∧(es.getD k default).addr=(es.getD n default).addr∧
  (((es.getD k default).hart=(es.getD n default).hart∧(es.getD k default).pos<(es.getD n default).pos)∨pl.getD k 0<pl.getD n 0)∧(best<0∨pl.getD best.toNat 0<pl.getD k 0)
instance (es:List Ev)(pl:List Int)(n:Nat)(best:Int)(k:Nat):Decidable (Xeb es pl n best k):=by unfold Xeb;infer_instance
def Xam(es:List Ev)(pl:List Int)(n:Nat)(best:Int)(k:Nat):Int:=if Xeb es pl n best k then(k:Int)else best
def ZB(es:List Ev)(pl:List Int)(n k:Nat):Int:=(List.range k).foldl (Xam es pl n) (-1)
def JH(es:List Ev)(pl:List Int)(n:Nat):Int:=ZB es pl n es.length
theorem Xal(es:List Ev)(pl:List Int)(n k:Nat):ZB es pl n (k+1)=Xam es pl n (ZB es pl n k) k:=by simp[ZB,List.range_succ]
theorem Xwz(es:List Ev)(pl:List Int)(n k:Nat): -1≤ZB es pl n k∧ZB es pl n k<k:=by
 induction k with
 |zero=>simp[ZB]
 |succ k ih=>
  rw[Xal];unfold Xam;split
  ·omega
  ·omega
def ZM(es:List Ev)(od:List Int)(n i:Nat):Bool:=
 decide ((es.getD (od.getD i 0).toNat default).hart≠(es.getD n default).hart)&&((es.getD (od.getD i 0).toNat default).writes&&decide ((es.getD (od.getD i 0).toNat default).addr=(es.getD n default).addr))
def Xpr(es:List Ev)(n:Nat):Nat:=((n:Int) - ((es.getD n default).pos - (es.getD n default).pair)).toNat
def ZL(es:List Ev)(od:List Int)(n a m:Nat):Int:=(((List.range m).find? fun i=>decide (a≤i)&&ZM es od n i).map fun i=>od.getD i 0).getD (-1)
def Xct(es:List Ev)(fr od pl:List Int)(n:Nat):Int:=
 let s:=fr.getD (Xpr es n) 0
 if 0≤s then(if pl.getD n 0≤pl.getD s.toNat 0 then s else ZL es od n (pl.getD s.toNat 0+1).toNat (pl.getD n 0).toNat)
 else ZL es od n 0 (pl.getD n 0).toNat
theorem Xtd{es:List Ev}{od:List Int}{n a m k:Nat}(h1:a≤k)(h2:k<m)(h:ZM es od n k=true)(hn:∀i,a≤i→i<k→ZM es od n i=false):ZL es od n a m=od.getD k 0:=by
 have:(List.range m).find? (fun i=>decide (a≤i)&&ZM es od n i)=some k:=by
  rw[List.find?_eq_some_iff_getElem];refine⟨by simp[h1,h],k,by simp;omega,by simp,fun i hi=>?_⟩;by_cases g:a≤i
  ·simp[g,hn i g hi]
  ·simp[g]
 simp[ZL,this]
theorem Xtc{es:List Ev}{od:List Int}{n a m:Nat}(hn:∀i,a≤i→i<m→ZM es od n i=false):ZL es od n a m= -1:=by
 have:(List.range m).find? (fun i=>decide (a≤i)&&ZM es od n i)=none:=by
  rw[List.find?_eq_none];intro i hi;by_cases g:a≤i
  ·simp[g,hn i g (List.mem_range.1 hi)]
  ·simp[g]
 simp[ZL,this]
structure Xop(es:List Ev)(fr od pl:List Int)(n:Nat):Prop where
 lt:n<es.length
 few:es.length≤1000
 ofew:od.length≤1000
 fl:fr.length=es.length
 pll:pl.length=es.length
 pos:0≤(es.getD n default).pos∧(es.getD n default).pos≤1000∧0≤(es.getD n default).pair∧(es.getD n default).pair≤1000
 rb:0≤(n:Int) - ((es.getD n default).pos - (es.getD n default).pair)∧(n:Int) - ((es.getD n default).pos - (es.getD n default).pair)<es.length
 frb:∀i,i<es.length→-1≤fr.getD i 0∧fr.getD i 0<es.length
 plb:∀i,i<es.length→-1≤pl.getD i 0∧pl.getD i 0<od.length
 odb:∀i,i<od.length→0≤od.getD i 0∧od.getD i 0<es.length
def Xoq(es:List Ev)(fr:List Int)(x y:Nat):Prop:=
 x<y∧y<es.length∧(∀m,x<m→m≤y→(es.getD m default).hart=(es.getD x default).hart)∧0<G2 es fr x y
inductive Led(es:List Ev)(fr:List Int)(a:Nat):Nat→Prop
 |here:Led es fr a a
 |step {m n:Nat}:Led es fr a m→m<n→0<G2 es fr m n→Led es fr a n
theorem Led.le{es:List Ev}{fr:List Int}{a n:Nat}(h:Led es fr a n):a≤n:=by
 induction h with
 |here=>exact Nat.le_refl _
 |step _ h2 _ ih=>omega
theorem Led.cases'{es:List Ev}{fr:List Int}{a n:Nat}(h:Led es fr a n)(hn:a<n):∃m,a≤m∧m<n∧Led es fr a m∧0<G2 es fr m n:=by
 cases h with
 |here=>omega
 |step h1 h2 h3=>exact⟨_,h1.le,h2,h1,h3⟩
open Classical in
noncomputable def H9(es:List Ev)(fr:List Int)(a b:Nat):Bool:=Hy es a b&&decide (Led es fr a b)
theorem Xai{es:List Ev}{fr:List Int}{a b:Nat}:H9 es fr a b=true↔Hy es a b=true∧Led es fr a b:=by simp[H9]
def Next(es:List Ev)(m n:Nat):Prop:=m<n∧n<es.length∧(es.getD m default).mem=true∧(es.getD n default).mem=true∧∀k,m<k→k<n→(es.getD k default).mem=false
def Xhz(es:List Ev)(fr:List Int):Prop:=∀m n,Next es m n→(es.getD m default).hart=(es.getD n default).hart→H9 es fr m n=true
theorem Next.one{es:List Ev}{m m' n:Nat}(h:Next es m n)(h':Next es m' n):m'=m:=by
 obtain⟨h1,h2,h3,h4,h5⟩:=h;obtain⟨g1,g2,g3,g4,g5⟩:=h';rcases Nat.lt_trichotomy m m' with g|g|g
 ·have:=h5 m' g g1;rw[g3]at this;cases this
 ·exact g.symm
 ·have:=g5 m g h1;rw[h3]at this;cases this
end Go.Proofs.YtjhfcfpkgfpoiaaGreatDoor
namespace Go.Proofs.YtjhfcfpkgfpoiaaGreatDoor
open Go Go.RowKit Dw
set_option maxRecDepth 100000
attribute [local simp] cA cB cV Xbs Kb Xaf opE KM evO cEV_int cEV_bool cEV_str cEV_nil cEV_fn Dw.look Dw.put Dw.setD Dw.Xhq shI Xho Xhp unE GM X5 Jj Gx Je YJ XA Jf Hn Kq KD JD Kd K3 K0 Xd6 KK GF VD Xbr Xec Vr Gw Xgy Y4 Xf6 Yq Xf3 Xh1 Yw Xfi K9 chunks Dw.unC Xd7 JK YL Vc Vv KW YZ KP Xbw refs YS Vd over Xd5 eqC List.getElem?_cons_zero List.getElem?_cons_succ List.all_cons List.all_nil ty3 D3 ty4 D4 ty9 D9 Xkn Xkv D22 Xkm Xku D23 Xkl Xkt D24 Xib J7 J6 J5 J4 Xk0 ty31 D31 Xkk D38 Xkj Xks D44 Xki Xkr D50 Xia J3 fo57_1 fo57_2 fo57_3 Xkz eq57 Xh9 J2 J1 Xky Xh8 J0 JZ JY Xkx Xh7 JX JW JV JU JT JS JR JQ JP JO KI KH Xkw ty71 Xkq D71 Xkh JN JM bu75 eq75 ty97 D97 HW H3 Xk5 G9 H2 Xkg ty112 HZ D112 HV Xk4 G8 Xk3 G7 H1 Xkf G0 fo231_0 fo231_1 fo231_2 fo231_3 fo231_4 fo231_5 fo231_6 fo231_7 fo231_8 fo231_9 fo231_10 H4 H0 H6 H5 init0 init1 init2 init3 init4 init5 init6 Jz Xb9 Xdm rdL rdG rdO Xbu Zg Ge G4 Dw.del KB XV Xx YP Xex J9 Xe0 Kl erefs_agg_c XJ XT XI XQ inH Gt Gu VT Kt
def Xhc:List EV→Option (Prop×YX)
 |[v, .one (.c (.sc (.int .i64 a))), .one (.c (.sc (.int .i64 b))), .one (.c (.sc (.int .i64 r)))]=>(match Za v with
  |some (c,_,l)=>some (0≤a∧a<b∧b<l.length∧1≤r∧r≤13∧Xd3 (l.map Ez.e)∧c.fr.length=l.length, .val (bV (Vw (l.map Ez.e) c.fr a.toNat b.toNat r)))
  |none=>none)
 |_=>none
def se4:Dw.Spec:=Xn 81 Xhc se3
theorem Xbc:XF Tryz.prog se4:=by
 refine Xp ⟨⟨_,Tryz.func81,rfl,rfl⟩⟩ (fun vs p r h hp=>?_) Xh;unfold Xhc at h;split at h
 ·split at h
  ·rename_i a b q _ c z l hv;simp only[Option.some.injEq,Prod.mk.injEq]at h;obtain⟨rfl,rfl⟩:=h;obtain⟨h1,h2,h3,h4,h5,h6,h7⟩:=hp;obtain⟨a,rfl⟩:∃m:Nat,a=m:=⟨a.toNat,by omega⟩;obtain⟨b,rfl⟩:∃m:Nat,b=m:=⟨b.toNat,by omega⟩;rw[Vq hv];exact Xls c z l a b q h4 h5 (by omega) (by omega) h6 h7
  ·cases h
 ·cases h
set_option maxHeartbeats 4000000 in
theorem Xe5(c:Cz)(z:Bool)(l:List Ez)(a b:Nat)(hab:a<b)(hb:b<l.length)(ok:Xd3 (l.map Ez.e))(hl:c.fr.length=l.length):
  Xq Tryz.prog 47 [Xaj c z l,iV .i64 a,iV .i64 b] (.val (iV .i64 (G2 (l.map Ez.e) c.fr a b))):=by
 have bok:=eq_true ok;have bl:=eq_true hl;unfold Xaj;refine Xi (rs:=[.tmp 6]) (Xk _) Tryz.func47 rfl Tryz.ntmps47 rfl (by simp) ?_;refine Wa Xbc fun K J=>?_;simp;apply J;clear J K;refine We fun S hS=>?_;refine Wa Xbc fun K J=>?_;simp;apply J;clear J K;refine Wp.block ?_;refine Wp.loop (fun k s=>∃r:Nat,r+k=14∧1≤r∧(∀i:Nat,1≤i→i<r→Vw (l.map Ez.e) c.fr a b i=false)∧s=⟨[(1,iV .i64 a),(2,iV .i64 b),(3, .one (.ptr 3 0)),(7,iV .i64 r)],[(3, .box (cV c z l))]⟩)
  13 (s0:=⟨[(1,iV .i64 a),(2,iV .i64 b),(3, .one (.ptr 3 0)),(7,iV .i64 (1:Nat))],[(3, .box (cV c z l))]⟩) ?_ ⟨1,by omega,by omega,fun i h1 h2=>(by omega),rfl⟩ fun k s ⟨r,hrk,hr1,hno,hs⟩=>?_
 ·apply Gh.of<;>simp
 subst hs;refine We fun S hS=>?_;refine Wa Xbc fun K J=>?_;simp;apply J;clear J K;refine Wp.cond rfl (fun hc=>?_) (fun hc=>?_)
 ·have hr:r≤13:=by have:=of_decide_eq_true hc;omega
  have hrI:(r:Int)≤13:=by omega
  have hr1I:(1:Int)≤r:=by omega
  have hw:IntKind.i64.wrap ((r:Int)+1)=(r+1:Nat):=by rw[wrap_small]<;>omega
  clear hc;cases hh:Vw (l.map Ez.e) c.fr a b r
  ·refine Wp.skip ?_;refine hS _ ?_;clear hS S;refine We fun S hS=>?_;refine Wp.block ?_;refine Wa Xbc fun K J=>?_;simp[se4,Xn,Xhc,Yd,hab,hb,bok,bl,hrI,hr1I,hh];apply J;clear J K;refine Wf (by simp) ?_;refine Wp.skip ?_;refine hS _ ?_;clear hS S;refine Wb Xbc fun K J=>?_;simp[hw];apply J;clear J K;refine⟨⟨[(1,iV .i64 a),(2,iV .i64 b),(3, .one (.ptr 3 0)),(7,iV .i64 (r+1:Nat))],[(3, .box (cV c z l))]⟩,k - 1,?_,by omega,r+1,by omega,by omega,fun i h1 h2=>?_,rfl⟩
   ·apply Gh.of<;>simp
   rcases Nat.lt_or_ge i r with g|g
   ·exact hno i h1 g
   ·obtain rfl:i=r:=by omega
    exact hh
  ·refine Wp.skip ?_;refine hS _ ?_;clear hS S;refine We fun S hS=>?_;refine Wp.block ?_;refine Wa Xbc fun K J=>?_;simp[se4,Xn,Xhc,Yd,hab,hb,bok,bl,hrI,hr1I,hh];apply J;clear J K;refine Wt (by simp) ?_;refine Wa Xbc fun K J=>?_;simp;apply J;clear J K;refine Wp.ret ?_;simp;exact(Xxa hr1 hr hh hno).symm
 ·have hr:13<r:=by have:=of_decide_eq_false hc;omega
  refine Wp.exit ?_;simp only[XV,Xx,if_true];clear hS S;refine hS _ ?_;clear hS S;refine Wa Xbc fun K J=>?_;simp;apply J;clear J K;refine Wp.ret ?_;simp;exact(Xw9 fun i h1 h2=>hno i h1 (by omega)).symm
def Xbk:List EV→Option (Prop×YX)
 |[v, .one (.c (.sc (.int .i64 a))), .one (.c (.sc (.int .i64 b)))]=>(match Za v with
  |some (c,_,l)=>some (0≤a∧a<b∧b<l.length∧Xd3 (l.map Ez.e)∧c.fr.length=l.length, .val (iV .i64 (G2 (l.map Ez.e) c.fr a.toNat b.toNat)))
  |none=>none)
 |_=>none
def se5:Dw.Spec:=Xn 47 Xbk se3
theorem Ka:XF Tryz.prog se5:=by
 refine Xp ⟨⟨_,Tryz.func47,rfl,rfl⟩⟩ (fun vs p r h hp=>?_) Xh;unfold Xbk at h;split at h
 ·rename_i v a b;split at h
  ·rename_i c z l hv;simp only[Option.some.injEq,Prod.mk.injEq]at h;obtain⟨rfl,rfl⟩:=h;obtain⟨h1,h2,h3,h4,h5⟩:=hp;obtain⟨a,rfl⟩:∃m:Nat,a=m:=⟨a.toNat,by omega⟩;obtain⟨b,rfl⟩:∃m:Nat,b=m:=⟨b.toNat,by omega⟩;rw[Vq hv];exact Xe5 c z l a b (by omega) (by omega) h4 h5
  ·cases h
 ·cases h
abbrev oSt(c:Cz)(z:Bool)(l:List Ez)(e:Ez)(es:List (Nat×EV)):St:=
 ⟨es,[(3, .box (cV c z l)),(7, .box (e.cv.map .c))]⟩
set_option maxHeartbeats 16000000 in
theorem Xin(c:Cz)(zl:Bool)(l:List Ez)(z:Bool)(pl:List Int)(n:Nat)(hn:n<l.length)(hpl:pl.length=l.length)(h1:l.length≤1000):
  Xq Tryz.prog 42 [Xaj c zl l,sV z 1 (Xj pl),iV .i64 n] (.val (iV .i64 (JH (l.map Ez.e) pl n))):=by
 obtain⟨e,he⟩:∃e,l[n]=e:=⟨_,rfl⟩;have hge:(l.map Ez.e).getD n default=e.e:=by rw[Xeo hn,he]
 have hpn:n<pl.length:=by omega
 have hgpn:=Xd4 hpn;obtain⟨R,hR⟩:∃R,JH (l.map Ez.e) pl n=R:=⟨_,rfl⟩;rw[hR];unfold JH at hR;rw[List.length_map]at hR;unfold Xaj;refine Xi (rs:=[.tmp 6]) (Xk _) Tryz.func42 rfl Tryz.ntmps42 rfl (by simp) ?_;refine Wa Xv fun K J=>?_;simp;apply J;clear J K;refine Wa Xv fun K J=>?_;simp[hn,Xe,Xd,Ez.cv,he];apply J;clear J K;refine We fun S hS=>?_;refine Wa Xv fun K J=>?_;simp;apply J;clear J K;refine Wp.block ?_;refine Wp.loop (fun k s=>∃(m:Nat) (best:Int),m+k=l.length∧ZB (l.map Ez.e) pl n m=best∧s=oSt c zl l e [(1,sV z 1 (Xj pl)),(2,iV .i64 n),(3, .one (.ptr 3 0)),(7, .one (.ptr 7 0)),(8,iV .i64 best),(9,iV .i64 m)])
  l.length (s0:=oSt c zl l e [(1,sV z 1 (Xj pl)),(2,iV .i64 n),(3, .one (.ptr 3 0)),(7, .one (.ptr 7 0)),(8,iV .i64 (-1)),(9,iV .i64 (0:Nat))]) ?_ ⟨0, -1,by simp,by simp[ZB],rfl⟩ fun k s ⟨m,best,hmk,hbe,hs⟩=>?_
 ·apply Gh.of<;>simp[Ez.cv]
 subst hs;by_cases hi:m<l.length
 ·have hwm:IntKind.i64.wrap ((m:Int)+1)=(m+1:Nat):=by rw[wrap_small]<;>omega
  obtain⟨v,hv⟩:∃v,l[m]=v:=⟨_,rfl⟩;have hgv:(l.map Ez.e).getD m default=v.e:=by rw[Xeo hi,hv]
  have hpm:m<pl.length:=by omega
  have hgpm:=Xd4 hpm;have hlt:=Xwz (l.map Ez.e) pl n m;have hst:=Xal (l.map Ez.e) pl n m;rw[hbe]at hst hlt;have no:¬(m≠n∧v.e.writes=true∧v.e.addr=e.e.addr)→ZB (l.map Ez.e) pl n (m+1)=best:=fun h=>by
   rw[hst,Xam,if_neg];unfold Xeb;rw[hgv,hge];exact fun q=>h ⟨q.1,q.2.1,q.2.2.1⟩
  by_cases q1:m=n
  ·have:=no fun q=>q.1 q1;subst q1;rw[he]at hv;subst hv;refine We fun S hS=>?_;refine Wa Xv fun K J=>?_;simp[hi,Xe,Ez.cv];apply J;clear J K;refine Wt (by simp) ?_;refine Wp.skip ?_;refine hS _ ?_;clear hS S;refine We fun S hS=>?_;refine Wp.block ?_;refine Wa Xv fun K J=>?_;simp[hi,Xe,Xd,Ez.cv,he];apply J;clear J K;refine We fun S hS=>?_;refine Wa Xv fun K J=>?_;simp;apply J;clear J K;refine Wt (by simp) ?_;refine Wp.exit ?_;simp only[XV,Xx,if_true];clear hS S;refine hS _ ?_;clear hS S;refine Wb Xv fun K J=>?_;simp[hwm];apply J;clear J K;refine⟨_,k - 1,?_,by omega,m+1,best,by omega,this,rfl⟩;apply Gh.of<;>simp[Ez.cv]
  have e1:((m:Int)=n)=False:=eq_false (by omega);cases e2:v.e.writes
  ·have:=no fun q=>by have:=q.2.1;rw[e2]at this;cases this
   refine We fun S hS=>?_;refine Wa Xv fun K J=>?_;simp[hi,Xe,Ez.cv];apply J;clear J K;refine Wt (by simp) ?_;refine Wp.skip ?_;refine hS _ ?_;clear hS S;refine We fun S hS=>?_;refine Wp.block ?_;refine Wa Xv fun K J=>?_;simp[hi,Xe,Xd,Ez.cv,hv];apply J;clear J K;refine We fun S hS=>?_;refine Wa Xv fun K J=>?_;simp[e1,se1,Xn,Kw,X8,unS,Xa,Ev.eta',e2];apply J;clear J K;refine Wt (by simp) ?_;refine Wp.exit ?_;simp only[XV,Xx,if_true];clear hS S;refine hS _ ?_;clear hS S;refine Wb Xv fun K J=>?_;simp[hwm];apply J;clear J K;refine⟨_,k - 1,?_,by omega,m+1,best,by omega,this,rfl⟩;apply Gh.of<;>simp[Ez.cv]
  by_cases q3:v.e.addr=e.e.addr
  case neg=>
   have:=no fun q=>q3 q.2.2;have e3:=eq_false q3;refine We fun S hS=>?_;refine Wa Xv fun K J=>?_;simp[hi,Xe,Ez.cv];apply J;clear J K;refine Wt (by simp) ?_;refine Wp.skip ?_;refine hS _ ?_;clear hS S;refine We fun S hS=>?_;refine Wp.block ?_;refine Wa Xv fun K J=>?_;simp[hi,Xe,Xd,Ez.cv,hv];apply J;clear J K;refine We fun S hS=>?_;refine Wa Xv fun K J=>?_;simp[e1,se1,Xn,Kw,X8,unS,Xa,Ev.eta',e2,e3];apply J;clear J K;refine Wt (by simp) ?_;refine Wp.exit ?_;simp only[XV,Xx,if_true];clear hS S;refine hS _ ?_;clear hS S;refine Wb Xv fun K J=>?_;simp[hwm];apply J;clear J K;refine⟨_,k - 1,?_,by omega,m+1,best,by omega,this,rfl⟩;apply Gh.of<;>simp[Ez.cv]
  have e3:=eq_true q3;have hst:ZB (l.map Ez.e) pl n (m+1)=if((v.e.hart=e.e.hart∧v.e.pos<e.e.pos)∨pl[m]<pl[n])∧(best<0∨pl.getD best.toNat 0<pl[m])then(m:Int)else best:=by
   have hk:Xeb (l.map Ez.e) pl n best m↔((v.e.hart=e.e.hart∧v.e.pos<e.e.pos)∨pl[m]<pl[n])∧(best<0∨pl.getD best.toNat 0<pl[m]):=by
    unfold Xeb;rw[hgv,hge,hgpm,hgpn];simp only[ne_eq,q1,not_false_eq_true,e2,q3,true_and]
   rw[hst,Xam];simp only[hk]
  have hb:best= -1∨∃s:Nat,s<m∧best=s:=by
   rcases Int.lt_or_le best 0 with g|g
   ·exact .inl (by omega)
   ·exact .inr ⟨best.toNat,by omega,by omega⟩
  clear no hbe hlt;refine We fun S hS=>?_;refine Wa Xv fun K J=>?_;simp[hi,Xe,Ez.cv];apply J;clear J K;refine Wt (by simp) ?_;refine Wp.skip ?_;refine hS _ ?_;clear hS S;refine We fun S hS=>?_;refine Wp.block ?_;refine Wa Xv fun K J=>?_;simp[hi,Xe,Xd,Ez.cv,hv];apply J;clear J K;refine We fun S hS=>?_;refine Wa Xv fun K J=>?_;simp[e1,se1,Xn,Kw,X8,unS,Xa,Ev.eta',e2,e3];apply J;clear J K;refine Wf (by simp) ?_;refine Wp.skip ?_;refine hS _ ?_;clear hS S;refine We fun S hS=>?_;rcases hb with rfl|⟨s,hs,rfl⟩
  ·by_cases h4:v.e.hart=e.e.hart<;>by_cases h5:v.e.pos<e.e.pos<;>by_cases h6:pl[m]<pl[n]
   all_goals
    simp[h4,h5,h6]at hst
    repeat(first|((first|refine Wa Xv fun K J=>?_|refine Wb Xv fun K J=>?_|refine Wc Xv [] fun K J=>?_|refine Wd Xv [] fun K J=>?_);simp[h4,h5,h6,hpm,hpn,Xf,Xg,hwm];first|done|(with_reducible refine J _ ?_;clear J K)|(apply And.intro;(·kernel_rfl);with_reducible refine J _ ?_;clear J K))|refine We fun S hS=>?_|refine Wp.block ?_|refine Wp.skip ?_|(apply Wt;· (simp;done))|(apply Wf;· (simp;done))|(refine hS _ ?_;clear hS S)|(clear hS S;refine hS _ ?_;clear hS S))
    refine⟨_,k - 1,?_,by omega,m+1,_,by omega,hst,rfl⟩;apply Gh.of<;>simp[Ez.cv]
  ·have hps:s<pl.length:=by omega
   have hs0:((s:Int)<0)=False:=eq_false (by omega);rw[Int.toNat_natCast,Xd4 hps]at hst;by_cases h4:v.e.hart=e.e.hart<;>by_cases h5:v.e.pos<e.e.pos<;>by_cases h6:pl[m]<pl[n]<;>by_cases h7:pl[s]<pl[m]
   all_goals
    simp[h4,h5,h6,h7,hs0]at hst
    repeat(first|((first|refine Wa Xv fun K J=>?_|refine Wb Xv fun K J=>?_|refine Wc Xv [] fun K J=>?_|refine Wd Xv [] fun K J=>?_);simp[h4,h5,h6,h7,hs0,hpm,hpn,hps,Xf,Xg,hwm];first|done|(with_reducible refine J _ ?_;clear J K)|(apply And.intro;(·kernel_rfl);with_reducible refine J _ ?_;clear J K))|refine We fun S hS=>?_|refine Wp.block ?_|refine Wp.skip ?_|(apply Wt;· (simp;done))|(apply Wf;· (simp;done))|(refine hS _ ?_;clear hS S)|(clear hS S;refine hS _ ?_;clear hS S))
    refine⟨_,k - 1,?_,by omega,m+1,_,by omega,hst,rfl⟩;apply Gh.of<;>simp[Ez.cv]
 ·have hnl:m=l.length:=by omega
  subst hnl;rw[hbe]at hR;refine We fun S hS=>?_;refine Wa Xv fun K J=>?_;simp[Xe];apply J;clear J K;refine Wf (by simp) ?_;refine Wp.exit ?_;simp only[XV,Xx,if_true];clear hS S;refine hS _ ?_;clear hS S;refine Wa Xv fun K J=>?_;simp;apply J;clear J K;refine Wp.ret ?_;simp;exact hR
end Go.Proofs.YtjhfcfpkgfpoiaaGreatDoor
