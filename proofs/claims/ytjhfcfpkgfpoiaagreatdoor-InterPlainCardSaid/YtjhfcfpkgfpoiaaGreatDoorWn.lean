/- What the program and the document compute, as plain data, and laws of it. No condition. -/
import Derived.BigQuiet
import Derived.BigRegion
import Derived.ChangeAlike
import Derived.Deep.AppendLies
import Derived.Deep.CutBlock
import Derived.Deep.CutRange
import Derived.Deep.DeepCutAuto
import Derived.Deep.QuietTactic
import Derived.Deep.RegionHeld3
import Derived.Deep.RegionLaw
import Derived.IntWalk
import Derived.KernelRfl
import Derived.Laws.CopyOwn
import Derived.Laws.MakeOwn
import Derived.Laws.OwnMore
import Derived.Laws.Rows
import Derived.Lib.Hide
import Derived.Maps.AppendAt
import Derived.Maps.OwnOps
import Derived.Maps.Views
import Derived.OwnWalk
import Derived.RegionTactic
import Derived.StillTailTactics
import Derived.WalkKit
import Derived.WalkLawsBesides
import Derived.WalkSpells
import Derived.WideMake
import Derived.Test.YtjhfcfpkgfpoiaaGreatDoorDe
import Derived.Test.YtjhfcfpkgfpoiaaGreatDoorProg
import Derived.Test.YtjhfcfpkgfpoiaaGreatDoorWf
import Derived.Test.YtjhfcfpkgfpoiaaGreatDoorWg
import Derived.Test.YtjhfcfpkgfpoiaaGreatDoorWh
import Derived.Test.YtjhfcfpkgfpoiaaGreatDoorWi
import Derived.Test.YtjhfcfpkgfpoiaaGreatDoorWj
import Derived.Test.YtjhfcfpkgfpoiaaGreatDoorWk
import Derived.Test.YtjhfcfpkgfpoiaaGreatDoorWl
import Derived.Test.YtjhfcfpkgfpoiaaGreatDoorWm
namespace Go.Proofs.YtjhfcfpkgfpoiaaGreatDoor
open Go Go.RowKit Dw
set_option maxRecDepth 100000
attribute [local simp] cA cB cV Xbs Kb Xaf opE KM evO cEV_int cEV_bool cEV_str cEV_nil cEV_fn Dw.look Dw.put Dw.setD Dw.Xhq shI Xho Xhp unE GM X5 Jj Gx Je YJ XA Jf Hn Kq KD JD Kd K3 K0 Xd6 KK GF VD Xbr Xec Vr Gw Xgy Y4 Xf6 Yq Xf3 Xh1 Yw Xfi K9 chunks Dw.unC Xd7 JK YL Vc Vv KW YZ KP Xbw refs YS Vd over Xd5 eqC List.getElem?_cons_zero List.getElem?_cons_succ List.all_cons List.all_nil ty3 D3 ty4 D4 ty9 D9 Xkn Xkv D22 Xkm Xku D23 Xkl Xkt D24 Xib J7 J6 J5 J4 Xk0 ty31 D31 Xkk D38 Xkj Xks D44 Xki Xkr D50 Xia J3 fo57_1 fo57_2 fo57_3 Xkz eq57 Xh9 J2 J1 Xky Xh8 J0 JZ JY Xkx Xh7 JX JW JV JU JT JS JR JQ JP JO KI KH Xkw ty71 Xkq D71 Xkh JN JM bu75 eq75 ty97 D97 HW H3 Xk5 G9 H2 Xkg ty112 HZ D112 HV Xk4 G8 Xk3 G7 H1 Xkf G0 fo231_0 fo231_1 fo231_2 fo231_3 fo231_4 fo231_5 fo231_6 fo231_7 fo231_8 fo231_9 fo231_10 H4 H0 H6 H5 init0 init1 init2 init3 init4 init5 init6 Jz Xb9 Xdm rdL rdG rdO Xbu Zg Ge G4 Dw.del KB XV Xx YP Xex J9 Xe0 Kl erefs_agg_c XJ XT XI XQ inH Gt Gu VT Kt
abbrev pSt(c:Cz)(z:Bool)(l:List Ez)(e:Ez)(es:List (Nat×EV)):St:=
 ⟨es,[(3, .box (cV c z l)),(8, .box (e.cv.map .c))]⟩
set_option maxHeartbeats 16000000 in
theorem Xo8(c:Cz)(zl:Bool)(l:List Ez)(z:Bool)(pl:List Int)(n:Nat)(ok:Xop (l.map Ez.e) c.fr c.od pl n):
  Xq Tryz.prog 43 [Xaj c zl l,sV z 1 (Xj pl),iV .i64 n] (.val (.tup [iV .i64 (Xpr (l.map Ez.e) n:Nat),iV .i64 (Xct (l.map Ez.e) c.fr c.od pl n)])):=by
 obtain⟨hn,hfew,hofew,hfl,hpll,⟨hp1,hp2,hp3,hp4⟩,⟨hr1,hr2⟩,hfr,hpl,hod⟩:=ok;rw[List.length_map]at hn hfew hfl hpll hr2 hfr hpl hod;obtain⟨e,he⟩:∃e,l[n]=e:=⟨_,rfl⟩;have hge:(l.map Ez.e).getD n default=e.e:=by rw[Xeo hn,he]
 obtain⟨r,hr⟩:∃r,Xpr (l.map Ez.e) n=r:=⟨_,rfl⟩;have hrr:(n:Int) - (e.e.pos - e.e.pair)=r:=by rw[←hr,Xpr,hge,Int.toNat_of_nonneg];rw[hge]at hr1;exact hr1
 rw[hge]at hp1 hp2 hp3 hp4 hr1 hr2;obtain⟨W,hW⟩:∃W,Xct (l.map Ez.e) c.fr c.od pl n=W:=⟨_,rfl⟩;rw[hr,hW];have hrl:r<l.length:=by omega
 have hrf:r<c.fr.length:=by omega
 have hnp:n<pl.length:=by omega
 have w1:IntKind.i64.wrap (e.e.pos - e.e.pair)=e.e.pos - e.e.pair:=by simp only[IntKind.wrap,IntKind.bits,IntKind.signed];simp;omega
 have w2:IntKind.i64.wrap ((n:Int) - (e.e.pos - e.e.pair))=r:=by
  rw[hrr];rw[wrap_small]<;>omega
 have hs:=hfr r hrl;have hpn:=hpl n hn;unfold Xct at hW;rw[hr,Xd4 hrf,Xd4 hnp]at hW;rw[Xd4 hrf]at hs;rw[Xd4 hnp]at hpn;obtain⟨s,hsv⟩:∃s,c.fr[r]=s:=⟨_,rfl⟩;obtain⟨pn,hpv⟩:∃p,pl[n]=p:=⟨_,rfl⟩;rw[hsv]at hs hW;rw[hpv]at hpn hW;unfold Xaj;refine Xi (rs:=[.tmp 6, .tmp 7]) (Xk _) Tryz.func43 rfl Tryz.ntmps43 rfl (by simp) ?_;refine Wa Xv fun K J=>?_;simp;apply J;clear J K;refine Wa Xv fun K J=>?_;simp[hn,Xe,Xd,Ez.cv,he];apply J;clear J K;refine Wa Xv fun K J=>?_;simp[w1,w2];apply J;clear J K;refine Wa Xv fun K J=>?_;simp[hrf,Xf,Xg,hsv];apply J;clear J K;refine Wa Xv fun K J=>?_;simp;apply J;clear J K;refine We fun S hS=>?_;refine Wa Xv fun K J=>?_;simp;apply J;clear J K;have rest:∀(v:Int) (st:St), -1≤v→v<c.od.length→ZL (l.map Ez.e) c.od n (v+1).toNat pn.toNat=W→Gh st (pSt c zl l e [(1,sV z 1 (Xj pl)),(2,iV .i64 n),(3, .one (.ptr 3 0)),(8, .one (.ptr 8 0)),(9,iV .i64 r),(11,iV .i64 v)])→S st:=by
  intro v st hv1 hv2 hU hg;refine hS _ (Wp.gh hg ?_);clear hS hg hW;obtain⟨a,ha⟩:∃a:Nat,v+1=a:=⟨(v+1).toNat,by omega⟩;rw[ha,Int.toNat_natCast]at hU;have wa:IntKind.i64.wrap (v+1)=a:=by rw[ha,wrap_small]<;>omega
  refine We fun S hS=>?_;refine Wa Xv fun K J=>?_;simp[wa];apply J;clear J K;refine Wp.block ?_;refine Wp.loop (fun k s=>∃i:Nat,i+k=c.od.length+1∧a≤i∧(∀j,a≤j→j<i→ZM (l.map Ez.e) c.od n j=false)∧s=pSt c zl l e [(1,sV z 1 (Xj pl)),(2,iV .i64 n),(3, .one (.ptr 3 0)),(8, .one (.ptr 8 0)),(9,iV .i64 r),(12,iV .i64 i)])
   (c.od.length+1 - a) (s0:=pSt c zl l e [(1,sV z 1 (Xj pl)),(2,iV .i64 n),(3, .one (.ptr 3 0)),(8, .one (.ptr 8 0)),(9,iV .i64 r),(12,iV .i64 a)]) ?_ ⟨a,by omega,Nat.le_refl _,fun j h1 h2=>by omega,rfl⟩ fun k s ⟨i,hik,hai,hno,hs'⟩=>?_
  ·apply Gh.of<;>simp[Ez.cv]
  subst hs';by_cases hi:(i:Int)<pn
  ·have hwi:IntKind.i64.wrap ((i:Int)+1)=(i+1:Nat):=by rw[wrap_small]<;>omega
   have hio:i<c.od.length:=by omega
   have ho:=hod i hio;rw[Xd4 hio]at ho;obtain⟨o,hov⟩:∃o:Nat,c.od[i]=o:=⟨(c.od[i]).toNat,by omega⟩;rw[hov]at ho;have hol:o<l.length:=by omega
   obtain⟨x,hx⟩:∃x,l[o]=x:=⟨_,rfl⟩;have hgx:(l.map Ez.e).getD o default=x.e:=by rw[Xeo hol,hx]
   have hat:ZM (l.map Ez.e) c.od n i=(decide (x.e.hart≠e.e.hart)&&(x.e.writes&&decide (x.e.addr=e.e.addr))):=by
    unfold ZM;rw[Xd4 hio,hov,Int.toNat_natCast,hgx,hge]
   refine We fun S hS=>?_;refine Wa Xv fun K J=>?_;simp[hnp,hpv,hi,Xf,Xg];apply J;clear J K;refine Wt (by simp) ?_;refine Wp.skip ?_;refine hS _ ?_;clear hS S;refine We fun S hS=>?_;refine Wp.block ?_;refine We fun S hS=>?_
   repeat(first|(refine We fun S hS=>?_)|(refine Wp.block ?_)|(refine Wp.skip ?_)|(refine hS _ ?_;clear hS S)|(clear hS S;refine hS _ ?_;clear hS S)|(clear hS S;clear hS S;refine hS _ ?_;clear hS S))
   ((first|refine Wa Xv fun K J=>?_|refine Wb Xv fun K J=>?_|refine Wc Xv [13] fun K J=>?_|refine Wd Xv [13] fun K J=>?_);simp[hio,hov,hol,Xe,Xd,Xf,Xg,Ez.cv,hx];apply And.intro;(·kernel_rfl);with_reducible refine J _ ?_;clear J K)
   by_cases q1:x.e.hart=e.e.hart
   ·have e1:=eq_true q1;refine hS _ ?_;clear hS S;refine Wa Xv fun K J=>?_;simp[e1];apply J;clear J K;refine Wf (by simp) ?_;refine Wp.skip ?_;refine hS _ ?_;clear hS S;refine Wb Xv fun K J=>?_;simp[hwi];apply J;clear J K;refine⟨pSt c zl l e [(1,sV z 1 (Xj pl)),(2,iV .i64 n),(3, .one (.ptr 3 0)),(8, .one (.ptr 8 0)),(9,iV .i64 r),(12,iV .i64 (i+1:Nat))],k - 1,?_,by omega,i+1,by omega,by omega,fun j h1 h2=>?_,rfl⟩
    ·apply Gh.of<;>simp[Ez.cv]
    rcases Nat.lt_or_ge j i with g|g
    ·exact hno j h1 g
    ·obtain rfl:j=i:=by omega
     rw[hat];simp[q1]
   have e1:=eq_false q1;cases e2:x.e.writes
   ·refine hS _ ?_;clear hS S;refine Wa Xv fun K J=>?_;simp[e1,se1,Xn,Kw,X8,unS,Xa,Ev.eta',e2];apply J;clear J K;refine Wf (by simp) ?_;refine Wp.skip ?_;refine hS _ ?_;clear hS S;refine Wb Xv fun K J=>?_;simp[hwi];apply J;clear J K;refine⟨pSt c zl l e [(1,sV z 1 (Xj pl)),(2,iV .i64 n),(3, .one (.ptr 3 0)),(8, .one (.ptr 8 0)),(9,iV .i64 r),(12,iV .i64 (i+1:Nat))],k - 1,?_,by omega,i+1,by omega,by omega,fun j h1 h2=>?_,rfl⟩
    ·apply Gh.of<;>simp[Ez.cv]
    rcases Nat.lt_or_ge j i with g|g
    ·exact hno j h1 g
    ·obtain rfl:j=i:=by omega
     rw[hat,e2];simp
   by_cases q3:x.e.addr=e.e.addr
   case neg=>
    have e3:=eq_false q3;refine hS _ ?_;clear hS S;refine Wa Xv fun K J=>?_;simp[e1,se1,Xn,Kw,X8,unS,Xa,Ev.eta',e2,e3];apply J;clear J K;refine Wf (by simp) ?_;refine Wp.skip ?_;refine hS _ ?_;clear hS S;refine Wb Xv fun K J=>?_;simp[hwi];apply J;clear J K;refine⟨pSt c zl l e [(1,sV z 1 (Xj pl)),(2,iV .i64 n),(3, .one (.ptr 3 0)),(8, .one (.ptr 8 0)),(9,iV .i64 r),(12,iV .i64 (i+1:Nat))],k - 1,?_,by omega,i+1,by omega,by omega,fun j h1 h2=>?_,rfl⟩
    ·apply Gh.of<;>simp[Ez.cv]
    rcases Nat.lt_or_ge j i with g|g
    ·exact hno j h1 g
    ·obtain rfl:j=i:=by omega
     rw[hat,e2];simp[q3]
   have e3:=eq_true q3;have hw:ZL (l.map Ez.e) c.od n a pn.toNat=o:=by
    rw[Xtd hai (by omega) (by rw[hat,e2];simp[q1,q3]) hno,Xd4 hio,hov]
   rw[hw]at hU;refine hS _ ?_;clear hS S;refine Wa Xv fun K J=>?_;simp[e1,se1,Xn,Kw,X8,unS,Xa,Ev.eta',e2,e3];apply J;clear J K;refine Wt (by simp) ?_;refine We fun S hS=>?_
   repeat(first|(refine We fun S hS=>?_)|(refine Wp.block ?_)|(refine Wp.skip ?_)|(refine hS _ ?_;clear hS S)|(clear hS S;refine hS _ ?_;clear hS S)|(clear hS S;clear hS S;refine hS _ ?_;clear hS S))
   ((first|refine Wa Xv fun K J=>?_|refine Wb Xv fun K J=>?_|refine Wc Xv [] fun K J=>?_|refine Wd Xv [] fun K J=>?_);simp[hio,hov,Xf,Xg];apply And.intro;(·kernel_rfl);with_reducible refine J _ ?_;clear J K)
   refine hS _ ?_;clear hS S;refine Wp.ret ?_;simp;exact hU
  ·have hw:ZL (l.map Ez.e) c.od n a pn.toNat= -1:=Xtc fun j h1 h2=>hno j h1 (by omega);rw[hw]at hU;refine We fun S hS=>?_;refine Wa Xv fun K J=>?_;simp[hnp,hpv,hi,Xf,Xg];apply J;clear J K;refine Wf (by simp) ?_;refine Wp.exit ?_;simp only[XV,Xx,if_true];clear hS S;refine hS _ ?_;clear hS S;refine Wa Xv fun K J=>?_;simp;apply J;clear J K;refine Wp.ret ?_;simp;exact hU
 by_cases h0:0≤s
 ·rw[if_pos h0]at hW;obtain⟨m,rfl⟩:∃m:Nat,s=m:=⟨s.toNat,by omega⟩;have hml:m<l.length:=by omega
  have hmp:m<pl.length:=by omega
  have hpm:=hpl m hml;rw[Int.toNat_natCast,Xd4 hmp]at hW;rw[Xd4 hmp]at hpm;obtain⟨q,hq⟩:∃q,pl[m]=q:=⟨_,rfl⟩;rw[hq]at hW hpm;by_cases hle:pn≤q
  ·rw[if_pos hle]at hW;clear rest;refine Wt (by simp[h0]) ?_;refine Wa Xv fun K J=>?_;simp[h0,hmp,hq,Xf,Xg];apply J;clear J K;refine Wa Xv fun K J=>?_;simp[hnp,hpv,hle,Xf,Xg];apply J;clear J K;refine Wt (by simp) ?_;refine Wa Xv fun K J=>?_;simp;apply J;clear J K;refine Wp.ret ?_;simp;exact hW
  ·rw[if_neg hle]at hW;clear hS;refine Wt (by simp[h0]) ?_;refine Wa Xv fun K J=>?_;simp[h0,hmp,hq,Xf,Xg];apply J;clear J K;refine Wa Xv fun K J=>?_;simp[hnp,hpv,hle,Xf,Xg];apply J;clear J K;refine Wf (by simp) ?_;refine Wp.skip ?_;refine rest q _ (by omega) (by omega) hW ?_;apply Gh.of<;>simp[Ez.cv]
 ·rw[if_neg h0]at hW;clear hS;refine Wf (by simp[h0]) ?_;refine Wp.skip ?_;refine rest (-1) _ (by omega) (by omega) (by simpa using hW) ?_;apply Gh.of<;>simp[Ez.cv]
def Xby(b:Bool)(x y z:Int):EV:= .agg [.c (.sc (.bool b)), .c (.sc (.int .i64 x)), .c (.sc (.int .i64 y)), .c (.sc (.int .i64 z))]
theorem Xsy(x y z:Int):Xq Tryz.prog 38 [iV .i64 x,iV .i64 y,iV .i64 z] (.val (Xby false x y z)):=by
 unfold Xby;refine Xi (rs:=[.cell 6 57]) (Xk _) Tryz.func38 rfl Tryz.ntmps38 rfl (by simp) ?_;refine Wa Xb fun K J=>?_;simp;apply J;clear J K;refine Wa Xb fun K J=>?_;simp;apply J;clear J K;refine Wp.ret ?_;simp
def Yfi(L:List Nat):List (Cv×Cv):=L.map fun x:Nat=>(.sc (.int .i64 (x:Int)), .sc (.int .i64 1))
def Xc9(x:Nat):List Nat→Nat→Option Nat
 |[],_=>none
 |y::r,i=>if x=y then some i else Xc9 x r (i+1)
theorem Kh(x:Nat)(L:List Nat)(i:Nat):Xbz (.int .i64) (.sc (.int .i64 x)) (Yfi L) i=some ((Xc9 x L i).map fun j=>(j, .sc (.int .i64 1))):=by
 induction L generalizing i with
 |nil=>rfl
 |cons y r ih=>
  simp only[Yfi,List.map_cons,Xbz,Xsp,if_true,Xc9];by_cases h:x=y
  ·simp[h]
  ·have:¬(x:Int)=y:=by omega
   simp only[decide_eq_false this,if_neg h];exact ih (i+1)
theorem Vn{x:Nat}{L:List Nat}{i:Nat}:Xc9 x L i=none↔x∉L:=by
 induction L generalizing i with
 |nil=>simp[Xc9]
 |cons y r ih=>
  unfold Xc9;by_cases h:x=y
  ·simp[h]
  ·rw[if_neg h,ih];simp[h]
abbrev wSt(c:Cz)(z:Bool)(l:List Ez)(es:List (Nat×EV))(L:List Nat):St:=
 ⟨es,[(3, .box (cV c z l)),(15, .map (Yfi L))]⟩
set_option maxHeartbeats 16000000 in
theorem Xll(c:Cz)(z:Bool)(l:List Ez)(a b:Nat)(hab:a<b)(hb:b<l.length)(ok:Xd3 (l.map Ez.e))(hl:c.fr.length=l.length):
  Xq Tryz.prog 17 [Xaj c z l,iV .i64 a,iV .i64 b] (.val (bV (H9 (l.map Ez.e) c.fr a b))):=by
 have bok:=eq_true ok;have bl:=eq_true hl;have hn:=ok.n;rw[List.length_map]at hn;have ha:a<l.length:=by omega
 have hwa:IntKind.i64.wrap ((a:Int)+1)=(a+1:Nat):=by rw[wrap_small]<;>omega
 have hR:=Xai (es:=l.map Ez.e) (fr:=c.fr) (a:=a) (b:=b);generalize H9 (l.map Ez.e) c.fr a b=R at*
 unfold Xaj;refine Xi (rs:=[.tmp 6]) (Xk _) Tryz.func17 rfl Tryz.ntmps17 rfl (by simp) ?_;cases hd:Hy (l.map Ez.e) a b
 ·obtain rfl:R=false:=by cases R with|false=>rfl|true=>exact absurd (hR.1 rfl).1 (by rw[hd];simp)
  refine Wa Ka fun K J=>?_;simp;apply J;clear J K;refine We fun S hS=>?_;refine Wa Ka fun K J=>?_;simp[se5,se3,Xn,Xaw,Yd,ha,hb,hd];apply J;clear J K;refine Wt (by simp) ?_;refine Wa Ka fun K J=>?_;simp;apply J;clear J K;refine Wp.ret ?_;simp
 rw[hd]at hR;refine Wa Ka fun K J=>?_;simp;apply J;clear J K;refine We fun S hS=>?_;refine Wa Ka fun K J=>?_;simp[se5,se3,Xn,Xaw,Yd,ha,hb,hd];apply J;clear J K;refine Wf (by simp) ?_;refine Wp.skip ?_;refine hS _ ?_;clear hS S;refine Wa Ka fun K J=>?_;simp[Xbz];apply J;clear J K;refine We fun S hS=>?_;refine Wa Ka fun K J=>?_;simp[hwa];apply J;clear J K;refine Wp.block ?_;refine Wp.loop (fun k s=>∃(n:Nat) (L:List Nat),n+k=b+1∧a<n∧(∀x,x∈L↔x<n∧Led (l.map Ez.e) c.fr a x)∧s=wSt c z l [(1,iV .i64 a),(2,iV .i64 b),(3, .one (.ptr 3 0)),(7, .one (.map 15)),(8,iV .i64 n)] L)
  (b - a) (s0:=wSt c z l [(1,iV .i64 a),(2,iV .i64 b),(3, .one (.ptr 3 0)),(7, .one (.map 15)),(8,iV .i64 (a+1:Nat))] [a]) ?_ ⟨a+1,[a],by omega,by omega,fun x=>?_,rfl⟩ fun k s ⟨n,L,hnk,han,hL,hs⟩=>?_
 ·apply Gh.of<;>simp[Yfi]
 ·constructor
  ·intro h;obtain rfl:x=a:=by simpa using h
   exact⟨by omega, .here⟩
  ·rintro⟨h1,h2⟩;have:=h2.le;simp;omega
 subst hs;refine We fun S hS=>?_;refine Wa Ka fun K J=>?_;simp;apply J;clear J K;refine Wp.cond rfl (fun hc=>?_) (fun hc=>?_)
 ·have hnb:n≤b:=by have:=of_decide_eq_true hc;omega
  have hnl:n<l.length:=by omega
  have hwn:IntKind.i64.wrap ((n:Int)+1)=(n+1:Nat):=by rw[wrap_small]<;>omega
  clear hc;refine Wp.skip ?_;refine hS _ ?_;clear hS S;refine We fun S hS=>?_;refine Wp.block ?_;refine Wa Ka fun K J=>?_;simp;apply J;clear J K;refine Wp.block ?_;refine Wp.loop (fun k s=>∃(m:Nat) (L':List Nat),m+k=n∧a≤m∧(L'=L∧(∀i,i<m→¬(Led (l.map Ez.e) c.fr a i∧0<G2 (l.map Ez.e) c.fr i n))∨L'=L++[n]∧Led (l.map Ez.e) c.fr a n)∧s=wSt c z l [(1,iV .i64 a),(2,iV .i64 b),(3, .one (.ptr 3 0)),(7, .one (.map 15)),(8,iV .i64 n),(9,iV .i64 m)] L')
   (n - a) (s0:=wSt c z l [(1,iV .i64 a),(2,iV .i64 b),(3, .one (.ptr 3 0)),(7, .one (.map 15)),(8,iV .i64 n),(9,iV .i64 a)] L) ?_ ⟨a,L,by omega,by omega, .inl ⟨rfl,fun i h h2=>by have:=h2.1.le;omega⟩,rfl⟩ fun k2 s ⟨m,L',hmk,ham,hL',hs⟩=>?_
  ·apply Gh.of<;>simp
  subst hs;by_cases hct:m<n∧Xc9 n L' 0=none
  ·obtain⟨hm,hno⟩:=hct;have hni:=Vn.1 hno;obtain⟨rfl,hun⟩:L'=L∧∀i,i<m→¬(Led (l.map Ez.e) c.fr a i∧0<G2 (l.map Ez.e) c.fr i n):=by
    rcases hL' with h|⟨rfl,_⟩
    ·exact h
    ·exact absurd (by simp) hni
   have hwm:IntKind.i64.wrap ((m:Int)+1)=(m+1:Nat):=by rw[wrap_small]<;>omega
   clear hL';cases hf:Xc9 m L' 0 with
   |none=>
    have hml:=Vn.1 hf;refine We fun S hS=>?_;refine Wa Ka fun K J=>?_;simp[Kh,hm,hno];apply J;clear J K;refine Wt (by simp) ?_;refine Wp.skip ?_;refine hS _ ?_;clear hS S;refine We fun S hS=>?_;refine Wp.block ?_;refine Wa Ka fun K J=>?_;simp[Kh,hf];apply J;clear J K;refine Wf (by simp) ?_;refine Wp.skip ?_;refine hS _ ?_;clear hS S;refine Wb Ka fun K J=>?_;simp[hwm];apply J;clear J K;refine⟨wSt c z l [(1,iV .i64 a),(2,iV .i64 b),(3, .one (.ptr 3 0)),(7, .one (.map 15)),(8,iV .i64 n),(9,iV .i64 (m+1:Nat))] L',k2 - 1,?_,by omega,m+1,L',by omega,by omega, .inl ⟨rfl,fun i hi h=>?_⟩,rfl⟩
    ·apply Gh.of<;>simp
    rcases Nat.lt_or_ge i m with g|g
    ·exact hun i g h
    ·obtain rfl:i=m:=by omega
     exact hml ((hL i).2 ⟨hm,h.1⟩)
   |some j=>
    have hml:m∈L':=Classical.byContradiction fun q=>by rw[Vn.2 q]at hf;cases hf
    by_cases hr:0<G2 (l.map Ez.e) c.fr m n
    ·refine We fun S hS=>?_;refine Wa Ka fun K J=>?_;simp[Kh,hm,hno];apply J;clear J K;refine Wt (by simp) ?_;refine Wp.skip ?_;refine hS _ ?_;clear hS S;refine We fun S hS=>?_;refine Wp.block ?_;refine Wa Ka fun K J=>?_;simp[Kh,hm,hf,se5,Xn,Xbk,Yd,hnl,bok,bl,hr];apply J;clear J K;refine Wt (by simp) ?_;refine Wb Ka fun K J=>?_;simp[Kh,hno];apply J;clear J K;refine hS _ ?_;clear hS S;refine Wb Ka fun K J=>?_;simp[hwm];apply J;clear J K;refine⟨wSt c z l [(1,iV .i64 a),(2,iV .i64 b),(3, .one (.ptr 3 0)),(7, .one (.map 15)),(8,iV .i64 n),(9,iV .i64 (m+1:Nat))] (L'++[n]),k2 - 1,?_,by omega,m+1,L'++[n],by omega,by omega, .inr ⟨rfl, .step ((hL m).1 hml).2 hm hr⟩,rfl⟩;apply Gh.of<;>simp;simp[Yfi]
    ·refine We fun S hS=>?_;refine Wa Ka fun K J=>?_;simp[Kh,hm,hno];apply J;clear J K;refine Wt (by simp) ?_;refine Wp.skip ?_;refine hS _ ?_;clear hS S;refine We fun S hS=>?_;refine Wp.block ?_;refine Wa Ka fun K J=>?_;simp[Kh,hm,hf,se5,Xn,Xbk,Yd,hnl,bok,bl,hr];apply J;clear J K;refine Wf (by simp) ?_;refine Wp.skip ?_;refine hS _ ?_;clear hS S;refine Wb Ka fun K J=>?_;simp[hwm];apply J;clear J K;refine⟨wSt c z l [(1,iV .i64 a),(2,iV .i64 b),(3, .one (.ptr 3 0)),(7, .one (.map 15)),(8,iV .i64 n),(9,iV .i64 (m+1:Nat))] L',k2 - 1,?_,by omega,m+1,L',by omega,by omega, .inl ⟨rfl,fun i hi h=>?_⟩,rfl⟩
     ·apply Gh.of<;>simp
     rcases Nat.lt_or_ge i m with g|g
     ·exact hun i g h
     ·obtain rfl:i=m:=by omega
      exact hr h.2
  ·have hL2:∀x,x∈L'↔x<n+1∧Led (l.map Ez.e) c.fr a x:=by
    intro x;rcases hL' with⟨rfl,hun⟩|⟨rfl,hln⟩
    ·have hni:n∉L':=fun q=>by have:=((hL n).1 q).1;omega
     have hmn:¬m<n:=fun q=>hct ⟨q,Vn.2 hni⟩;have hnot:¬Led (l.map Ez.e) c.fr a n:=fun q=>by
      obtain⟨i,h1,h2,h3,h4⟩:=q.cases' (by omega);exact hun i (by omega) ⟨h3,h4⟩
     rw[hL x];constructor
     ·exact fun h=>⟨by omega,h.2⟩
     ·rintro⟨h1,h2⟩;refine⟨?_,h2⟩;rcases Nat.lt_or_ge x n with g|g
      ·exact g
      ·obtain rfl:x=n:=by omega
       exact absurd h2 hnot
    ·rw[List.mem_append,hL x,List.mem_singleton];constructor
     ·rintro(h|rfl)
      ·exact⟨by omega,h.2⟩
      ·exact⟨by omega,hln⟩
     ·rintro⟨h1,h2⟩;rcases Nat.lt_or_ge x n with g|g
      ·exact .inl ⟨g,h2⟩
      ·exact .inr (by omega)
   by_cases hm:m<n
   ·obtain⟨j,hj⟩:∃j,Xc9 n L' 0=some j:=by
     cases h:Xc9 n L' 0 with
     |none=>exact absurd ⟨hm,h⟩ hct
     |some j=>exact⟨j,rfl⟩
    refine We fun S hS=>?_;refine Wa Ka fun K J=>?_;simp[Kh,hm,hj];apply J;clear J K;refine Wf (by simp) ?_;refine Wp.exit ?_;simp only[XV,Xx,if_true];clear hS S;refine hS _ ?_;clear hS S;refine Wb Ka fun K J=>?_;simp[hwn];apply J;clear J K;refine⟨wSt c z l [(1,iV .i64 a),(2,iV .i64 b),(3, .one (.ptr 3 0)),(7, .one (.map 15)),(8,iV .i64 (n+1:Nat))] L',k - 1,?_,by omega,n+1,L',by omega,by omega,hL2,rfl⟩;apply Gh.of<;>simp
   ·refine We fun S hS=>?_;refine Wa Ka fun K J=>?_;simp[hm];apply J;clear J K;refine Wf (by simp) ?_;refine Wp.exit ?_;simp only[XV,Xx,if_true];clear hS S;refine hS _ ?_;clear hS S;refine Wb Ka fun K J=>?_;simp[hwn];apply J;clear J K;refine⟨wSt c z l [(1,iV .i64 a),(2,iV .i64 b),(3, .one (.ptr 3 0)),(7, .one (.map 15)),(8,iV .i64 (n+1:Nat))] L',k - 1,?_,by omega,n+1,L',by omega,by omega,hL2,rfl⟩;apply Gh.of<;>simp
 ·have hnb:b<n:=by have:=of_decide_eq_false hc;omega
  refine Wp.exit ?_;simp only[XV,Xx,if_true];clear hc;have hbL:=hL b;cases hf:Xc9 b L 0 with
  |none=>
   have hml:=Vn.1 hf;obtain rfl:R=false:=by cases R with|false=>rfl|true=>exact absurd (hbL.2 ⟨hnb,(hR.1 rfl).2⟩) hml
   clear hS S;refine hS _ ?_;clear hS S;refine Wa Ka fun K J=>?_;simp[Kh,hf];apply J;clear J K;refine Wp.ret ?_;simp
  |some j=>
   have hml:b∈L:=Classical.byContradiction fun q=>by rw[Vn.2 q]at hf;cases hf
   obtain rfl:R=true:=hR.2 ⟨rfl,(hbL.1 hml).2⟩;clear hS S;refine hS _ ?_;clear hS S;refine Wa Ka fun K J=>?_;simp[Kh,hf];apply J;clear J K;refine Wp.ret ?_;simp
noncomputable def Xha:List EV→Option (Prop×YX)
 |[v, .one (.c (.sc (.int .i64 a))), .one (.c (.sc (.int .i64 b)))]=>(match Za v with
  |some (c,_,l)=>some (0≤a∧a<b∧b<l.length∧Xd3 (l.map Ez.e)∧c.fr.length=l.length, .val (bV (H9 (l.map Ez.e) c.fr a.toNat b.toNat)))
  |none=>none)
 |_=>none
def Xyp:List EV→Option (Prop×YX)
 |[v]=>(match KJ v with|some c=>some (H7 c, .val (.tup [Xh5 c (JF c),bV (XU (Yx c))]))|none=>none)
 |_=>none
noncomputable def sf1:Dw.Spec:=Xn 17 Xha (Xn 15 Xyp (Xn 16 (Kw Ev.mem) sk2))
theorem Yg:XF Tryz.prog sf1:=by
 refine Xp ⟨⟨_,Tryz.func17,rfl,rfl⟩⟩ (fun vs p r h hp=>?_) (Xp ⟨⟨_,Tryz.func15,rfl,rfl⟩⟩ (fun vs p r h hp=>?_) (Xp ⟨⟨_,Tryz.func16,rfl,rfl⟩⟩ (Xay ZG) VJ))
 ·unfold Xha at h;split at h
  ·rename_i v a b;split at h
   ·rename_i c z l hv;simp only[Option.some.injEq,Prod.mk.injEq]at h;obtain⟨rfl,rfl⟩:=h;obtain⟨h1,h2,h3,h4,h5⟩:=hp;obtain⟨a,rfl⟩:∃m:Nat,a=m:=⟨a.toNat,by omega⟩;obtain⟨b,rfl⟩:∃m:Nat,b=m:=⟨b.toNat,by omega⟩;rw[Vq hv];exact Xll c z l a b (by omega) (by omega) h4 h5
   ·cases h
  ·cases h
 ·unfold Xyp at h;split at h
  ·split at h
   ·rename_i c hc;simp only[Option.some.injEq,Prod.mk.injEq]at h;obtain⟨rfl,rfl⟩:=h;rw[Yk hc];exact Xni c hp
   ·cases h
  ·cases h
set_option maxHeartbeats 16000000 in
theorem Xpe(c:Cz)(hc0:H7 c)(hev:Xd3 ((JF c).map Ez.e))(hfl:XU (Yx c)=true→c.fr.length=(JF c).length):
  ∃R:Bool,(R=true↔XU (Yx c)=true∧Xhz ((JF c).map Ez.e) c.fr)∧Xq Tryz.prog 7 [Yo c] (.val (bV R)):=by
 classical
 obtain⟨R,hR⟩:∃R:Bool,(R=true↔XU (Yx c)=true∧Xhz ((JF c).map Ez.e) c.fr):=⟨decide (XU (Yx c)=true∧Xhz ((JF c).map Ez.e) c.fr),by simp⟩;refine⟨R,hR,?_⟩;have bok:=eq_true hc0;have bev:=eq_true hev;have hno:XU (Yx c)=false→JF c=[]:=fun h=>by simp[JF,h]
 have hn:=hev.n;rw[List.length_map]at hn;obtain⟨l,hl⟩:∃l,JF c=l:=⟨_,rfl⟩;rw[hl]at hn bev hfl hno hR;obtain⟨zl,hz⟩:∃z,decide (l=[])=z:=⟨_,rfl⟩;unfold Yo;refine Xi (rs:=[.tmp 2]) (Xk _) Tryz.func7 rfl Tryz.ntmps7 rfl (by simp) ?_;cases hck:XU (Yx c)
 ·obtain rfl:=hno hck;obtain rfl:R=false:=by cases R with|false=>rfl|true=>exact absurd (hR.1 rfl).1 (by rw[hck];simp)
  obtain rfl:zl=true:=by rw[←hz];rfl
  refine Wa Yg fun K J=>?_;simp;apply J;clear J K;refine Wa Yg fun K J=>?_;simp[sf1,Xn,Xyp,Xh5,Xs,bok,hl,hck];apply J;clear J K;refine Wa Yg fun K J=>?_;simp;apply J;clear J K;refine We fun S hS=>?_;refine Wa Yg fun K J=>?_;simp;apply J;clear J K;refine Wp.block ?_;refine Wp.loop (fun k s=>s=⟨[(3, .one (.ptr 3 0)),(4,bV false),(6,iV .i64 (0:Nat))],[(3, .box [.c (.sl c.z1 2 (KY c.f)), .c (.sl c.z2 1 (XW c.hs)), .c (.sl c.z3 1 (Xj c.fr)), .c (.sl c.z4 1 (Xj c.od)), .c (.sl true 14 [])])]⟩)
   0 (s0:=⟨[(3, .one (.ptr 3 0)),(4,bV false),(6,iV .i64 (0:Nat))],[(3, .box [.c (.sl c.z1 2 (KY c.f)), .c (.sl c.z2 1 (XW c.hs)), .c (.sl c.z3 1 (Xj c.fr)), .c (.sl c.z4 1 (Xj c.od)), .c (.sl true 14 [])])]⟩) ?_ rfl fun k s hs=>?_
  ·apply Gh.of<;>simp[Yc]
  subst hs;refine We fun S hS=>?_;refine Wa Yg fun K J=>?_;simp;apply J;clear J K;refine Wf (by simp) ?_;refine Wp.exit ?_;simp only[XV,Xx,if_true];clear hS S;refine hS _ ?_;clear hS S;refine Wa Yg fun K J=>?_;simp;apply J;clear J K;refine Wp.ret ?_;simp
 rw[hck]at hR;have hfl:=hfl hck;have bfl:=eq_true hfl;refine Wa Yg fun K J=>?_;simp;apply J;clear J K;refine Wa Yg fun K J=>?_;simp[sf1,Xn,Xyp,Xh5,Xs,bok,hl,hz,hck];apply J;clear J K;refine Wa Yg fun K J=>?_;simp;apply J;clear J K;refine We fun S hS=>?_;refine Wa Yg fun K J=>?_;simp;apply J;clear J K;refine Wp.block ?_;refine Wp.loop (fun k s=>∃(n:Nat) (last:Int),n+k=l.length∧(last= -1∧(∀m,m<n→((l.map Ez.e).getD m default).mem=false)∨∃j:Nat,last=j∧j<n∧((l.map Ez.e).getD j default).mem=true∧∀m,j<m→m<n→((l.map Ez.e).getD m default).mem=false)∧
   (∀i m,m<n→Next (l.map Ez.e) i m→((l.map Ez.e).getD i default).hart=((l.map Ez.e).getD m default).hart→H9 (l.map Ez.e) c.fr i m=true)∧
   s=⟨[(3, .one (.ptr 3 0)),(4,bV true),(5,iV .i64 last),(6,iV .i64 n)],[(3, .box (cV c zl l))]⟩)
  l.length (s0:=⟨[(3, .one (.ptr 3 0)),(4,bV true),(5,iV .i64 (-1)),(6,iV .i64 (0:Nat))],[(3, .box (cV c zl l))]⟩) ?_ ⟨0, -1,by simp, .inl ⟨rfl,fun m h=>by omega⟩,fun i m h=>by omega,rfl⟩ fun k s ⟨n,last,hnk,hla,hP,hs⟩=>?_
 ·apply Gh.of<;>simp
 subst hs;by_cases hi:n<l.length
 ·have hwn:IntKind.i64.wrap ((n:Int)+1)=(n+1:Nat):=by rw[wrap_small]<;>omega
  obtain⟨x,hx⟩:∃x,l[n]=x:=⟨_,rfl⟩;have hgx:(l.map Ez.e).getD n default=x.e:=by rw[Xeo hi,hx]
  refine We fun S hS=>?_;refine Wa Yg fun K J=>?_;simp[hi,Xe];apply J;clear J K;refine Wt (by simp) ?_;refine Wp.skip ?_;refine hS _ ?_;clear hS S;refine We fun S hS=>?_;refine Wp.block ?_;refine We fun S hS=>?_;refine We fun S hS=>?_
  repeat(first|(refine We fun S hS=>?_)|(refine Wp.block ?_)|(refine Wp.skip ?_)|(refine hS _ ?_;clear hS S)|(clear hS S;refine hS _ ?_;clear hS S)|(clear hS S;clear hS S;refine hS _ ?_;clear hS S))
  first|refine Wa Yg fun K J=>?_|refine Wb Yg fun K J=>?_|refine Wc Yg [] fun K J=>?_|refine Wd Yg [] fun K J=>?_
  simp[sf1,Xn,Kw,X8,unS,Xa,Ev.eta',hi,Xe,Xd,Ez.cv,hx];apply J;clear J K;cases hm:x.e.mem
  ·have hmn:((l.map Ez.e).getD n default).mem=false:=by rw[hgx,hm]
   refine hS _ ?_;clear hS S;refine Wt (by simp) ?_;refine Wp.exit ?_;simp only[XV,Xx,if_true];clear hS S;refine hS _ ?_;clear hS S;refine Wb Yg fun K J=>?_;simp[hwn];apply J;clear J K;refine⟨⟨[(3, .one (.ptr 3 0)),(4,bV true),(5,iV .i64 last),(6,iV .i64 (n+1:Nat))],[(3, .box (cV c zl l))]⟩,k - 1,?_,by omega,n+1,last,by omega,?_,fun i m h hne hh=>?_,rfl⟩
   ·apply Gh.of<;>simp
   ·rcases hla with⟨h1,h2⟩|⟨j,h1,h2,h3,h4⟩
    ·refine .inl ⟨h1,fun m h=>?_⟩;rcases Nat.lt_or_ge m n with g|g
     ·exact h2 m g
     ·obtain rfl:m=n:=by omega
      exact hmn
    ·refine .inr ⟨j,h1,by omega,h3,fun m g1 g2=>?_⟩;rcases Nat.lt_or_ge m n with g|g
     ·exact h4 m g1 g
     ·obtain rfl:m=n:=by omega
      exact hmn
   ·rcases Nat.lt_or_ge m n with g|g
    ·exact hP i m g hne hh
    ·obtain rfl:m=n:=by omega
     have:=hne.2.2.2.1;rw[hmn]at this;cases this
  ·have hmn:((l.map Ez.e).getD n default).mem=true:=by rw[hgx,hm]
   have done_:(∀i m,m<n+1→Next (l.map Ez.e) i m→((l.map Ez.e).getD i default).hart=((l.map Ez.e).getD m default).hart→H9 (l.map Ez.e) c.fr i m=true)→
     (∃(n':Nat) (last':Int),n'+(k - 1)=l.length∧(last'= -1∧(∀m,m<n'→((l.map Ez.e).getD m default).mem=false)∨∃j:Nat,last'=j∧j<n'∧((l.map Ez.e).getD j default).mem=true∧∀m,j<m→m<n'→((l.map Ez.e).getD m default).mem=false)∧
      (∀i m,m<n'→Next (l.map Ez.e) i m→((l.map Ez.e).getD i default).hart=((l.map Ez.e).getD m default).hart→H9 (l.map Ez.e) c.fr i m=true)∧
      (⟨[(3, .one (.ptr 3 0)),(4,bV true),(5,iV .i64 n),(6,iV .i64 (n+1:Nat))],[(3, .box (cV c zl l))]⟩:St)=⟨[(3, .one (.ptr 3 0)),(4,bV true),(5,iV .i64 last'),(6,iV .i64 n')],[(3, .box (cV c zl l))]⟩):=
    fun h=>⟨n+1,n,by omega, .inr ⟨n,rfl,by omega,hmn,fun m h1 h2=>by omega⟩,h,rfl⟩
   rcases hla with⟨rfl,h2⟩|⟨j,rfl,h2,h3,h4⟩
   ·have hP':=done_ fun i m h hne hh=>by
     rcases Nat.lt_or_ge m n with g|g
     ·exact hP i m g hne hh
     ·obtain rfl:m=n:=by omega
      have:=h2 i hne.1;rw[hne.2.2.1]at this;cases this
    refine hS _ ?_;clear hS S;refine Wf (by simp) ?_;refine Wp.skip ?_;refine hS _ ?_;clear hS S;refine We fun S hS=>?_;refine Wc Yg [] fun K J=>?_;simp;apply And.intro;(·kernel_rfl);apply J;clear J K;refine Wf (by simp) ?_;refine Wp.skip ?_;refine hS _ ?_;clear hS S;refine Wb Yg fun K J=>?_;simp;apply J;clear J K;refine hS _ ?_;clear hS S;refine Wb Yg fun K J=>?_;simp[hwn];apply J;clear J K;refine⟨_,k - 1,?_,by omega,hP'⟩;apply Gh.of<;>simp
   ·have hj:j<l.length:=by omega
    have hjn:Next (l.map Ez.e) j n:=⟨h2,by simpa using hi,h3,hmn,fun m g1 g2=>h4 m g1 g2⟩;obtain⟨y,hy⟩:∃y,l[j]=y:=⟨_,rfl⟩;have hgy:(l.map Ez.e).getD j default=y.e:=by rw[Xeo hj,hy]
    have hj0:((j:Int)<0)=False:=eq_false (by omega);by_cases hh:y.e.hart=x.e.hart
    ·have eh:=eq_true hh;cases hw:H9 (l.map Ez.e) c.fr j n
     ·obtain rfl:R=false:=by
       cases R with
       |false=>rfl
       |true=>have:=(hR.1 rfl).2 j n hjn (by rw[hgy,hgx];exact hh);rw[hw]at this;cases this
      refine hS _ ?_;clear hS S;refine Wf (by simp) ?_;refine Wp.skip ?_;refine hS _ ?_;clear hS S;refine We fun S hS=>?_;refine We fun S hS=>?_
      ((first|refine Wa Yg fun K J=>?_|refine Wb Yg fun K J=>?_|refine Wc Yg [] fun K J=>?_|refine Wd Yg [] fun K J=>?_);simp[sf1,Xn,Xha,Yd,hi,hj,h2,bev,bfl,Xe,Xd,Ez.cv,hx,hy,eh,hw];apply And.intro;(·kernel_rfl);with_reducible refine J _ ?_;clear J K)
      refine hS _ ?_;clear hS S;refine Wt (by simp) ?_;refine Wa Yg fun K J=>?_;simp;apply J;clear J K;refine Wp.ret ?_;simp
     ·have hP':=done_ fun i m h hne hh=>by
       rcases Nat.lt_or_ge m n with g|g
       ·exact hP i m g hne hh
       ·obtain rfl:m=n:=by omega
        rw[hjn.one hne];exact hw
      refine hS _ ?_;clear hS S;refine Wf (by simp) ?_;refine Wp.skip ?_;refine hS _ ?_;clear hS S;refine We fun S hS=>?_;refine We fun S hS=>?_
      ((first|refine Wa Yg fun K J=>?_|refine Wb Yg fun K J=>?_|refine Wc Yg [] fun K J=>?_|refine Wd Yg [] fun K J=>?_);simp[sf1,Xn,Xha,Yd,hi,hj,h2,bev,bfl,Xe,Xd,Ez.cv,hx,hy,eh,hw];apply And.intro;(·kernel_rfl);with_reducible refine J _ ?_;clear J K)
      refine hS _ ?_;clear hS S;refine Wf (by simp) ?_;refine Wp.skip ?_;refine hS _ ?_;clear hS S;refine Wb Yg fun K J=>?_;simp;apply J;clear J K;refine hS _ ?_;clear hS S;refine Wb Yg fun K J=>?_;simp[hwn];apply J;clear J K;refine⟨_,k - 1,?_,by omega,hP'⟩;apply Gh.of<;>simp
    ·have eh:=eq_false hh;have hP':=done_ fun i m h hne hh'=>by
      rcases Nat.lt_or_ge m n with g|g
      ·exact hP i m g hne hh'
      ·obtain rfl:m=n:=by omega
       rw[hjn.one hne,hgy,hgx]at hh';exact absurd hh' hh
     refine hS _ ?_;clear hS S;refine Wf (by simp) ?_;refine Wp.skip ?_;refine hS _ ?_;clear hS S;refine We fun S hS=>?_;refine We fun S hS=>?_
     ((first|refine Wa Yg fun K J=>?_|refine Wb Yg fun K J=>?_|refine Wc Yg [] fun K J=>?_|refine Wd Yg [] fun K J=>?_);simp[hi,hj,Xe,Xd,Ez.cv,hx,hy,eh];apply And.intro;(·kernel_rfl);with_reducible refine J _ ?_;clear J K)
     refine hS _ ?_;clear hS S;refine Wf (by simp) ?_;refine Wp.skip ?_;refine hS _ ?_;clear hS S;refine Wb Yg fun K J=>?_;simp;apply J;clear J K;refine hS _ ?_;clear hS S;refine Wb Yg fun K J=>?_;simp[hwn];apply J;clear J K;refine⟨_,k - 1,?_,by omega,hP'⟩;apply Gh.of<;>simp
 ·have hnl:n=l.length:=by omega
  obtain rfl:R=true:=hR.2 ⟨rfl,fun i m hne hh=>hP i m (by have:=hne.2.1;rw[List.length_map]at this;omega) hne hh⟩;refine We fun S hS=>?_;refine Wa Yg fun K J=>?_;simp[hi,Xe];apply J;clear J K;refine Wf (by simp) ?_;refine Wp.exit ?_;simp only[XV,Xx,if_true];clear hS S;refine hS _ ?_;clear hS S;refine Wa Yg fun K J=>?_;simp;apply J;clear J K;refine Wp.ret ?_;simp
def sn1:Dw.Spec:=Xn 47 Xbk (Xn 15 Xyp sk2)
theorem Yl:XF Tryz.prog sn1:=by
 refine Xp ⟨⟨_,Tryz.func47,rfl,rfl⟩⟩ (fun vs p r h hp=>?_) (Xp ⟨⟨_,Tryz.func15,rfl,rfl⟩⟩ (fun vs p r h hp=>?_) VJ)
 ·unfold Xbk at h;split at h
  ·rename_i v a b;split at h
   ·rename_i c z l hv;simp only[Option.some.injEq,Prod.mk.injEq]at h;obtain⟨rfl,rfl⟩:=h;obtain⟨h1,h2,h3,h4,h5⟩:=hp;obtain⟨a,rfl⟩:∃m:Nat,a=m:=⟨a.toNat,by omega⟩;obtain⟨b,rfl⟩:∃m:Nat,b=m:=⟨b.toNat,by omega⟩;rw[Vq hv];exact Xe5 c z l a b (by omega) (by omega) h4 h5
   ·cases h
  ·cases h
 ·unfold Xyp at h;split at h
  ·split at h
   ·rename_i c hc;simp only[Option.some.injEq,Prod.mk.injEq]at h;obtain⟨rfl,rfl⟩:=h;rw[Yk hc];exact Xni c hp
   ·cases h
  ·cases h
def prE(L:List (Nat×Nat)):List (List Cv):=L.map fun p=>[.sc (.int .i64 p.1), .sc (.int .i64 p.2)]
theorem Xcq(L:List (Nat×Nat)):(prE L).length=L.length:=by simp[prE]
theorem Zo(L:List (Nat×Nat))(i:Nat)(h:i<(prE L).length):(prE L)[i]=[.sc (.int .i64 (L[i]'(by simpa[prE]using h)).1), .sc (.int .i64 (L[i]'(by simpa[prE]using h)).2)]:=by simp[prE]
theorem Ybi(L:List (Nat×Nat))(a b:Nat):prE (L++[(a,b)])=prE L++[[.sc (.int .i64 a), .sc (.int .i64 b)]]:=by simp[prE]
def Xpl(es:List Ev)(fr:List Int)(a:Nat):Nat→Nat→List (Nat×Nat)
 |_,0=>[]
 |k,f+1=>if k<es.length∧(es.getD k default).hart=(es.getD a default).hart then(if 0<G2 es fr a k then [(a,k)]else [])++Xpl es fr a (k+1) f else []
def ZJ(es:List Ev)(fr:List Int):Nat→Nat→List (Nat×Nat)
 |_,0=>[]
 |a,f+1=>Xpl es fr a (a+1) es.length++ZJ es fr (a+1) f
theorem Xxq(es:List Ev)(fr:List Int)(a k f:Nat):(Xpl es fr a k f).length≤f:=by
 induction f generalizing k with
 |zero=>simp[Xpl]
 |succ f ih=>
  unfold Xpl;split
  ·have:=ih (k+1);rw[List.length_append];split<;>simp<;>omega
  ·simp
theorem Xiu(es:List Ev)(fr:List Int)(a f:Nat):(ZJ es fr a f).length≤f*es.length:=by
 induction f generalizing a with
 |zero=>simp[ZJ]
 |succ f ih=>
  unfold ZJ;have h1:=ih (a+1);have h2:=Xxq es fr a (a+1) es.length;rw[List.length_append,Nat.succ_mul];omega
def Xbv(c:Cz):List (Nat×Nat):=ZJ ((JF c).map Ez.e) c.fr 0 (JF c).length
set_option maxHeartbeats 16000000 in
theorem Xlo(c:Cz)(hc0:H7 c)(hev:Xd3 ((JF c).map Ez.e))(hfl:XU (Yx c)=true→c.fr.length=(JF c).length):
  Xq Tryz.prog 40 [Yo c] (.val (sV (decide ((Xbv c).length=0)) 2 (prE (Xbv c)))):=by
 have bok:=eq_true hc0;have bev:=eq_true hev;have hno:XU (Yx c)=false→JF c=[]:=fun h=>by simp[JF,h]
 have hn:=hev.n;obtain⟨T,hT⟩:∃T,Xbv c=T:=⟨_,rfl⟩;rw[hT];unfold Xbv at hT;have hTl:=Xiu ((JF c).map Ez.e) c.fr 0 (JF c).length;rw[hT]at hTl;obtain⟨l,hl⟩:∃l,JF c=l:=⟨_,rfl⟩;rw[hl]at hT hn bev hfl hno hTl;rw[List.length_map]at hn hTl;have hTb:T.length≤1000000:=Nat.le_trans hTl (Nat.mul_le_mul hn hn);obtain⟨zl,hz⟩:∃z,decide (l=[])=z:=⟨_,rfl⟩;unfold Yo;refine Xi (rs:=[.tmp 2]) (Xk _) Tryz.func40 rfl Tryz.ntmps40 rfl (by simp) ?_
 repeat(first|(refine We fun S hS=>?_)|(refine Wp.block ?_)|(refine Wp.skip ?_)|(refine hS _ ?_;clear hS S)|(clear hS S;refine hS _ ?_;clear hS S)|(clear hS S;clear hS S;refine hS _ ?_;clear hS S))
 first|refine Wa Yl fun K J=>?_|refine Wb Yl fun K J=>?_|refine Wc Yl [] fun K J=>?_|refine Wd Yl [] fun K J=>?_
 simp;apply J;clear J K;refine hS _ ?_;clear hS S;refine Wp.frzBox (b:=1) (cs:=c.cv) rfl rfl ?_;change Wp _ _ _ _ (⟨[(0,Yo c),(1,cA c),(2,sV true 0 [])],[]⟩:St);refine Wa Yl fun K J=>?_;simp[sn1,Xn,Xyp,Xh5,Xs,bok,hl,hz];apply J;clear J K;refine Wa Yl fun K J=>?_;simp;apply J;clear J K;refine We fun S hS=>?_;refine Wa Yl fun K J=>?_;simp;apply J;clear J K;refine Wp.block ?_;refine Wp.loop (fun k s=>∃(a:Nat) (L:List (Nat×Nat)),a+k=l.length∧L++ZJ (l.map Ez.e) c.fr a k=T∧s=⟨[(3, .one (.ptr 3 0)),(4,bV (XU (Yx c))),(5, .one (.own 5)),(6,iV .i64 a)],[(3, .box (cV c zl l)),(5, .row (decide (L.length=0)) 108 2 (prE L))]⟩)
  l.length (s0:=⟨[(3, .one (.ptr 3 0)),(4,bV (XU (Yx c))),(5, .one (.own 5)),(6,iV .i64 (0:Nat))],[(3, .box (cV c zl l)),(5, .row true 108 2 [])]⟩) ?_ ⟨0,[],by simp,by simpa using hT,by simp[prE]⟩ fun kk s ⟨a,L,hak,hLT,hs⟩=>?_
 ·refine .trans (.adopt (t:=5) (b:=5) rfl rfl 108 2) ?_;apply Gh.of<;>simp
 subst hs;by_cases ha:a<l.length
 ·have hck:XU (Yx c)=true:=by
   cases h:XU (Yx c)
   ·rw[hno h]at ha;simp at ha
   ·rfl
  have bfl:=eq_true (hfl hck);have hwa:IntKind.i64.wrap ((a:Int)+1)=(a+1:Nat):=by rw[wrap_small]<;>omega
  obtain⟨k',rfl⟩:∃k',kk=k'+1:=⟨kk - 1,by omega⟩;unfold ZJ at hLT;rw[List.length_map]at hLT;have hga:(l.map Ez.e).getD a default=l[a].e:=by simp[List.getD_eq_getElem?_getD,List.getElem?_map,List.getElem?_eq_getElem ha]
  rw[hck];refine We fun S hS=>?_;refine Wa Yl fun K J=>?_;simp[ha,Xe];apply J;clear J K;refine Wt (by simp) ?_;refine Wp.skip ?_;refine hS _ ?_;clear hS S;refine We fun S hS=>?_;refine Wp.block ?_;refine Wa Yl fun K J=>?_;simp[hwa];apply J;clear J K;refine Wp.block ?_;refine Wp.loop (fun k s=>∃(m f:Nat) (L:List (Nat×Nat)),m+k=l.length∧a<m∧f+(m - (a+1))=l.length∧L++(Xpl (l.map Ez.e) c.fr a m f++ZJ (l.map Ez.e) c.fr (a+1) k')=T∧s=⟨[(3, .one (.ptr 3 0)),(4,bV true),(5, .one (.own 5)),(6,iV .i64 a),(7,iV .i64 m)],[(3, .box (cV c zl l)),(5, .row (decide (L.length=0)) 108 2 (prE L))]⟩)
   (l.length - (a+1)) (s0:=⟨[(3, .one (.ptr 3 0)),(4,bV true),(5, .one (.own 5)),(6,iV .i64 a),(7,iV .i64 (a+1:Nat))],[(3, .box (cV c zl l)),(5, .row (decide (L.length=0)) 108 2 (prE L))]⟩) ?_ ⟨a+1,l.length,L,by omega,by omega,by omega,hLT,rfl⟩ fun k s ⟨m,f,L,hmk,ham,hfm,hLT,hs⟩=>?_
  ·apply Gh.of<;>simp
  subst hs;have exitCase:Xpl (l.map Ez.e) c.fr a m f=[]→L++ZJ (l.map Ez.e) c.fr (a+1) k'=T:=fun h=>by rw[h]at hLT;exact hLT
  by_cases hm:m<l.length
  ·have hgm:(l.map Ez.e).getD m default=l[m].e:=by simp[List.getD_eq_getElem?_getD,List.getElem?_map,List.getElem?_eq_getElem hm]
   have hwm:IntKind.i64.wrap ((m:Int)+1)=(m+1:Nat):=by rw[wrap_small]<;>omega
   by_cases hh:l[m].e.hart=l[a].e.hart
   ·obtain⟨f,rfl⟩:∃f',f=f'+1:=⟨f - 1,by omega⟩;unfold Xpl at hLT;rw[if_pos ⟨by simpa using hm,by rw[hgm,hga];exact hh⟩]at hLT;have hLl:L.length≤T.length:=by rw[←hLT,List.length_append];omega
    have hl1:L.length+1≤maxLen:=by unfold maxLen;omega
    have hl2:(L.length+1)*16≤140737488355328:=by omega
    repeat(first|(refine We fun S hS=>?_)|(refine Wp.block ?_)|(refine Wp.skip ?_)|(refine hS _ ?_;clear hS S)|(clear hS S;refine hS _ ?_;clear hS S)|(clear hS S;clear hS S;refine hS _ ?_;clear hS S))
    ((first|refine Wa Yl fun K J=>?_|refine Wb Yl fun K J=>?_|refine Wc Yl [] fun K J=>?_|refine Wd Yl [] fun K J=>?_);simp[ha,hm,Xe,Xd,Ez.cv,hh];apply And.intro;(·kernel_rfl);with_reducible refine J _ ?_;clear J K)
    refine hS _ ?_;clear hS S;refine Wt (by simp) ?_;refine Wp.skip ?_;refine hS _ ?_;clear hS S;refine We fun S hS=>?_;refine Wp.block ?_;refine We fun S hS=>?_;by_cases hr:0<G2 (l.map Ez.e) c.fr a m
    ·rw[if_pos hr,List.append_assoc,←List.append_assoc]at hLT
     repeat(first|(refine We fun S hS=>?_)|(refine Wp.block ?_)|(refine Wp.skip ?_)|(refine hS _ ?_;clear hS S)|(clear hS S;refine hS _ ?_;clear hS S)|(clear hS S;clear hS S;refine hS _ ?_;clear hS S))
     first|refine Wa Yl fun K J=>?_|refine Wb Yl fun K J=>?_|refine Wc Yl [] fun K J=>?_|refine Wd Yl [] fun K J=>?_
     simp[sn1,Xn,Xbk,Yd,hm,ham,bev,bfl,hr];apply J;clear J K;refine hS _ ?_;clear hS S;refine Wt (by simp) ?_;refine Wb Yl fun K J=>?_;simp[Xcq,hl1,hl2];apply J;clear J K;refine hS _ ?_;clear hS S;refine Wb Yl fun K J=>?_;simp[hwm];apply J;clear J K;refine⟨⟨[(3, .one (.ptr 3 0)),(4,bV true),(5, .one (.own 5)),(6,iV .i64 a),(7,iV .i64 (m+1:Nat))],[(3, .box (cV c zl l)),(5, .row (decide ((L++[(a,m)]).length=0)) 108 2 (prE (L++[(a,m)])))]⟩,k - 1,?_,by omega,m+1,f,L++[(a,m)],by omega,by omega,by omega,hLT,rfl⟩;rw[Ybi];apply Gh.of<;>simp
    ·rw[if_neg hr,List.nil_append]at hLT
     repeat(first|(refine We fun S hS=>?_)|(refine Wp.block ?_)|(refine Wp.skip ?_)|(refine hS _ ?_;clear hS S)|(clear hS S;refine hS _ ?_;clear hS S)|(clear hS S;clear hS S;refine hS _ ?_;clear hS S))
     first|refine Wa Yl fun K J=>?_|refine Wb Yl fun K J=>?_|refine Wc Yl [] fun K J=>?_|refine Wd Yl [] fun K J=>?_
     simp[sn1,Xn,Xbk,Yd,hm,ham,bev,bfl,hr];apply J;clear J K;refine hS _ ?_;clear hS S;refine Wf (by simp) ?_;refine Wp.skip ?_;refine hS _ ?_;clear hS S;refine Wb Yl fun K J=>?_;simp[hwm];apply J;clear J K;refine⟨⟨[(3, .one (.ptr 3 0)),(4,bV true),(5, .one (.own 5)),(6,iV .i64 a),(7,iV .i64 (m+1:Nat))],[(3, .box (cV c zl l)),(5, .row (decide (L.length=0)) 108 2 (prE L))]⟩,k - 1,?_,by omega,m+1,f,L,by omega,by omega,by omega,hLT,rfl⟩;apply Gh.of<;>simp
   ·have hLT:=exitCase (by
     cases f with
     |zero=>rfl
     |succ f=>unfold Xpl;rw[if_neg (fun q=>hh (by rw[←hgm,←hga];exact q.2))])
    repeat(first|(refine We fun S hS=>?_)|(refine Wp.block ?_)|(refine Wp.skip ?_)|(refine hS _ ?_;clear hS S)|(clear hS S;refine hS _ ?_;clear hS S)|(clear hS S;clear hS S;refine hS _ ?_;clear hS S))
    ((first|refine Wa Yl fun K J=>?_|refine Wb Yl fun K J=>?_|refine Wc Yl [] fun K J=>?_|refine Wd Yl [] fun K J=>?_);simp[ha,hm,Xe,Xd,Ez.cv,hh];apply And.intro;(·kernel_rfl);with_reducible refine J _ ?_;clear J K)
    refine hS _ ?_;clear hS S;refine Wf (by simp) ?_;refine Wp.exit ?_;simp only[XV,Xx,if_true];clear hS S;refine hS _ ?_;clear hS S;refine Wb Yl fun K J=>?_;simp[hwa];apply J;clear J K;refine⟨⟨[(3, .one (.ptr 3 0)),(4,bV true),(5, .one (.own 5)),(6,iV .i64 (a+1:Nat))],[(3, .box (cV c zl l)),(5, .row (decide (L.length=0)) 108 2 (prE L))]⟩,k',?_,by omega,a+1,L,by omega,hLT,rfl⟩;apply Gh.of<;>simp
  ·have hLT:=exitCase (by
    cases f with
    |zero=>rfl
    |succ f=>unfold Xpl;rw[if_neg (fun q=>hm (by simpa using q.1))])
   repeat(first|(refine We fun S hS=>?_)|(refine Wp.block ?_)|(refine Wp.skip ?_)|(refine hS _ ?_;clear hS S)|(clear hS S;refine hS _ ?_;clear hS S)|(clear hS S;clear hS S;refine hS _ ?_;clear hS S))
   ((first|refine Wa Yl fun K J=>?_|refine Wb Yl fun K J=>?_|refine Wc Yl [] fun K J=>?_|refine Wd Yl [] fun K J=>?_);simp[hm,Xe];apply And.intro;(·kernel_rfl);with_reducible refine J _ ?_;clear J K)
   refine hS _ ?_;clear hS S;refine Wf (by simp) ?_;refine Wp.exit ?_;simp only[XV,Xx,if_true];clear hS S;refine hS _ ?_;clear hS S;refine Wb Yl fun K J=>?_;simp[hwa];apply J;clear J K;refine⟨⟨[(3, .one (.ptr 3 0)),(4,bV true),(5, .one (.own 5)),(6,iV .i64 (a+1:Nat))],[(3, .box (cV c zl l)),(5, .row (decide (L.length=0)) 108 2 (prE L))]⟩,k',?_,by omega,a+1,L,by omega,hLT,rfl⟩;apply Gh.of<;>simp
 ·obtain rfl:kk=0:=by omega
  unfold ZJ at hLT;rw[List.append_nil]at hLT;subst hLT;refine We fun S hS=>?_;refine Wa Yl fun K J=>?_;simp[ha,Xe];apply J;clear J K;refine Wf (by simp) ?_;refine Wp.exit ?_;simp only[XV,Xx,if_true]
  repeat(first|(refine We fun S hS=>?_)|(refine Wp.block ?_)|(refine Wp.skip ?_)|(refine hS _ ?_;clear hS S)|(clear hS S;refine hS _ ?_;clear hS S)|(clear hS S;clear hS S;refine hS _ ?_;clear hS S))
  refine Wp.gh (.frz (b:=5) rfl) ?_;refine Wb Yl fun K J=>?_;simp[Hr,Xuv,Xmm,Xml];apply J;clear J K;refine hS _ ?_;clear hS S;refine Wp.ret ?_;simp
end Go.Proofs.YtjhfcfpkgfpoiaaGreatDoor
namespace Go.Proofs.YtjhfcfpkgfpoiaaGreatDoor
open Go Go.RowKit
set_option maxRecDepth 100000
theorem Yck{L:List (List Ev)}{n:Nat}(h:n<L.flatten.length):∃i k:Nat,i<L.length∧k<(L.getD i []).length∧n=(L.take i).flatten.length+k∧∀j,j<(L.getD i []).length→L.flatten.getD ((L.take i).flatten.length+j) default=(L.getD i []).getD j default:=by
 induction L generalizing n with
 |nil=>simp at h
 |cons x L ih=>
  rw[List.flatten_cons]at h;by_cases hn:n<x.length
  ·refine⟨0,n,by simp,by simpa using hn,by simp,fun j hj=>?_⟩;simp only[List.take_zero,List.flatten_nil,List.length_nil,Nat.zero_add,List.flatten_cons,List.getD_cons_zero]at hj⊢;rw[List.getD_eq_getElem?_getD,List.getElem?_append_left hj,←List.getD_eq_getElem?_getD]
  ·obtain⟨i,k,h1,h2,h3,h4⟩:=ih (n:=n - x.length) (by simp at h⊢;omega);refine⟨i+1,k,by simpa using h1,by simpa using h2,by simp;simp at h3;omega,fun j hj=>?_⟩;simp only[List.take_succ_cons,List.flatten_cons,List.getD_cons_succ,List.length_append]at hj⊢;rw[List.getD_eq_getElem?_getD,List.getElem?_append_right (by omega),←List.getD_eq_getElem?_getD,←h4 j hj]
   congr 1
   omega
structure GV(c:Cd):Prop where
 cells:VC c.first=true
 hn:1≤c.harts.length∧c.harts.length≤8
 rows:∀i,i<c.harts.length→Xkp i (c.harts.getD i [])=true
 fl:c.from_.length=c.harts.flatten.length
 fr:∀n,n<c.harts.flatten.length→GK c.first c.from_ c.harts.flatten n=true
 od:∀i,i<c.order.length→Xar c.harts.flatten c.order i=true
 ol:c.order.length=X4 c.harts.flatten
theorem GV.of{c:Cd}(h:XU c=true):GV c:=by
 simp only[XU,Bool.and_eq_true,decide_eq_true_eq,List.all_eq_true,List.mem_range]at h;obtain⟨h1,h2,h3,h4,h5,h6,h7⟩:=h;exact⟨h1,h2,h3,h4,h5,h6,h7⟩
theorem Xpp(od:List Int)(k j:Nat): -1≤placeOf od k j∧placeOf od k j<k:=by
 induction k with
 |zero=>exact⟨by simp[placeOf],by simp[placeOf]⟩
 |succ k ih=>
  rw[Hf];split<;>omega
theorem GV.row{c:Cd}(h:GV c){n:Nat}(hn:n<c.harts.flatten.length):
  ∃i k:Nat,i<c.harts.length∧k<(c.harts.getD i []).length∧n=(c.harts.take i).flatten.length+k∧rowAt i (c.harts.getD i []) k=true∧∀j,j<(c.harts.getD i []).length→c.harts.flatten.getD ((c.harts.take i).flatten.length+j) default=(c.harts.getD i []).getD j default:=by
 obtain⟨i,k,h1,h2,h3,h4⟩:=Yck hn;refine⟨i,k,h1,h2,h3,?_,h4⟩;have:=h.rows i h1;rw[Xkp,List.all_eq_true]at this;exact this k (List.mem_range.2 h2)
theorem GV.from_ok{c:Cd}(h:GV c){n:Nat}(hn:n<c.harts.flatten.length): -1≤c.from_.getD n 0∧c.from_.getD n 0<c.harts.flatten.length:=by
 have:=h.fr n hn;unfold GK at this;simp only at this;split at this
 ·have:=of_decide_eq_true this;omega
 ·split at this
  ·omega
  ·rw[Bool.and_eq_true,decide_eq_true_eq]at this;obtain⟨⟨h1,h2, -⟩, -⟩:=this;omega
theorem GV.ord_ok{c:Cd}(h:GV c){i:Nat}(hi:i<c.order.length):0≤c.order.getD i 0∧c.order.getD i 0<c.harts.flatten.length:=by
 have:=h.od i hi;rw[Xar,Bool.and_eq_true,decide_eq_true_eq]at this;exact this.1
theorem GV.pair_ok{c:Cd}(h:GV c)(hf:Ygm c){n:Nat}(hn:n<c.harts.flatten.length)(h4:(c.harts.flatten.getD n default).kind=4):
  Xop c.harts.flatten c.from_ c.order (YO c.from_.length c.order) n:=by
 obtain⟨i,k,h1,h2,h3,h5,h6⟩:=h.row hn;have he:c.harts.flatten.getD n default=(c.harts.getD i []).getD k default:=by rw[h3];exact h6 k h2
 have hall:=hf.all;have hlen:=(hf.harts i h1).2;have hord:=hf.order;simp only[rowAt,Bool.and_eq_true,decide_eq_true_eq]at h5;obtain⟨⟨c1,c2,c3⟩, -⟩:=h5;obtain⟨p1,p2⟩:=HS c1 (by rw[←he];exact h4);refine⟨hn,hf.all,hf.order,h.fl,by rw[Zc];exact h.fl,?_,?_,fun j hj=>h.from_ok hj,fun j hj=>?_,fun j hj=>h.ord_ok hj⟩
 ·rw[he];omega
 ·rw[he];omega
 ·rw[Xfa (by rw[h.fl];exact hj)];exact Xpp _ _ _
end Go.Proofs.YtjhfcfpkgfpoiaaGreatDoor
namespace Go.Proofs.YtjhfcfpkgfpoiaaGreatDoor
open Go Go.RowKit Dw
set_option maxRecDepth 100000
theorem Xx6{es:List Ev}{fr:List Int}{a x y f k:Nat}:(x,y)∈Xpl es fr a k f↔x=a∧k≤y∧y<k+f∧y<es.length∧(∀m,k≤m→m≤y→(es.getD m default).hart=(es.getD a default).hart)∧0<G2 es fr a y:=by
 induction f generalizing k with
 |zero=>simp[Xpl];omega
 |succ f ih=>
  unfold Xpl;by_cases h:k<es.length∧(es.getD k default).hart=(es.getD a default).hart
  ·rw[if_pos h,List.mem_append,ih];constructor
   ·rintro(q|⟨rfl,h1,h2,h3,h4,h5⟩)
    ·by_cases hr:0<G2 es fr a k
     ·rw[if_pos hr]at q;simp only[List.mem_singleton,Prod.mk.injEq]at q;obtain⟨rfl,rfl⟩:=q;exact⟨rfl,Nat.le_refl _,by omega,h.1,fun m h1 h2=>(show m=y by omega)▸h.2,hr⟩
     ·rw[if_neg hr]at q;simp at q
    ·refine⟨rfl,by omega,by omega,h3,fun m m1 m2=>?_,h5⟩;rcases Nat.eq_or_lt_of_le m1 with g|g
     ·subst g;exact h.2
     ·exact h4 m g m2
   ·rintro⟨rfl,h1,h2,h3,h4,h5⟩;rcases Nat.eq_or_lt_of_le h1 with g|g
    ·subst g;left;rw[if_pos h5];simp
    ·exact .inr ⟨rfl,g,by omega,h3,fun m m1 m2=>h4 m (by omega) m2,h5⟩
  ·rw[if_neg h];constructor
   ·intro q;cases q
   ·rintro⟨rfl,h1,h2,h3,h4,h5⟩;exact absurd ⟨by omega,h4 k (Nat.le_refl _) h1⟩ h
theorem Xtw{es:List Ev}{fr:List Int}{x y f a:Nat}:(x,y)∈ZJ es fr a f↔a≤x∧x<a+f∧Xoq es fr x y:=by
 induction f generalizing a with
 |zero=>simp[ZJ];omega
 |succ f ih=>
  unfold ZJ;rw[List.mem_append,Xx6,ih];constructor
  ·rintro(⟨rfl,h1,h2,h3,h4,h5⟩|⟨h1,h2,h3⟩)
   ·exact⟨Nat.le_refl _,by omega,h1,h3,fun m m1 m2=>h4 m m1 m2,h5⟩
   ·exact⟨by omega,by omega,h3⟩
  ·rintro⟨h1,h2,h3⟩;rcases Nat.eq_or_lt_of_le h1 with g|g
   ·subst g;obtain⟨g1,g2,g3,g4⟩:=h3;exact .inl ⟨rfl,g1,by omega,g2,fun m m1 m2=>g3 m m1 m2,g4⟩
   ·exact .inr ⟨g,by omega,h3⟩
theorem HH(c:Cz):(JF c).map Ez.e=allB (Yx c):=by
 unfold JF allB;split
 ·rw[Xux];unfold Xr Yx;simp only[List.map_flatten,List.map_map];rfl
 ·rfl
theorem Xb4(c:Cz):(JF c).length=(allB (Yx c)).length:=by rw[←HH,List.length_map]
theorem Xc6{c:Cz}{x y:Nat}:(x,y)∈Xbv c↔Xoq (allB (Yx c)) c.fr x y:=by
 unfold Xbv;rw[Xtw,HH,Xb4];constructor
 ·exact fun h=>h.2.2
 ·exact fun h=>⟨Nat.zero_le _,by have:=h.1;have:=h.2.1;omega,h⟩
def Yb3(pl:List Int)(next:EV):List (Nat×Nat)→EV
 |[]=>next
 |p::r=>if pl.getD p.2 0<pl.getD p.1 0 then Xby false 2 p.1 p.2 else Yb3 pl next r
def Yaj(es:List Ev)(fr pl:List Int)(next:EV):Nat→Nat→EV
 |_,0=>next
 |n,f+1=>if(es.getD n default).reads=true∧JH es pl n≠fr.getD n 0 then Xby false 3 n (JH es pl n)else Yaj es fr pl next (n+1) f
def Xg0(es:List Ev)(fr od pl:List Int):Nat→Nat→EV
 |_,0=>Xby true 0 (-1) (-1)
 |n,f+1=>if(es.getD n default).kind=4∧0≤Xct es fr od pl n then Xby false 4 (Xpr es n:Nat) (Xct es fr od pl n)else Xg0 es fr od pl (n+1) f
def Yai(c:Cz):EV:=
 if XU (Yx c)=true then
  Yb3 (YO c.fr.length c.od) (Yaj ((JF c).map Ez.e) c.fr (YO c.fr.length c.od) (Xg0 ((JF c).map Ez.e) c.fr c.od (YO c.fr.length c.od) 0 (JF c).length) 0 (JF c).length) (Xbv c)
 else Xby false 1 (-1) (-1)
def Ylu(c:Cz):Prop:=∀i (h:i<c.od.length),0≤c.od[i]∧c.od[i]<c.fr.length
def Ylw(c:Cz):Prop:=XU (Yx c)=true→c.fr.length=(JF c).length
def Xwh(c:Cz):Prop:=Xd3 ((JF c).map Ez.e)
def Xum:List EV→Option (Prop×YX)
 |[v]=>(match X8 v with|some x=>some (True, .val (bV x.e.reads))|none=>none)
 |_=>none
def Xhb:List EV→Option (Prop×YX)
 |[v]=>(match KJ v with|some c=>some (H7 c∧XU (Yx c)=true∧Ylu c, .row false 3 1 (Xj (YO c.fr.length c.od)))|none=>none)
 |_=>none
def Xmh:List EV→Option (Prop×YX)
 |[v]=>(match KJ v with|some c=>some (H7 c∧Xwh c∧Ylw c, .val (sV (decide ((Xbv c).length=0)) 2 (prE (Xbv c))))|none=>none)
 |_=>none
def Xb6:List EV→Option (Prop×YX)
 |[v, .one (.c (.sl _ 1 els)), .one (.c (.sc (.int .i64 n)))]=>(match Za v,unI els with
  |some (_,_,l),some pl=>some (0≤n∧n<l.length∧pl.length=l.length∧l.length≤1000, .val (iV .i64 (JH (l.map Ez.e) pl n.toNat)))
  |_,_=>none)
 |_=>none
def Xn2:List EV→Option (Prop×YX)
 |[v, .one (.c (.sl _ 1 els)), .one (.c (.sc (.int .i64 n)))]=>(match Za v,unI els with
  |some (c,_,l),some pl=>some (0≤n∧Xop (l.map Ez.e) c.fr c.od pl n.toNat, .val (.tup [iV .i64 (Xpr (l.map Ez.e) n.toNat:Nat),iV .i64 (Xct (l.map Ez.e) c.fr c.od pl n.toNat)]))
  |_,_=>none)
 |_=>none
def Xqj:List EV→Option (Prop×YX)
 |[.one (.c (.sc (.int .i64 x))), .one (.c (.sc (.int .i64 y))), .one (.c (.sc (.int .i64 z)))]=>some (True, .val (Xby false x y z))
 |_=>none
def sjd:Dw.Spec:=Xn 41 Xum (Xn 39 Xhb (Xn 40 Xmh (Xn 42 Xb6 (Xn 43 Xn2 (Xn 38 Xqj sn1)))))
theorem XP:XF Tryz.prog sjd:=by
 refine Xp ⟨⟨_,Tryz.func41,rfl,rfl⟩⟩ (fun vs p r h hp=>?_) (Xp ⟨⟨_,Tryz.func39,rfl,rfl⟩⟩ (fun vs p r h hp=>?_) (Xp ⟨⟨_,Tryz.func40,rfl,rfl⟩⟩ (fun vs p r h hp=>?_) (Xp ⟨⟨_,Tryz.func42,rfl,rfl⟩⟩ (fun vs p r h hp=>?_) (Xp ⟨⟨_,Tryz.func43,rfl,rfl⟩⟩ (fun vs p r h hp=>?_) (Xp ⟨⟨_,Tryz.func38,rfl,rfl⟩⟩ (fun vs p r h hp=>?_) Yl)))))
 ·unfold Xum at h;split at h
  ·split at h
   ·rename_i x hx;simp only[Option.some.injEq,Prod.mk.injEq]at h;obtain⟨rfl,rfl⟩:=h;exact Yy (.cons (Kx hx) .nil) (Xco _)
   ·cases h
  ·cases h
 ·unfold Xhb at h;split at h
  ·split at h
   ·rename_i c hc;simp only[Option.some.injEq,Prod.mk.injEq]at h;obtain⟨rfl,rfl⟩:=h;rw[Yk hc];exact Xip c hp.1 hp.2.1 hp.2.2
   ·cases h
  ·cases h
 ·unfold Xmh at h;split at h
  ·split at h
   ·rename_i c hc;simp only[Option.some.injEq,Prod.mk.injEq]at h;obtain⟨rfl,rfl⟩:=h;rw[Yk hc];exact Xlo c hp.1 hp.2.1 hp.2.2
   ·cases h
  ·cases h
 ·unfold Xb6 at h;split at h
  ·rename_i v z els n;split at h
   ·rename_i c' z' l pl hv hpl;simp only[Option.some.injEq,Prod.mk.injEq]at h;obtain⟨rfl,rfl⟩:=h;obtain⟨n,rfl⟩:∃m:Nat,n=m:=⟨n.toNat,by omega⟩;rw[Vq hv,YK hpl];exact Xin _ _ l _ pl n (by omega) hp.2.2.1 hp.2.2.2
   ·cases h
  ·cases h
 ·unfold Xn2 at h;split at h
  ·rename_i v z els n;split at h
   ·rename_i c' z' l pl hv hpl;simp only[Option.some.injEq,Prod.mk.injEq]at h;obtain⟨rfl,rfl⟩:=h;obtain⟨n,rfl⟩:∃m:Nat,n=m:=⟨n.toNat,by omega⟩;rw[Vq hv,YK hpl];exact Xo8 _ _ l _ pl n hp.2
   ·cases h
  ·cases h
 ·unfold Xqj at h;split at h
  ·simp only[Option.some.injEq,Prod.mk.injEq]at h;obtain⟨rfl,rfl⟩:=h;exact Xsy _ _ _
  ·cases h
end Go.Proofs.YtjhfcfpkgfpoiaaGreatDoor
