/- What the program and the document compute, as plain data, and laws of it. No condition. -/
import Derived.BigQuiet
import Derived.BigRegion
import Derived.ChangeAlike
import Derived.Deep.CutBlock
import Derived.Deep.CutRange
import Derived.Deep.DeepCutAuto
import Derived.Deep.QuietTactic
import Derived.Deep.RegionHeld3
import Derived.IntWalk
import Derived.KernelRfl
import Derived.Lib.Hide
import Derived.RegionTactic
import Derived.StillTailTactics
import Derived.WalkKit
import Derived.WalkLawsBesides
import Derived.WalkSpells
import Derived.Test.YtjhfcfpkgfpoiaaGreatDoorDe
import Derived.Test.YtjhfcfpkgfpoiaaGreatDoorProg
import Derived.Test.YtjhfcfpkgfpoiaaGreatDoorWf
import Derived.Test.YtjhfcfpkgfpoiaaGreatDoorWh
import Derived.Test.YtjhfcfpkgfpoiaaGreatDoorWi
namespace Go.Proofs.YtjhfcfpkgfpoiaaGreatDoor
open Go Go.RowKit Dw
set_option maxRecDepth 100000
attribute [local simp] Xbs Kb Xaf opE KM evO cEV_int cEV_bool cEV_str cEV_nil cEV_fn Dw.look Dw.put Dw.setD Dw.Xhq shI Xho Xhp unE GM X5 Jj Gx Je YJ XA Jf Hn Kq KD JD Kd K3 K0 Xd6 KK GF VD Xbr Xec Vr Gw Xgy Y4 Xf6 Yq Xf3 Xh1 Yw Xfi K9 chunks Dw.unC Xd7 JK YL Vc Vv KW YZ KP Xbw refs YS Vd over Xd5 eqC List.getElem?_cons_zero List.getElem?_cons_succ List.all_cons List.all_nil ty3 D3 ty4 D4 ty9 D9 Xkn Xkv D22 Xkm Xku D23 Xkl Xkt D24 Xib J7 J6 J5 J4 Xk0 ty31 D31 Xkk D38 Xkj Xks D44 Xki Xkr D50 Xia J3 fo57_1 fo57_2 fo57_3 Xkz eq57 Xh9 J2 J1 Xky Xh8 J0 JZ JY Xkx Xh7 JX JW JV JU JT JS JR JQ JP JO KI KH Xkw ty71 Xkq D71 Xkh JN JM bu75 eq75 ty97 D97 HW H3 Xk5 G9 H2 Xkg ty112 HZ D112 HV Xk4 G8 Xk3 G7 H1 Xkf G0 fo231_0 fo231_1 fo231_2 fo231_3 fo231_4 fo231_5 fo231_6 fo231_7 fo231_8 fo231_9 fo231_10 H4 H0 H6 H5 init0 init1 init2 init3 init4 init5 init6 Jz Xb9 Xdm rdL rdG rdO Xbu Zg Ge G4 Dw.del KB XV Xx YP Xex J9 Xe0 Kl erefs_agg_c XJ XT XI XQ inH Gt Gu VT Kt
def unC:List (List Cv)→Option (List (Int×Int))
 |[]=>some []
 |[.sc (.int .u64 x), .sc (.int .u64 y)]::r=>(match unC r with|some l=>some ((x,y)::l)|none=>none)
 |_=>none
theorem Yv(xs:List (Int×Int)):unC (KY xs)=some xs:=by
 induction xs with
 |nil=>rfl
 |cons a r ih=>simp only[KY,List.map_cons,unC]at*;rw[ih]
theorem Xbb{els:List (List Cv)}{xs:List (Int×Int)}(h:unC els=some xs):els=KY xs:=by
 induction els generalizing xs with
 |nil=>injection h with h;subst h;rfl
 |cons a r ih=>
  unfold unC at h;split at h
  ·rename_i e;cases e
  ·rename_i x y r' e;injection e with e1 e2;subst e1;subst e2;split at h
   ·rename_i l hl;injection h with h;subst h;rw[ih hl];rfl
   ·cases h
  ·cases h
def Xg9:List EV→Option (Prop×YX)
 |[.one (.c (.sl _z 2 els)), .one (.c (.sc (.int .u64 a))), .one (.c (.sc (.func (.func f) ⟨[]⟩ ⟨[]⟩)))]=>if f=120 then(match unC els with|some xs=>some (xs.length≤1000000∧Xz1 xs, .val (.tup [iV .i64 (Xx9 xs a),bV (atB xs a)]))|none=>none)else none
 |_=>none
def sc4:Dw.Spec:=Xn 119 Xg9 sc3
theorem Xbd:XF Tryz.prog sc4:=by
 refine Xp ⟨⟨_,Tryz.func119,rfl,rfl⟩⟩ (fun vs p r h hp=>?_) V9;unfold Xg9 at h;split at h
 ·split at h
  ·rename_i hf;subst hf;split at h
   ·rename_i xs hx;simp only[Option.some.injEq,Prod.mk.injEq]at h;obtain⟨rfl,rfl⟩:=h;rw[Xbb hx];exact Xlk _ _ _ hp.1 hp.2
   ·cases h
  ·cases h
 ·cases h
theorem Xu1{xs:List (Int×Int)}{a:Int}(hr:Xz1 xs){i:Nat}(hi:i<xs.length)(h:xs[i].1=a):JC xs a=xs[i].2:=by
 unfold JC;have:xs.find? (fun p=>decide (p.1=a))=some xs[i]:=by
  rw[List.find?_eq_some_iff_getElem];refine⟨by simp[h],i,hi,rfl,fun j hj=>?_⟩;have:=hr j i hj hi;simp only[List.getD_eq_getElem?_getD,List.getElem?_eq_getElem hi,List.getElem?_eq_getElem (show j<xs.length by omega),Option.getD_some]at this;simp;omega
 rw[this];rfl
theorem Xqm{xs:List (Int×Int)}{a:Int}(hr:Xz1 xs)(h:atB xs a=false):JC xs a=0:=by
 refine Xmq fun i hi he=>?_;have hl:Xx9 xs a=i:=Xtz (Nat.le_of_lt hi) (fun k hk=>by have:=hr k i hk hi;omega) fun k hk hkx=>by
  rcases Nat.eq_or_lt_of_le hk with h|h
  ·subst h;omega
  ·have:=hr i k h hkx;omega
 have:atB xs a=true:=by unfold atB;rw[hl];simp[hi];simpa[List.getD_eq_getElem?_getD,List.getElem?_eq_getElem hi]using he
 rw[this]at h;cases h
set_option maxHeartbeats 1000000 in
theorem Xql(z:Bool)(xs:List (Int×Int))(a:Int)(hn:xs.length≤1000000)(hr:Xz1 xs):Xq Tryz.prog 84 [sV z 2 (KY xs),iV .u64 a] (.val (iV .u64 (JC xs a))):=by
 refine Xi (rs:=[.tmp 4]) (Xk _) Tryz.func84 rfl Tryz.ntmps84 rfl (by simp) ?_;cases hb:atB xs a
 ·refine Wa Xbd fun K J=>?_;simp;apply J;clear J K;refine Wa Xbd fun K J=>?_;simp[sc4,Xn,Xg9,Yv,hn,hr,hb];apply J;clear J K;refine We fun S hS=>?_;refine Wa Xbd fun K J=>?_;simp;apply J;clear J K;refine Wt (by simp) ?_;refine Wa Xbd fun K J=>?_;simp;apply J;clear J K;refine Wp.ret ?_;simp;exact(Xqm hr hb).symm
 ·have hb':=hb;unfold atB at hb';simp only[Bool.and_eq_true,decide_eq_true_eq]at hb';obtain⟨hl,he⟩:=hb';have hg:xs.getD (Xx9 xs a) (0,0)=xs[Xx9 xs a]:=by simp[List.getD_eq_getElem?_getD,List.getElem?_eq_getElem hl]
  rw[hg]at he;refine Wa Xbd fun K J=>?_;simp;apply J;clear J K;refine Wa Xbd fun K J=>?_;simp[sc4,Xn,Xg9,Yv,hn,hr,hb];apply J;clear J K;refine We fun S hS=>?_;refine Wa Xbd fun K J=>?_;simp;apply J;clear J K;refine Wf (by simp) ?_;refine Wp.skip ?_;refine hS _ ?_;clear hS S;refine Wa Xbd fun K J=>?_;simp[hl,XZ,XX];apply J;clear J K;refine Wp.ret ?_;simp;exact(Xu1 hr hl he).symm
end Go.Proofs.YtjhfcfpkgfpoiaaGreatDoor
namespace Go.Proofs.YtjhfcfpkgfpoiaaGreatDoor
open Go Go.RowKit
set_option maxRecDepth 100000
def GK(first:List (Int×Int))(fr:List Int)(es:List Ev)(n:Nat):Bool:=
 let e:=es.getD n default
 let v:=fr.getD n 0
 if e.reads=false then decide (v= -1)
 else if v= -1 then decide (e.load=JC first e.addr)
 else decide (0≤v∧v<es.length∧v≠n)&&((es.getD v.toNat default).writes&&decide ((es.getD v.toNat default).addr=e.addr∧(es.getD v.toNat default).store=e.load))
end Go.Proofs.YtjhfcfpkgfpoiaaGreatDoor
namespace Go.Proofs.YtjhfcfpkgfpoiaaGreatDoor
open Go Go.RowKit Dw
set_option maxRecDepth 100000
attribute [local simp] Xbs Kb Xaf opE KM evO cEV_int cEV_bool cEV_str cEV_nil cEV_fn Dw.look Dw.put Dw.setD Dw.Xhq shI Xho Xhp unE GM X5 Jj Gx Je YJ XA Jf Hn Kq KD JD Kd K3 K0 Xd6 KK GF VD Xbr Xec Vr Gw Xgy Y4 Xf6 Yq Xf3 Xh1 Yw Xfi K9 chunks Dw.unC Xd7 JK YL Vc Vv KW YZ KP Xbw refs YS Vd over Xd5 eqC List.getElem?_cons_zero List.getElem?_cons_succ List.all_cons List.all_nil ty3 D3 ty4 D4 ty9 D9 Xkn Xkv D22 Xkm Xku D23 Xkl Xkt D24 Xib J7 J6 J5 J4 Xk0 ty31 D31 Xkk D38 Xkj Xks D44 Xki Xkr D50 Xia J3 fo57_1 fo57_2 fo57_3 Xkz eq57 Xh9 J2 J1 Xky Xh8 J0 JZ JY Xkx Xh7 JX JW JV JU JT JS JR JQ JP JO KI KH Xkw ty71 Xkq D71 Xkh JN JM bu75 eq75 ty97 D97 HW H3 Xk5 G9 H2 Xkg ty112 HZ D112 HV Xk4 G8 Xk3 G7 H1 Xkf G0 fo231_0 fo231_1 fo231_2 fo231_3 fo231_4 fo231_5 fo231_6 fo231_7 fo231_8 fo231_9 fo231_10 H4 H0 H6 H5 init0 init1 init2 init3 init4 init5 init6 Jz Xb9 Xdm rdL rdG rdO Xbu Zg Ge G4 Dw.del KB XV Xx YP Xex J9 Xe0 Kl erefs_agg_c XJ XT XI XQ inH Gt Gu VT Kt cA cB cV
def Xur:List EV→Option (Prop×YX)
 |[.one (.c (.sl _z 2 els)), .one (.c (.sc (.int .u64 a)))]=>(match unC els with|some xs=>some (xs.length≤1000000∧Xz1 xs, .val (iV .u64 (JC xs a)))|none=>none)
 |_=>none
def sp6:Dw.Spec:=Xn 84 Xur sp5
theorem Yf:XF Tryz.prog sp6:=by
 refine Xp ⟨⟨_,Tryz.func84,rfl,rfl⟩⟩ (fun vs p r h hp=>?_) X7;unfold Xur at h;split at h
 ·split at h
  ·rename_i xs hx;simp only[Option.some.injEq,Prod.mk.injEq]at h;obtain⟨rfl,rfl⟩:=h;rw[Xbb hx];exact Xql _ _ _ hp.1 hp.2
  ·cases h
 ·cases h
set_option maxHeartbeats 4000000 in
theorem Xq2(c:Cz)(z:Bool)(all:List Ez)(n:Nat)(hn:n<all.length)(hl:c.fr.length=all.length)(_h1:all.length≤1000)(h2:c.f.length≤1000000)(hr:Xz1 c.f):
  Xq Tryz.prog 51 [.ep 4 [c.cv] 0 0,sV z 14 (Yc all),iV .i64 n] (.val (bV (GK c.f c.fr (all.map Ez.e) n))):=by
 have hge:(all.map Ez.e).getD n default=all[n].e:=by simp[List.getD_eq_getElem?_getD,List.getElem?_map,List.getElem?_eq_getElem hn]
 have hfn:n<c.fr.length:=by omega
 have hgf:c.fr.getD n 0=c.fr[n]:=by simp[List.getD_eq_getElem?_getD,List.getElem?_eq_getElem hfn]
 unfold Cz.cv;refine Xi (rs:=[.tmp 6]) (Xk _) Tryz.func51 rfl Tryz.ntmps51 rfl (by simp) ?_;refine Wa Yf fun K J=>?_;simp;apply J;clear J K;refine We fun S hS=>?_
 ((first|refine Wa Yf fun K J=>?_|refine Wb Yf fun K J=>?_|refine Wc Yf [7] fun K J=>?_|refine Wd Yf [7] fun K J=>?_);simp[hn,hfn,Xe,Xd,Xf,Xg,Ez.cv];apply And.intro;(·kernel_rfl);with_reducible refine J _ ?_;clear J K)
 have hd:GK c.f c.fr (all.map Ez.e) n=(if XD all[n].e.kind=false then decide (c.fr[n]= -1)else if c.fr[n]= -1 then decide (all[n].e.load=JC c.f all[n].e.addr)
   else decide (0≤c.fr[n]∧c.fr[n]<all.length∧c.fr[n]≠n)&&(((all.map Ez.e).getD (c.fr[n]).toNat default).writes&&decide (((all.map Ez.e).getD (c.fr[n]).toNat default).addr=all[n].e.addr∧((all.map Ez.e).getD (c.fr[n]).toNat default).store=all[n].e.load))):=by
  unfold GK;rw[hge,hgf];simp[Ev.reads]
 cases hrd:XD all[n].e.kind
 ·refine hS _ ?_;clear hS S;refine We fun S hS=>?_;refine Wp.block ?_;refine Wa Yf fun K J=>?_;simp[sp6,sp5,sp4,sp3,sp2,Xn,JB,X8,unS,Xa,hrd];apply J;clear J K;refine Wt (by simp) ?_;refine Wa Yf fun K J=>?_;simp;apply J;clear J K;refine Wp.ret ?_;simp;rw[hd];simp[hrd]
 by_cases hv:c.fr[n]= -1
 ·have qv:=eq_true hv;refine hS _ ?_;clear hS S;refine We fun S hS=>?_;refine Wp.block ?_;refine Wa Yf fun K J=>?_;simp[sp6,sp5,sp4,sp3,sp2,Xn,JB,X8,unS,Xa,hrd];apply J;clear J K;refine Wf (by simp) ?_;refine Wa Yf fun K J=>?_;simp[qv];apply J;clear J K;refine Wt (by simp) ?_;refine Wc Yf [] fun K J=>?_;simp[sp6,Xn,Xur,Yv,h2,hr];apply And.intro;(·kernel_rfl);apply J;clear J K;refine Wp.ret ?_;simp;rw[hd];simp[hrd,hv]
 have qv:=eq_false hv;by_cases h0:c.fr[n]<0
 ·have q0:=eq_true h0;refine hS _ ?_;clear hS S;refine We fun S hS=>?_;refine Wp.block ?_;refine Wa Yf fun K J=>?_;simp[sp6,sp5,sp4,sp3,sp2,Xn,JB,X8,unS,Xa,hrd];apply J;clear J K;refine Wf (by simp) ?_;refine Wa Yf fun K J=>?_;simp[qv];apply J;clear J K;refine Wf (by simp) ?_;refine Wa Yf fun K J=>?_;simp[q0];apply J;clear J K;refine Wt (by simp) ?_;refine Wa Yf fun K J=>?_;simp;apply J;clear J K;refine Wp.ret ?_;simp;rw[hd];simp[hrd,hv];omega
 have q0:=eq_false h0;by_cases hg:(all.length:Int)≤c.fr[n]
 ·have qg:=eq_true hg;refine hS _ ?_;clear hS S;refine We fun S hS=>?_;refine Wp.block ?_;refine Wa Yf fun K J=>?_;simp[sp6,sp5,sp4,sp3,sp2,Xn,JB,X8,unS,Xa,hrd];apply J;clear J K;refine Wf (by simp) ?_;refine Wa Yf fun K J=>?_;simp[qv];apply J;clear J K;refine Wf (by simp) ?_;refine Wa Yf fun K J=>?_;simp[Xe,q0,qg];apply J;clear J K;refine Wt (by simp) ?_;refine Wa Yf fun K J=>?_;simp;apply J;clear J K;refine Wp.ret ?_;simp;rw[hd];simp[hrd,hv];omega
 have qg:=eq_false hg;by_cases he:c.fr[n]=(n:Int)
 ·have qe:=eq_true he;refine hS _ ?_;clear hS S;refine We fun S hS=>?_;refine Wp.block ?_;refine Wa Yf fun K J=>?_;simp[sp6,sp5,sp4,sp3,sp2,Xn,JB,X8,unS,Xa,hrd];apply J;clear J K;refine Wf (by simp) ?_;refine Wa Yf fun K J=>?_;simp[qv];apply J;clear J K;refine Wf (by simp) ?_;refine Wa Yf fun K J=>?_;simp[Xe,q0,qg,qe];apply J;clear J K;refine Wt (by simp) ?_;refine Wa Yf fun K J=>?_;simp;apply J;clear J K;refine Wp.ret ?_;simp;rw[hd];simp[hrd,he]
 have qe:=eq_false he;have k0:0≤c.fr[n]:=by omega
 have k1:c.fr[n]<(all.length:Int):=by omega
 have k2:(c.fr[n]).toNat<all.length:=by omega
 have hgv:(all.map Ez.e).getD (c.fr[n]).toNat default=all[(c.fr[n]).toNat].e:=by simp[List.getD_eq_getElem?_getD,List.getElem?_map,List.getElem?_eq_getElem k2]
 rw[hgv]at hd;cases hwr:Xu all[(c.fr[n]).toNat].e.kind
 ·refine hS _ ?_;clear hS S;refine We fun S hS=>?_;refine Wp.block ?_;refine Wa Yf fun K J=>?_;simp[sp6,sp5,sp4,sp3,sp2,Xn,JB,X8,unS,Xa,hrd];apply J;clear J K;refine Wf (by simp) ?_;refine Wa Yf fun K J=>?_;simp[qv];apply J;clear J K;refine Wf (by simp) ?_;refine Wa Yf fun K J=>?_;simp[Xe,q0,qg,qe];apply J;clear J K;refine Wf (by simp) ?_;refine Wp.skip ?_;refine hS _ ?_;clear hS S;refine Wa Yf fun K J=>?_;simp[Xe,Xd,Ez.cv,k0,k1,k2];apply J;clear J K;refine Wa Yf fun K J=>?_;simp[sp6,sp5,sp4,sp3,sp2,Xn,VX,X8,unS,Xa,hwr];apply J;clear J K;refine Wp.ret ?_;simp;rw[hd];simp[hrd,hv,Ev.writes,hwr]
 by_cases ha:all[(c.fr[n]).toNat].e.addr=all[n].e.addr
 case neg=>
  have qa:=eq_false ha;refine hS _ ?_;clear hS S;refine We fun S hS=>?_;refine Wp.block ?_;refine Wa Yf fun K J=>?_;simp[sp6,sp5,sp4,sp3,sp2,Xn,JB,X8,unS,Xa,hrd];apply J;clear J K;refine Wf (by simp) ?_;refine Wa Yf fun K J=>?_;simp[qv];apply J;clear J K;refine Wf (by simp) ?_;refine Wa Yf fun K J=>?_;simp[Xe,q0,qg,qe];apply J;clear J K;refine Wf (by simp) ?_;refine Wp.skip ?_;refine hS _ ?_;clear hS S;refine Wa Yf fun K J=>?_;simp[Xe,Xd,Ez.cv,k0,k1,k2];apply J;clear J K;refine Wa Yf fun K J=>?_;simp[sp6,sp5,sp4,sp3,sp2,Xn,VX,X8,unS,Xa,hwr,qa];apply J;clear J K;refine Wp.ret ?_;simp;rw[hd];simp[hrd,hv,Ev.writes,hwr,ha]
 have qa:=eq_true ha;refine hS _ ?_;clear hS S;refine We fun S hS=>?_;refine Wp.block ?_;refine Wa Yf fun K J=>?_;simp[sp6,sp5,sp4,sp3,sp2,Xn,JB,X8,unS,Xa,hrd];apply J;clear J K;refine Wf (by simp) ?_;refine Wa Yf fun K J=>?_;simp[qv];apply J;clear J K;refine Wf (by simp) ?_;refine Wa Yf fun K J=>?_;simp[Xe,q0,qg,qe];apply J;clear J K;refine Wf (by simp) ?_;refine Wp.skip ?_;refine hS _ ?_;clear hS S;refine Wa Yf fun K J=>?_;simp[Xe,Xd,Ez.cv,k0,k1,k2];apply J;clear J K;refine Wa Yf fun K J=>?_;simp[sp6,sp5,sp4,sp3,sp2,Xn,VX,X8,unS,Xa,hwr,qa];apply J;clear J K;refine Wp.ret ?_;simp;rw[hd];simp[hrd,hv,Ev.writes,hwr,ha,k0,k1,he]
def Yad:List (List Cv)→Option (List (Bool×List Ez))
 |[]=>some []
 |[.sl z 14 els]::r=>(match Xow els,Yad r with|some l,some t=>some ((z,l)::t)|_,_=>none)
 |_=>none
theorem Zj(l:List (Bool×List Ez)):Yad (XW l)=some l:=by
 induction l with
 |nil=>rfl
 |cons a r ih=>simp only[XW,List.map_cons,Yad,Ya]at*;rw[ih]
theorem Xld{els:List (List Cv)}{xs:List (Bool×List Ez)}(h:Yad els=some xs):els=XW xs:=by
 induction els generalizing xs with
 |nil=>injection h with h;subst h;rfl
 |cons a r ih=>
  unfold Yad at h;split at h
  ·rename_i e;cases e
  ·rename_i z els r' e;injection e with e1 e2;subst e1;subst e2;split at h
   ·rename_i l t h1 h2;injection h with h;subst h;rw[ih h2,G6 h1];rfl
   ·cases h
  ·cases h
def Xmk:List EV→Option (Prop×YX)
 |[.one (.c (.sl _ 1 els))]=>(match Yad els with|some hs=>some (hs.length≤1000∧(Xr hs).length≤100000, .val (sV (decide ((Xr hs).length=0)) 14 (Yc (Xr hs))))|none=>none)
 |_=>none
def sv1:Dw.Spec:=Xn 83 Xmk sp6
theorem Xr6:XF Tryz.prog sv1:=by
 refine Xp ⟨⟨_,Tryz.func83,rfl,rfl⟩⟩ (fun vs p r h hp=>?_) Yf;unfold Xmk at h;split at h
 ·split at h
  ·rename_i hs hh;simp only[Option.some.injEq,Prod.mk.injEq]at h;obtain⟨rfl,rfl⟩:=h;rw[Xld hh];exact KZ (Xmv _ _ hp.1 hp.2)
  ·cases h
 ·cases h
theorem Xuw(c:Cz)(hn:c.hs.length≤1000)(hl:(Xr c.hs).length≤100000):Xq Tryz.prog 50 [.ep 4 [c.cv] 0 0] (.val (sV (decide ((Xr c.hs).length=0)) 14 (Yc (Xr c.hs)))):=by
 unfold Cz.cv;refine Xi (rs:=[.tmp 2]) (Xk _) Tryz.func50 rfl Tryz.ntmps50 rfl (by simp) ?_;refine Wa Xr6 fun K J=>?_;simp;apply J;clear J K;refine Wa Xr6 fun K J=>?_;simp[sv1,Xn,Xmk,Zj,hn,hl];apply J;clear J K;refine Wp.ret ?_;simp
def KQ(l:List Bool):List (List Cv):=l.map fun b=>[.sc (.bool b)]
theorem Ki(l:List Bool):(KQ l).length=l.length:=by simp[KQ]
theorem Yp{l:List Bool}{i:Nat}(h:i<(KQ l).length):(KQ l)[i]'h=[.sc (.bool (l[i]'(by simpa[KQ]using h)))]:=by simp[KQ]
theorem Xa5{l:List Bool}{i:Nat}(v:Bool):(KQ l).set i [.sc (.bool v)]=KQ (l.set i v):=by simp[KQ,List.map_set]
theorem Xfo(n:Nat):List.replicate n [Cv.sc (.bool false)]=KQ (List.replicate n false):=by simp[KQ]
def Xgm:List Bool→Int→List Int→Bool
 |_,n,[]=>decide (n=0)
 |left,n,k::r=>if k<0∨(left.length:Int)≤k∨left.getD k.toNat false=false then false else Xgm (left.set k.toNat false) (n - 1) r
def Kk(l:List Ez):List Bool:=l.map fun x=>x.e.mem
def countB(l:List Bool):Nat:=(l.filter id).length
def Vs(all:List Ez)(od:List Int):Bool:=Xgm (Kk all) (countB (Kk all)) od
def Yhp:List EV→Option (Prop×YX)
 |[v]=>(match X8 v with|some x=>some (True, .val (bV x.e.mem))|none=>none)
 |_=>none
def sv2:Dw.Spec:=Xn 67 Yhp sv1
theorem YA:XF Tryz.prog sv2:=by
 refine Xp ⟨⟨_,Tryz.func67,rfl,rfl⟩⟩ (fun vs p r h hp=>?_) Xr6;unfold Yhp at h;split at h
 ·split at h
  ·rename_i x hx;simp only[Option.some.injEq,Prod.mk.injEq]at h;obtain⟨rfl,rfl⟩:=h;exact Yy (.cons (Kx hx) .nil) (Xmc _)
  ·cases h
 ·cases h
def upL(all:List Ez)(i:Nat):List Bool:=Kk (all.take i)++List.replicate (all.length - i) false
theorem Ya4(all:List Ez){i:Nat}(h:i≤all.length):(upL all i).length=all.length:=by simp[upL,Kk];omega
theorem Xry{all:List Ez}{i:Nat}(h:i<all.length):upL all (i+1)=(upL all i).set i all[i].e.mem:=by
 unfold upL;have hl:(Kk (all.take i)).length=i:=by simp[Kk];omega
 rw[List.set_append_right _ _ (by omega),hl,Nat.sub_self];have:all.length - i=(all.length - (i+1))+1:=by omega
 rw[this,List.replicate_succ,List.set_cons_zero,List.take_succ_eq_append_getElem h,Kk,List.map_append,List.append_assoc];rfl
theorem Xws{all:List Ez}{i:Nat}(h:i<all.length)(hm:all[i].e.mem=false):upL all (i+1)=upL all i:=by
 rw[Xry h,hm];have hl:(Kk (all.take i)).length=i:=by simp[Kk];omega
 unfold upL;rw[List.set_append_right _ _ (by omega),hl,Nat.sub_self];have:all.length - i=(all.length - (i+1))+1:=by omega
 rw[this,List.replicate_succ,List.set_cons_zero]
theorem Xqt{all:List Ez}{i:Nat}(h:i<all.length):countB (Kk (all.take (i+1)))=countB (Kk (all.take i))+if all[i].e.mem=true then 1 else 0:=by
 rw[List.take_succ_eq_append_getElem h];simp only[Kk,List.map_append,countB,List.filter_append,List.length_append,List.map_cons,List.map_nil];cases all[i].e.mem<;>rfl
theorem count_le(all:List Ez)(i:Nat):countB (Kk (all.take i))≤i:=by
 have:=List.length_filter_le id (Kk (all.take i));simp[Kk]at this;unfold countB Kk;simp;omega
set_option maxHeartbeats 4000000 in
theorem Xiz(c:Cz)(z:Bool)(all:List Ez)(h1:all.length≤10000)(h2:c.od.length≤10000):Xq Tryz.prog 52 [.ep 4 [c.cv] 0 0,sV z 14 (Yc all)] (.val (bV (Vs all c.od))):=by
 generalize hR:Vs all c.od=R;unfold Cz.cv;have hb1:(all.length:Int)≤1000000:=by omega
 have hb2:(all.length:Int)≤281474976710656:=by omega
 refine Xi (rs:=[.tmp 4]) (Xk _) Tryz.func52 rfl Tryz.ntmps52 rfl (by simp) ?_;refine Wa YA fun K J=>?_;simp;apply J;clear J K;refine Wa YA fun K J=>?_;simp[Xe,hb1,hb2,Xfo];apply J;clear J K;refine Wa YA fun K J=>?_;simp;apply J;clear J K;refine We fun S hS=>?_;refine Wa YA fun K J=>?_;simp[Xe];apply J;clear J K;refine Wp.block ?_;refine Wp.loop (fun k s=>∃i:Nat,i+k=all.length∧s=⟨[(0,cA c),(4,bV false),(5, .one (.own 13)),(6,iV .i64 (countB (Kk (all.take i)))),(14,sV z 14 (Yc all)),(15,iV .i64 all.length),(16,iV .i64 i)],[(13, .row false 4 1 (KQ (upL all i)))]⟩)
  all.length (s0:=⟨[(0,cA c),(4,bV false),(5, .one (.own 13)),(6,iV .i64 (0:Nat)),(14,sV z 14 (Yc all)),(15,iV .i64 all.length),(16,iV .i64 (0:Nat))],[(13, .row false 4 1 (KQ (List.replicate all.length false)))]⟩) ?_ ⟨0,by simp,by simp[upL,Kk,countB]⟩ fun k s ⟨i,hik,hs⟩=>?_
 ·apply Gh.of<;>simp
 subst hs;refine Wa YA fun K J=>?_;simp;apply J;clear J K;refine We fun S hS=>?_;refine Wp.cond rfl (fun hc=>?_) (fun hc=>?_)
 ·have hi:i<all.length:=by simpa using hc
  have hw:IntKind.i64.wrap ((i:Int)+1)=(i+1:Nat):=by rw[wrap_small]<;>omega
  have hcs:=Xqt hi;have hcl:=count_le all i;have hlen:=Ya4 all (Nat.le_of_lt hi);have hil:i<(upL all i).length:=by omega
  cases hm:Jn all[i].e.kind
  ·have hm':all[i].e.mem=false:=hm;rw[hm']at hcs;have hcs':countB (Kk (all.take (i+1)))=countB (Kk (all.take i)):=by simpa using hcs
   refine Wp.skip ?_;refine hS _ ?_;clear hS S;refine We fun S hS=>?_;refine Wp.block ?_;refine Wa YA fun K J=>?_;simp[hi,Xe,Xd,Ez.cv];apply J;clear J K;refine Wa YA fun K J=>?_;simp[sv2,Xn,Yhp,X8,unS,Xa,hm',Ev.eta];apply J;clear J K;refine Wf (by simp) ?_;refine Wp.skip ?_;refine hS _ ?_;clear hS S;refine Wb YA fun K J=>?_;simp[hw];apply J;clear J K;refine⟨⟨[(0,cA c),(4,bV false),(5, .one (.own 13)),(6,iV .i64 (countB (Kk (all.take (i+1))))),(14,sV z 14 (Yc all)),(15,iV .i64 all.length),(16,iV .i64 (i+1:Nat))],[(13, .row false 4 1 (KQ (upL all (i+1))))]⟩,k - 1,?_,by omega,i+1,by omega,rfl⟩;rw[hcs',Xws hi hm'];apply Gh.of<;>simp
  ·have hm':all[i].e.mem=true:=hm;rw[hm',if_pos rfl]at hcs;have hwc:IntKind.i64.wrap ((countB (Kk (all.take i)):Int)+1)=(countB (Kk (all.take (i+1))):Nat):=by rw[wrap_small]<;>omega
   refine Wp.skip ?_;refine hS _ ?_;clear hS S;refine We fun S hS=>?_;refine Wp.block ?_;refine Wa YA fun K J=>?_;simp[hi,Xe,Xd,Ez.cv];apply J;clear J K;refine Wa YA fun K J=>?_;simp[sv2,Xn,Yhp,X8,unS,Xa,hm',Ev.eta];apply J;clear J K;refine Wt (by simp) ?_;refine Wa YA fun K J=>?_;simp[Ki,Yp,Xa5,hil];apply J;clear J K;refine Wb YA fun K J=>?_;simp[hwc];apply J;clear J K;refine hS _ ?_;clear hS S;refine Wb YA fun K J=>?_;simp[hw];apply J;clear J K;refine⟨⟨[(0,cA c),(4,bV false),(5, .one (.own 13)),(6,iV .i64 (countB (Kk (all.take (i+1))))),(14,sV z 14 (Yc all)),(15,iV .i64 all.length),(16,iV .i64 (i+1:Nat))],[(13, .row false 4 1 (KQ (upL all (i+1))))]⟩,k - 1,?_,by omega,i+1,by omega,rfl⟩;rw[Xry hi,hm'];apply Gh.of<;>simp
 ·have hi:¬i<all.length:=by simpa using hc
  refine Wp.exit ?_;simp only[XV,Xx,if_true];have hup:upL all i=Kk all:=by unfold upL;rw[List.take_of_length_le (by omega),show all.length - i=0 by omega];simp
  rw[hup,List.take_of_length_le (show all.length≤i by omega)];clear hc hi hik;have hcl:=count_le all all.length;rw[List.take_length]at hcl;clear hS S;refine hS _ ?_;clear hS S;refine We fun S hS=>?_;refine Wa YA fun K J=>?_;simp[Xf];apply J;clear J K;refine Wp.block ?_;refine Wp.loop (fun k s=>∃(j:Nat) (left:List Bool) (n:Int),j+k=c.od.length∧left.length=all.length∧-(j:Int)≤n∧n≤10000∧Xgm left n (c.od.drop j)=R∧s=⟨[(4,bV false),(5, .one (.own 13)),(6,iV .i64 n),(32,sV c.z4 1 (Xj c.od)),(33,iV .i64 c.od.length),(34,iV .i64 j)],[(13, .row false 4 1 (KQ left))]⟩)
   c.od.length (s0:=⟨[(4,bV false),(5, .one (.own 13)),(6,iV .i64 (countB (Kk all))),(32,sV c.z4 1 (Xj c.od)),(33,iV .i64 c.od.length),(34,iV .i64 (0:Nat))],[(13, .row false 4 1 (KQ (Kk all)))]⟩) ?_ ⟨0,Kk all,countB (Kk all),by simp,by simp[Kk],by omega,by omega,by rw[←hR];rfl,rfl⟩ fun k s ⟨j,left,n,hjk,hll,hn0,hn1,hr,hs⟩=>?_
  ·apply Gh.of<;>simp
  subst hs;refine Wa YA fun K J=>?_;simp;apply J;clear J K;refine We fun S hS=>?_;refine Wp.cond rfl (fun hc=>?_) (fun hc=>?_)
  ·have hj:j<c.od.length:=by simpa using hc
   have hw:IntKind.i64.wrap ((j:Int)+1)=(j+1:Nat):=by rw[wrap_small]<;>omega
   rw[List.drop_eq_getElem_cons hj]at hr;unfold Xgm at hr;by_cases q1:c.od[j]<0
   ·rw[if_pos (.inl q1)]at hr;refine Wp.skip ?_;refine hS _ ?_;clear hS S;refine We fun S hS=>?_;refine Wp.block ?_;refine Wa YA fun K J=>?_;simp[hj,Xf,Xg];apply J;clear J K;refine We fun S hS=>?_;refine Wa YA fun K J=>?_;simp[q1];apply J;clear J K;refine Wt (by simp) ?_;refine Wa YA fun K J=>?_;simp;apply J;clear J K;refine Wp.ret ?_;simp;exact hr.symm
   by_cases q2:(all.length:Int)≤c.od[j]
   ·rw[if_pos (.inr (.inl (by rw[hll];exact q2)))]at hr;refine Wp.skip ?_;refine hS _ ?_;clear hS S;refine We fun S hS=>?_;refine Wp.block ?_;refine Wa YA fun K J=>?_;simp[hj,Xf,Xg];apply J;clear J K;refine We fun S hS=>?_;refine Wa YA fun K J=>?_;simp[q1,q2,Ki,hll];apply J;clear J K;refine Wt (by simp) ?_;refine Wa YA fun K J=>?_;simp;apply J;clear J K;refine Wp.ret ?_;simp;exact hr.symm
   have p0:0≤c.od[j]:=by omega
   have p1:c.od[j]<(all.length:Int):=by omega
   have p2:(c.od[j]).toNat<left.length:=by omega
   have p2':(c.od[j]).toNat<all.length:=by omega
   have hg:left.getD (c.od[j]).toNat false=left[(c.od[j]).toNat]:=by simp[List.getD_eq_getElem?_getD,List.getElem?_eq_getElem p2]
   rw[hg]at hr;cases q3:left[(c.od[j]).toNat]
   ·rw[if_pos (.inr (.inr q3))]at hr;refine Wp.skip ?_;refine hS _ ?_;clear hS S;refine We fun S hS=>?_;refine Wp.block ?_;refine Wa YA fun K J=>?_;simp[hj,Xf,Xg];apply J;clear J K;refine We fun S hS=>?_;refine Wa YA fun K J=>?_;simp[q1,q2,Ki,Yp,hll,p0,p1,p2',q3];apply J;clear J K;refine Wt (by simp) ?_;refine Wa YA fun K J=>?_;simp;apply J;clear J K;refine Wp.ret ?_;simp;exact hr.symm
   ·have hno:¬(c.od[j]<0∨(left.length:Int)≤c.od[j]∨left[(c.od[j]).toNat]=false):=by
     rw[hll,q3];rintro(h|h|h)
     ·exact q1 h
     ·exact q2 h
     ·cases h
    rw[if_neg hno]at hr;have hwn:IntKind.i64.wrap (n - 1)=n - 1:=by
     simp only[IntKind.wrap,IntKind.bits,IntKind.signed];simp;omega
    refine Wp.skip ?_;refine hS _ ?_;clear hS S;refine We fun S hS=>?_;refine Wp.block ?_;refine Wa YA fun K J=>?_;simp[hj,Xf,Xg];apply J;clear J K;refine We fun S hS=>?_;refine Wa YA fun K J=>?_;simp[q1,q2,Ki,Yp,hll,p0,p1,p2',q3];apply J;clear J K;refine Wf (by simp) ?_;refine Wp.skip ?_;refine hS _ ?_;clear hS S;refine Wa YA fun K J=>?_;simp[Ki,Yp,Xa5,hll,p0,p1,p2',q3];apply J;clear J K;refine Wb YA fun K J=>?_;simp[hwn];apply J;clear J K;refine hS _ ?_;clear hS S;refine Wb YA fun K J=>?_;simp[hw];apply J;clear J K;refine⟨⟨[(4,bV false),(5, .one (.own 13)),(6,iV .i64 (n - 1)),(32,sV c.z4 1 (Xj c.od)),(33,iV .i64 c.od.length),(34,iV .i64 (j+1:Nat))],[(13, .row false 4 1 (KQ (left.set (c.od[j]).toNat false)))]⟩,k - 1,?_,by omega,j+1,left.set (c.od[j]).toNat false,n - 1,by omega,by simpa using hll,by omega,by omega,hr,rfl⟩;apply Gh.of<;>simp
  ·have hj:¬j<c.od.length:=by simpa using hc
   refine Wp.exit ?_;simp only[XV,Xx,if_true];rw[List.drop_eq_nil_of_le (by omega)]at hr;clear hS S;refine hS _ ?_;clear hS S;refine Wa YA fun K J=>?_;simp;apply J;clear J K;refine Wp.ret ?_;simp;exact hr
structure Ez.Wf(x:Ez):Prop where
 w1:x.z1=true→x.e.da=[]
 w2:x.z2=true→x.e.dd=[]
 w3:x.z3=true→x.e.dw=[]
 l1:x.e.da.length≤1000000
 l2:x.e.dd.length≤1000000
 l3:x.e.dw.length≤1000000
def Xut:List EV→Option (Prop×YX)
 |[.one (.c (.sl z 1 els))]=>(match unI els with|some xs=>some ((z=true→xs=[])∧xs.length≤1000000, .val (sV z 1 (Xj xs)))|none=>none)
 |_=>none
def sw1:Dw.Spec:=Xn 85 Xut sv2
theorem Zb:XF Tryz.prog sw1:=by
 refine Xp ⟨⟨_,Tryz.func85,rfl,rfl⟩⟩ (fun vs p r h hp=>?_) YA;unfold Xut at h;split at h
 ·split at h
  ·rename_i xs hx;simp only[Option.some.injEq,Prod.mk.injEq]at h;obtain⟨rfl,rfl⟩:=h;rw[YK hx];exact Xqx _ _ hp.1 hp.2
  ·cases h
 ·cases h
set_option maxHeartbeats 1000000 in
theorem Xxt(x:Ez)(hx:x.Wf):Xq Tryz.prog 53 [evV x] (.val (evV x)):=by
 have w1:=hx.w1;have w2:=hx.w2;have w3:=hx.w3;have l1:=hx.l1;have l2:=hx.l2;have l3:=hx.l3;unfold evV;refine Xi (rs:=[.cell 2 67]) (Xk _) Tryz.func53 rfl Tryz.ntmps53 rfl (by simp) ?_
 repeat(first|(refine We fun S hS=>?_)|(refine Wp.block ?_)|(refine Wp.skip ?_)|(refine hS _ ?_;clear hS S)|(clear hS S;refine hS _ ?_;clear hS S)|(clear hS S;clear hS S;refine hS _ ?_;clear hS S))
 first|refine Wa Zb fun K J=>?_|refine Wb Zb fun K J=>?_|refine Wc Zb [] fun K J=>?_|refine Wd Zb [] fun K J=>?_
 simp;apply J;clear J K
 repeat(first|(refine We fun S hS=>?_)|(refine Wp.block ?_)|(refine Wp.skip ?_)|(refine hS _ ?_;clear hS S)|(clear hS S;refine hS _ ?_;clear hS S)|(clear hS S;clear hS S;refine hS _ ?_;clear hS S))
 first|refine Wa Zb fun K J=>?_|refine Wb Zb fun K J=>?_|refine Wc Zb [1] fun K J=>?_|refine Wd Zb [1] fun K J=>?_
 simp[sw1,Xn,Xut,Xa,l1,l2,l3];refine⟨w1,w2,w3,by kernel_rfl,J _ ?_⟩;clear J K;refine hS _ ?_;clear hS S;refine Wa Zb fun K J=>?_;simp;apply J;clear J K;refine Wp.ret ?_;simp
def Yir:List EV→Option (Prop×YX)
 |[v]=>(match X8 v with|some x=>some (x.Wf, .val (evV x))|none=>none)
 |_=>none
def sw2:Dw.Spec:=Xn 53 Yir sw1
theorem Yex:XF Tryz.prog sw2:=by
 refine Xp ⟨⟨_,Tryz.func53,rfl,rfl⟩⟩ (fun vs p r h hp=>?_) Zb;unfold Yir at h;split at h
 ·split at h
  ·rename_i x hx;simp only[Option.some.injEq,Prod.mk.injEq]at h;obtain⟨rfl,rfl⟩:=h;exact Yy (.cons (Kx hx) .nil) (Xxt _ hp)
  ·cases h
 ·cases h
def Yae:List Cv→Option Cz
 |[.sl z1 2 l1, .sl z2 1 l2, .sl z3 1 l3, .sl z4 1 l4]=>(match unC l1,Yad l2,unI l3,unI l4 with
  |some f,some hs,some fr,some od=>some ⟨f,hs,fr,od,z1,z2,z3,z4⟩
  |_,_,_,_=>none)
 |_=>none
theorem Xle{l:List Cv}{c:Cz}(h:Yae l=some c):l=c.cv:=by
 unfold Yae at h;split at h
 ·split at h
  ·rename_i f hs fr od h1 h2 h3 h4;injection h with h;subst h;simp only[Cz.cv,←Xbb h1,←Xld h2,←YK h3,←YK h4]
  ·cases h
 ·cases h
theorem Ya5(c:Cz):Yae c.cv=some c:=by simp[Yae,Cz.cv,Yv,Zj,Xa]
def Xus:List EV→Option (Prop×YX)
 |[.ep 4 [l] 0 0]=>(match Yae l with|some c=>some (c.hs.length≤1000∧(Xr c.hs).length≤100000, .val (sV (decide ((Xr c.hs).length=0)) 14 (Yc (Xr c.hs))))|none=>none)
 |_=>none
def Xys:List EV→Option (Prop×YX)
 |[.ep 4 [l] 0 0, .one (.c (.sl _ 14 els)), .one (.c (.sc (.int .i64 n)))]=>(match Yae l,Xow els with
  |some c,some all=>some (0≤n∧n<all.length∧c.fr.length=all.length∧all.length≤1000∧c.f.length≤1000000∧Xz1 c.f, .val (bV (GK c.f c.fr (all.map Ez.e) n.toNat)))
  |_,_=>none)
 |_=>none
def Xb7:List EV→Option (Prop×YX)
 |[.ep 4 [l] 0 0, .one (.c (.sl _ 14 els))]=>(match Yae l,Xow els with
  |some c,some all=>some (all.length≤10000∧c.od.length≤10000, .val (bV (Vs all c.od)))
  |_,_=>none)
 |_=>none
def Xfg:List EV→Option (Prop×YX)
 |[.one (.c (.sl _ 2 els))]=>(match unC els with|some xs=>some (xs.length≤1000000, .val (bV (VC xs)))|none=>none)
 |_=>none
def Yho:List EV→Option (Prop×YX)
 |[.one (.c (.sc (.int .i64 h))), .one (.c (.sl _ 14 els))]=>(match Xow els with|some l=>some (l.length≤1000∧∀x∈l,GL x.e, .val (iV .i64 (Xqo (Gs h l 0 (-1) l))))|none=>none)
 |_=>none
def sy:Dw.Spec:=Xn 50 Xus (Xn 51 Xys (Xn 52 Xb7 (Xn 48 Xfg (Xn 49 Yho sw2))))
theorem YW:XF Tryz.prog sy:=by
 refine Xp ⟨⟨_,Tryz.func50,rfl,rfl⟩⟩ (fun vs p r h hp=>?_) (Xp ⟨⟨_,Tryz.func51,rfl,rfl⟩⟩ (fun vs p r h hp=>?_) (Xp ⟨⟨_,Tryz.func52,rfl,rfl⟩⟩ (fun vs p r h hp=>?_) (Xp ⟨⟨_,Tryz.func48,rfl,rfl⟩⟩ (fun vs p r h hp=>?_) (Xp ⟨⟨_,Tryz.func49,rfl,rfl⟩⟩ (fun vs p r h hp=>?_) Yex))))
 ·unfold Xus at h;split at h
  ·split at h
   ·rename_i c hc;simp only[Option.some.injEq,Prod.mk.injEq]at h;obtain⟨rfl,rfl⟩:=h;rw[Xle hc];exact Xuw c hp.1 hp.2
   ·cases h
  ·cases h
 ·unfold Xys at h;split at h
  ·split at h
   ·rename_i n _ _ c all hc ha;simp only[Option.some.injEq,Prod.mk.injEq]at h;obtain⟨rfl,rfl⟩:=h;obtain⟨p1,p2,p3,p4,p5,p6⟩:=hp;obtain⟨m,rfl⟩:∃m:Nat,n=m:=⟨n.toNat,by omega⟩;rw[Xle hc,G6 ha];exact Xq2 c _ all m (by omega) p3 p4 p5 p6
   ·cases h
  ·cases h
 ·unfold Xb7 at h;split at h
  ·split at h
   ·rename_i c all hc ha;simp only[Option.some.injEq,Prod.mk.injEq]at h;obtain⟨rfl,rfl⟩:=h;rw[Xle hc,G6 ha];exact Xiz c _ all hp.1 hp.2
   ·cases h
  ·cases h
 ·unfold Xfg at h;split at h
  ·split at h
   ·rename_i xs hx;simp only[Option.some.injEq,Prod.mk.injEq]at h;obtain⟨rfl,rfl⟩:=h;rw[Xbb hx];exact Xmy _ _ hp
   ·cases h
  ·cases h
 ·unfold Yho at h;split at h
  ·split at h
   ·rename_i l hl;simp only[Option.some.injEq,Prod.mk.injEq]at h;obtain⟨rfl,rfl⟩:=h;rw[G6 hl];exact Xu7 _ _ _ hp.1 hp.2
   ·cases h
  ·cases h
theorem Xq4{xs:List (Int×Int)}(h:VC xs=true):Xz1 xs:=by
 have h1:∀i,i<xs.length→0<i→(xs.getD (i - 1) (0,0)).1<(xs.getD i (0,0)).1:=by
  intro i hi h0;have:=(List.all_eq_true.1 h) i (List.mem_range.2 hi);exact(of_decide_eq_true this).2 h0
 intro i j hij hj
 induction j with
 |zero=>omega
 |succ j ih=>
  have:=h1 (j+1) hj (by omega);simp only[Nat.add_sub_cancel]at this;rcases Nat.lt_or_ge i j with g|g
  ·have:=ih g (by omega);omega
  ·obtain rfl:i=j:=by omega
   exact this
theorem Gq(c:Cz):Yae [.sl c.z1 2 (KY c.f), .sl c.z2 1 (XW c.hs), .sl c.z3 1 (Xj c.fr), .sl c.z4 1 (Xj c.od)]=some c:=Ya5 c
def JI:List (Bool×List Ez)→Nat→Bool
 |[],_=>true
 |p::r,i=>Gs i p.2 0 (-1) p.2&&JI r (i+1)
theorem Xiq{l:List (Bool×List Ez)}{i:Nat}(h:i<l.length):JI (l.drop i) i=(Gs i l[i].2 0 (-1) l[i].2&&JI (l.drop (i+1)) (i+1)):=by
 rw[List.drop_eq_getElem_cons h];rfl
def Y3(c:Cz):Bool:=VC c.f&&(decide (1≤c.hs.length∧c.hs.length≤8)&&(JI c.hs 0&&(decide (c.fr.length=(Xr c.hs).length)&&
 (((List.range (Xr c.hs).length).all fun n=>GK c.f c.fr ((Xr c.hs).map Ez.e) n)&&Vs (Xr c.hs) c.od))))
structure H7(c:Cz):Prop where
 f:c.f.length≤1000
 hs:c.hs.length≤1000
 all:(Xr c.hs).length≤1000
 fr:c.fr.length≤1000
 od:c.od.length≤1000
 ev:∀p∈c.hs,∀x∈p.2,x.Wf∧GL x.e
set_option maxHeartbeats 4000000 in
theorem Xmx(c:Cz)(hc0:H7 c):Xq Tryz.prog 18 [Yo c] (.val (iV .i64 (Yt (Y3 c)))):=by
 have b1:=hc0.f;have b2:=hc0.hs;have b3:=hc0.all;have b4:=hc0.fr;have b5:=hc0.od;have b6:=hc0.ev;have b1':c.f.length≤1000000:=by omega
 have b3':(Xr c.hs).length≤100000:=by omega
 have b3'':(Xr c.hs).length≤10000:=by omega
 have b5':c.od.length≤10000:=by omega
 generalize hR:Yt (Y3 c)=R;unfold Yo;refine Xi (rs:=[.tmp 2]) (Xk _) Tryz.func18 rfl Tryz.ntmps18 rfl (by simp) ?_
 repeat(first|(refine We fun S hS=>?_)|(refine Wp.block ?_)|(refine Wp.skip ?_)|(refine hS _ ?_;clear hS S)|(clear hS S;refine hS _ ?_;clear hS S)|(clear hS S;clear hS S;refine hS _ ?_;clear hS S))
 first|refine Wa YW fun K J=>?_|refine Wb YW fun K J=>?_|refine Wc YW [] fun K J=>?_|refine Wd YW [] fun K J=>?_
 simp;apply J;clear J K;refine hS _ ?_;clear hS S;refine Wp.frzBox (b:=1) (cs:=c.cv) rfl rfl ?_;change Wp _ _ _ _ (⟨[(0,Yo c),(1,cA c),(2,iV .i64 0)],[]⟩:St);cases e1:VC c.f
 ·refine We fun S hS=>?_;refine Wa YW fun K J=>?_;simp[sy,Xn,Xfg,Yv,b1',e1];apply J;clear J K;refine Wt (by simp) ?_;refine Wa YW fun K J=>?_;simp;apply J;clear J K;refine Wp.ret ?_;simp;rw[←hR,Y3,e1];rfl
 have hrise:=Xq4 e1;by_cases e2:c.hs.length<1
 ·have e2':(c.hs.length:Int)<1:=by omega
  refine We fun S hS=>?_;refine Wa YW fun K J=>?_;simp[sy,Xn,Xfg,Yv,Xo,b1',e1,e2'];apply J;clear J K;refine Wt (by simp) ?_;refine Wa YW fun K J=>?_;simp;apply J;clear J K;refine Wp.ret ?_;simp;rw[←hR,Y3,e1,decide_eq_false (show ¬(1≤c.hs.length∧c.hs.length≤8) by omega)];rfl
 have e2':¬(c.hs.length:Int)<1:=by omega
 by_cases e3:8<c.hs.length
 ·have e3':(8:Int)<c.hs.length:=by omega
  refine We fun S hS=>?_;refine Wa YW fun K J=>?_;simp[sy,Xn,Xfg,Yv,Xo,b1',e1,e2',e3'];apply J;clear J K;refine Wt (by simp) ?_;refine Wa YW fun K J=>?_;simp;apply J;clear J K;refine Wp.ret ?_;simp;rw[←hR,Y3,e1,decide_eq_false (show ¬(1≤c.hs.length∧c.hs.length≤8) by omega)];rfl
 have e3':¬(8:Int)<c.hs.length:=by omega
 rw[Y3,e1,decide_eq_true (show 1≤c.hs.length∧c.hs.length≤8 by omega),Bool.true_and,Bool.true_and]at hR;refine We fun S hS=>?_;refine Wa YW fun K J=>?_;simp[sy,Xn,Xfg,Yv,Xo,b1',e1,e2',e3'];apply J;clear J K;refine Wf (by simp) ?_;refine Wp.skip ?_;refine hS _ ?_;clear hS S;refine Wa YW fun K J=>?_;simp;apply J;clear J K;refine We fun S hS=>?_;refine Wa YW fun K J=>?_;simp[Xo];apply J;clear J K;refine Wp.block ?_;refine Wp.loop (fun k s=>∃i:Nat,i+k=c.hs.length∧JI (c.hs.drop i) i=JI c.hs 0∧s=⟨[(1,cA c),(2,iV .i64 0),(3,iV .i64 (Xr (c.hs.take i)).length),(25,sV c.z2 1 (XW c.hs)),(26,iV .i64 c.hs.length),(27,iV .i64 i)],[]⟩)
  c.hs.length (s0:=⟨[(1,cA c),(2,iV .i64 0),(3,iV .i64 (0:Nat)),(25,sV c.z2 1 (XW c.hs)),(26,iV .i64 c.hs.length),(27,iV .i64 (0:Nat))],[]⟩) ?_ ⟨0,by simp,by simp,by simp[Xr]⟩ fun k s ⟨i,hik,hr,hs⟩=>?_
 ·apply Gh.of<;>simp
 subst hs;refine Wa YW fun K J=>?_;simp;apply J;clear J K;refine We fun S hS=>?_;refine Wp.cond rfl (fun hc=>?_) (fun hc=>?_)
 ·have hi:i<c.hs.length:=by simpa using hc
  have hw:IntKind.i64.wrap ((i:Int)+1)=(i+1:Nat):=by rw[wrap_small]<;>omega
  have hf:=congrArg List.length (Kz hi);rw[List.length_append]at hf;have hle:=VM c.hs (i+1);have hws:IntKind.i64.wrap (((Xr (c.hs.take i)).length:Int)+c.hs[i].2.length)=(Xr (c.hs.take (i+1))).length:=by rw[wrap_small]<;>omega
  have hbig:¬(4096:Int)<(Xr (c.hs.take (i+1))).length:=by omega
  have hl1000:c.hs[i].2.length≤1000:=by omega
  have hev:∀x∈c.hs[i].2,GL x.e:=fun x hx=>(b6 _ (List.getElem_mem hi) x hx).2;rw[Xiq hi]at hr;cases hrow:Gs i c.hs[i].2 0 (-1) c.hs[i].2
  ·have hev':=eq_true hev;refine Wp.skip ?_;refine hS _ ?_;clear hS S;refine We fun S hS=>?_;refine Wp.block ?_;refine Wa YW fun K J=>?_;simp[hi,Xo,Xz];apply J;clear J K;refine Wa YW fun K J=>?_;simp[hws,Xe];apply J;clear J K;refine Wa YW fun K J=>?_;simp[hbig,sy,Xn,Yho,Ya,hl1000,hev',hrow,Xqo];apply J;clear J K;refine Wt (by simp) ?_;refine Wa YW fun K J=>?_;simp;apply J;clear J K;refine Wp.ret ?_;simp;rw[hrow]at hr;rw[←hR,←hr];rfl
  ·rw[hrow,Bool.true_and]at hr;have hev':=eq_true hev;refine Wp.skip ?_;refine hS _ ?_;clear hS S;refine We fun S hS=>?_;refine Wp.block ?_;refine Wa YW fun K J=>?_;simp[hi,Xo,Xz];apply J;clear J K;refine Wa YW fun K J=>?_;simp[hws,Xe];apply J;clear J K;refine Wa YW fun K J=>?_;simp[hbig,sy,Xn,Yho,Ya,hl1000,hev',hrow,Xqo];apply J;clear J K;refine Wf (by simp) ?_;refine Wp.skip ?_;refine hS _ ?_;clear hS S;refine Wb YW fun K J=>?_;simp[hw];apply J;clear J K;refine⟨⟨[(1,cA c),(2,iV .i64 0),(3,iV .i64 (Xr (c.hs.take (i+1))).length),(25,sV c.z2 1 (XW c.hs)),(26,iV .i64 c.hs.length),(27,iV .i64 (i+1:Nat))],[]⟩,k - 1,?_,by omega,i+1,by omega,hr,rfl⟩;apply Gh.of<;>simp
 ·have hi:¬i<c.hs.length:=by simpa using hc
  refine Wp.exit ?_;simp only[XV,Xx,if_true];rw[List.take_of_length_le (show c.hs.length≤i by omega)];rw[List.drop_eq_nil_of_le (by omega)]at hr;rw[←hr]at hR;simp only[JI,Bool.true_and]at hR;clear hc hi hik hr;by_cases e4:c.fr.length=(Xr c.hs).length
  case neg=>
   have e4':¬((c.fr.length:Int)=(Xr c.hs).length):=by omega
   clear hS S;refine hS _ ?_;clear hS S;refine Wa YW fun K J=>?_;simp[sy,Xn,Xus,Gq,b2,b3'];apply J;clear J K;refine We fun S hS=>?_;refine Wa YW fun K J=>?_;simp[Xf,e4'];apply J;clear J K;refine Wt (by simp) ?_;refine Wa YW fun K J=>?_;simp;apply J;clear J K;refine Wp.ret ?_;simp;rw[←hR,decide_eq_false e4];rfl
  rw[decide_eq_true e4,Bool.true_and]at hR;have e4':((c.fr.length:Int)=(Xr c.hs).length):=by omega
  clear hS S;refine hS _ ?_;clear hS S;refine Wa YW fun K J=>?_;simp[sy,Xn,Xus,Gq,b2,b3'];apply J;clear J K;refine We fun S hS=>?_;refine Wa YW fun K J=>?_;simp[Xf,e4'];apply J;clear J K;refine Wf (by simp) ?_;refine Wp.skip ?_;refine hS _ ?_;clear hS S;refine We fun S hS=>?_;refine Wa YW fun K J=>?_;simp[Xe];apply J;clear J K;refine Wp.block ?_;obtain⟨zz,hzz⟩:∃zz:Bool,zz=decide (Xr c.hs=[]):=⟨_,rfl⟩;generalize hall:Xr c.hs=all at*
  refine Wp.loop (fun k s=>∃i:Nat,i+k=all.length∧(∀j,j<i→GK c.f c.fr (all.map Ez.e) j=true)∧s=⟨[(1,cA c),(2,iV .i64 0),(6,sV (decide (all=[])) 14 (Yc all)),(52,iV .i64 all.length),(53,iV .i64 i)],[]⟩)
   all.length (s0:=⟨[(1,cA c),(2,iV .i64 0),(6,sV (decide (all=[])) 14 (Yc all)),(52,iV .i64 all.length),(53,iV .i64 (0:Nat))],[]⟩) ?_ ⟨0,by simp,by simp,rfl⟩ fun k s ⟨i,hik,hr,hs⟩=>?_
  ·apply Gh.of<;>simp
  subst hs;refine Wa YW fun K J=>?_;simp;apply J;clear J K;refine We fun S hS=>?_;refine Wp.cond rfl (fun hc=>?_) (fun hc=>?_)
  ·have hi:i<all.length:=by simpa using hc
   have hw:IntKind.i64.wrap ((i:Int)+1)=(i+1:Nat):=by rw[wrap_small]<;>omega
   have hfl:c.fr.length=all.length:=e4;cases hf:GK c.f c.fr (all.map Ez.e) i
   ·refine Wp.skip ?_;refine hS _ ?_;clear hS S;refine We fun S hS=>?_;refine Wp.block ?_;refine Wa YW fun K J=>?_;simp[hi];apply J;clear J K;refine Wa YW fun K J=>?_;simp[hi,sy,Xn,Xys,Gq,Ya,hfl,b3,b1',hrise,hf];apply J;clear J K;refine Wt (by simp) ?_;refine Wa YW fun K J=>?_;simp;apply J;clear J K;refine Wp.ret ?_;simp;have:((List.range all.length).all fun n=>GK c.f c.fr (all.map Ez.e) n)=false:=by
     rw[List.all_eq_false];exact⟨i,List.mem_range.2 hi,by simp[hf]⟩
    rw[←hR,this];rfl
   ·refine Wp.skip ?_;refine hS _ ?_;clear hS S;refine We fun S hS=>?_;refine Wp.block ?_;refine Wa YW fun K J=>?_;simp[hi];apply J;clear J K;refine Wa YW fun K J=>?_;simp[hi,sy,Xn,Xys,Gq,Ya,hfl,b3,b1',hrise,hf];apply J;clear J K;refine Wf (by simp) ?_;refine Wp.skip ?_;refine hS _ ?_;clear hS S;refine Wb YW fun K J=>?_;simp[hw];apply J;clear J K;refine⟨⟨[(1,cA c),(2,iV .i64 0),(6,sV (decide (all=[])) 14 (Yc all)),(52,iV .i64 all.length),(53,iV .i64 (i+1:Nat))],[]⟩,k - 1,?_,by omega,i+1,by omega,fun j hj=>?_,rfl⟩
    ·apply Gh.of<;>simp
    rcases Nat.lt_or_ge j i with g|g
    ·exact hr j g
    ·obtain rfl:j=i:=by omega
     exact hf
  ·have hi:¬i<all.length:=by simpa using hc
   refine Wp.exit ?_;simp only[XV,Xx,if_true];have hall':((List.range all.length).all fun n=>GK c.f c.fr (all.map Ez.e) n)=true:=by
    rw[List.all_eq_true];exact fun j hj=>hr j (by have:=List.mem_range.1 hj;omega)
   rw[hall',Bool.true_and]at hR;cases ho:Vs all c.od
   ·rw[ho]at hR;clear hS S;refine hS _ ?_;clear hS S;refine We fun S hS=>?_;refine Wa YW fun K J=>?_;simp[sy,Xn,Xb7,Gq,Ya,b3'',b5',ho];apply J;clear J K;refine Wt (by simp) ?_;refine Wa YW fun K J=>?_;simp;apply J;clear J K;refine Wp.ret ?_;simp;exact hR
   ·rw[ho]at hR;clear hS S;refine hS _ ?_;clear hS S;refine We fun S hS=>?_;refine Wa YW fun K J=>?_;simp[sy,Xn,Xb7,Gq,Ya,b3'',b5',ho];apply J;clear J K;refine Wf (by simp) ?_;refine Wp.skip ?_;refine hS _ ?_;clear hS S;refine Wa YW fun K J=>?_;simp;apply J;clear J K;refine Wp.ret ?_;simp;exact hR
def KJ:EV→Option Cz
 | .agg [.c (.sl z1 2 l1), .c (.sl z2 1 l2), .c (.sl z3 1 l3), .c (.sl z4 1 l4)]=>(match unC l1,Yad l2,unI l3,unI l4 with
  |some f,some hs,some fr,some od=>some ⟨f,hs,fr,od,z1,z2,z3,z4⟩
  |_,_,_,_=>none)
 |_=>none
theorem Yk{v:EV}{c:Cz}(h:KJ v=some c):v=Yo c:=by
 unfold KJ at h;split at h
 ·split at h
  ·rename_i f hs fr od h1 h2 h3 h4;injection h with h;subst h;simp only[Yo,←Xbb h1,←Xld h2,←YK h3,←YK h4]
  ·cases h
 ·cases h
theorem Xs(c:Cz):KJ (.agg [.c (.sl c.z1 2 (KY c.f)), .c (.sl c.z2 1 (XW c.hs)), .c (.sl c.z3 1 (Xj c.fr)), .c (.sl c.z4 1 (Xj c.od))])=some c:=by
 simp[KJ,Yv,Zj,Xa]
def Xdg:List EV→Option (Prop×YX)
 |[v]=>(match KJ v with|some c=>some (H7 c, .val (iV .i64 (Yt (Y3 c))))|none=>none)
 |_=>none
def sz1:Dw.Spec:=Xn 18 Xdg sy
theorem V7:XF Tryz.prog sz1:=by
 refine Xp ⟨⟨_,Tryz.func18,rfl,rfl⟩⟩ (fun vs p r h hp=>?_) YW;unfold Xdg at h;split at h
 ·split at h
  ·rename_i c hc;simp only[Option.some.injEq,Prod.mk.injEq]at h;obtain⟨rfl,rfl⟩:=h;rw[Yk hc];exact Xmx c hp
  ·cases h
 ·cases h
theorem Xdi{hs:List (Bool×List Ez)}{x:Ez}(h:x∈Xr hs):∃p∈hs,x∈p.2:=by
 unfold Xr at h;rw[List.mem_flatten]at h;obtain⟨l,hl,hx⟩:=h;rw[List.mem_map]at hl;obtain⟨p,hp,rfl⟩:=hl;exact⟨p,hp,hx⟩
set_option maxHeartbeats 4000000 in
theorem Ydu(c:Cz)(hc0:H7 c)(hck:Y3 c=true):Xq Tryz.prog 19 [Yo c] (.row (decide ((Xr c.hs).length=0)) 67 14 (Yc (Xr c.hs))):=by
 have b2:=hc0.hs;have b3:=hc0.all;have b3':(Xr c.hs).length≤100000:=by omega
 have bok:=eq_true hc0;have bev:∀x∈Xr c.hs,x.Wf:=fun x hx=>by obtain⟨p,hp,hx'⟩:=Xdi hx;exact(hc0.ev p hp x hx').1
 obtain⟨zz,hzz⟩:∃zz:Bool,zz=decide ((Xr c.hs).length=0):=⟨_,rfl⟩;rw[←hzz];unfold Yo;refine Xi (rs:=[.tmp 2]) (Xk _) Tryz.func19 rfl Tryz.ntmps19 rfl (by simp) ?_
 repeat(first|(refine We fun S hS=>?_)|(refine Wp.block ?_)|(refine Wp.skip ?_)|(refine hS _ ?_;clear hS S)|(clear hS S;refine hS _ ?_;clear hS S)|(clear hS S;clear hS S;refine hS _ ?_;clear hS S))
 first|refine Wa V7 fun K J=>?_|refine Wb V7 fun K J=>?_|refine Wc V7 [] fun K J=>?_|refine Wd V7 [] fun K J=>?_
 simp;apply J;clear J K;refine hS _ ?_;clear hS S;refine Wp.frzBox (b:=1) (cs:=c.cv) rfl rfl ?_;change Wp _ _ _ _ (⟨[(0,Yo c),(1,cA c),(2,sV true 0 [])],[]⟩:St);refine We fun S hS=>?_;refine Wa V7 fun K J=>?_;simp[sz1,Xn,Xdg,Xs,bok,hck,Yt];apply J;clear J K;refine Wf (by simp) ?_;refine Wp.skip ?_;refine hS _ ?_;clear hS S;refine Wa V7 fun K J=>?_;simp;apply J;clear J K;refine We fun S hS=>?_;refine Wa V7 fun K J=>?_;simp[sz1,sy,Xn,Xus,Gq,b2,b3',Xe];apply J;clear J K;refine Wp.block ?_;generalize hall:Xr c.hs=all at*
 refine Wp.loop (fun k s=>∃i:Nat,i+k=all.length∧s=⟨[(2,sV true 0 []),(3, .one (.own 3)),(9,sV (decide (all=[])) 14 (Yc all)),(10,iV .i64 all.length),(11,iV .i64 i)],[(3, .row (decide (i=0)) 67 14 (Yc (all.take i)))]⟩)
  all.length (s0:=⟨[(2,sV true 0 []),(3, .one (.own 3)),(9,sV (decide (all=[])) 14 (Yc all)),(10,iV .i64 all.length),(11,iV .i64 (0:Nat))],[(3, .row true 67 14 [])]⟩) ?_ ⟨0,by simp,by simp[Yc]⟩ fun k s ⟨i,hik,hs⟩=>?_
 ·refine .trans (.adopt (t:=3) (b:=3) rfl rfl 67 14) ?_;apply Gh.of<;>simp
 subst hs;refine Wa V7 fun K J=>?_;simp;apply J;clear J K;refine We fun S hS=>?_;refine Wp.cond rfl (fun hc=>?_) (fun hc=>?_)
 ·have hi:i<all.length:=by simpa using hc
  have hw:IntKind.i64.wrap ((i:Int)+1)=(i+1:Nat):=by rw[wrap_small]<;>omega
  have hwf:=eq_true (bev _ (List.getElem_mem hi));have hl:(min i all.length)+1≤maxLen:=by unfold maxLen;omega
  have hl2:(min i all.length+1)*152≤140737488355328:=by omega
  have htk:Yc (all.take (i+1))=Yc (all.take i)++[all[i].cv]:=by rw[List.take_succ_eq_append_getElem hi];unfold Yc;rw[List.map_append];rfl
  refine Wp.skip ?_;refine hS _ ?_;clear hS S;refine We fun S hS=>?_;refine Wp.block ?_;refine Wa V7 fun K J=>?_;simp[hi,Xe,Xd,Ez.cv];apply J;clear J K;refine Wb V7 fun K J=>?_;simp[Xe,sz1,sy,sw2,Xn,Yir,X8,unS,Xa,Ev.eta,hwf,evV,hl,hl2];apply J;clear J K;refine hS _ ?_;clear hS S;refine Wb V7 fun K J=>?_;simp[hw];apply J;clear J K;refine⟨⟨[(2,sV true 0 []),(3, .one (.own 3)),(9,sV (decide (all=[])) 14 (Yc all)),(10,iV .i64 all.length),(11,iV .i64 (i+1:Nat))],[(3, .row (decide (i+1=0)) 67 14 (Yc (all.take (i+1))))]⟩,k - 1,?_,by omega,i+1,by omega,rfl⟩;rw[htk];apply Gh.of<;>simp[Ez.cv]
 ·have hi:¬i<all.length:=by simpa using hc
  refine Wp.exit ?_;simp only[XV,Xx,if_true];rw[List.take_of_length_le (show all.length≤i by omega)];clear hS S;refine hS _ ?_;clear hS S;refine Wa V7 fun K J=>?_;simp;apply J;clear J K;refine Wp.ret ?_;simp;rw[hzz,decide_eq_decide];omega
theorem Xzs(c:Cz)(hc0:H7 c)(hck:Y3 c=true):Xq Tryz.prog 19 [Yo c] (.val (sV (decide ((Xr c.hs).length=0)) 14 (Yc (Xr c.hs)))):=KZ (Ydu c hc0 hck)
def Xaj(c:Cz)(z:Bool)(l:List Ez):EV:= .agg (cV c z l)
def Za:EV→Option (Cz×Bool×List Ez)
 | .agg [v1,v2,v3,v4, .c (.sl z 14 els)]=>(match KJ (.agg [v1,v2,v3,v4]),Xow els with
  |some c,some l=>some (c,z,l)
  |_,_=>none)
 |_=>none
theorem Vq{v:EV}{c:Cz}{z:Bool}{l:List Ez}(h:Za v=some (c,z,l)):v=Xaj c z l:=by
 unfold Za at h;split at h
 ·rename_i v1 v2 v3 v4 z' els;split at h
  ·rename_i c' l' h1 h2;simp only[Option.some.injEq,Prod.mk.injEq]at h;obtain⟨rfl,rfl,rfl⟩:=h;have:=Yk h1;simp only[Yo,EV.agg.injEq,List.cons.injEq,and_true]at this;obtain⟨rfl,rfl,rfl,rfl⟩:=this;rw[G6 h2];rfl
  ·cases h
 ·cases h
theorem Yd(c:Cz)(z:Bool)(l:List Ez):Za (.agg (cV c z l))=some (c,z,l):=by
 simp[Za,Xs,Ya]
theorem Xeo{l:List Ez}{i:Nat}(h:i<l.length):(l.map Ez.e).getD i default=l[i].e:=by simp[List.getD_eq_getElem?_getD,List.getElem?_map,List.getElem?_eq_getElem h]
set_option maxHeartbeats 4000000 in
theorem Xl0(c:Cz)(z:Bool)(l:List Ez)(a b:Nat)(ha:a<l.length)(hb:b<l.length):
  Xq Tryz.prog 46 [Xaj c z l,iV .i64 a,iV .i64 b] (.val (bV (Hy (l.map Ez.e) a b))):=by
 have qa:(l.length≤a)=False:=eq_false (by omega);have qb:(l.length≤b)=False:=eq_false (by omega);have na:((a:Int)<0)=False:=eq_false (by omega);have nb:((b:Int)<0)=False:=eq_false (by omega);obtain⟨x,hx⟩:∃x,l[a]=x:=⟨_,rfl⟩;obtain⟨y,hy⟩:∃y,l[b]=y:=⟨_,rfl⟩;have hv:Hy (l.map Ez.e) a b=(decide (x.e.hart=y.e.hart∧x.e.pos<y.e.pos)&&(x.e.mem&&y.e.mem)):=by
  unfold Hy;simp only[Int.toNat_natCast,Xeo ha,Xeo hb,hx,hy,List.length_map];rw[decide_eq_true (by omega:(0:Int)≤a∧(0:Int)≤b∧(a:Int)<l.length∧(b:Int)<l.length),Bool.true_and]
 rw[hv];clear hv;unfold Xaj;refine Xi (rs:=[.tmp 6]) (Xk _) Tryz.func46 rfl Tryz.ntmps46 rfl (by simp) ?_;refine Wa Hb fun K J=>?_;simp;apply J;clear J K;refine We fun S hS=>?_;refine Wa Hb fun K J=>?_;simp[Xe,qa,qb,na,nb];apply J;clear J K;refine Wf (by simp) ?_;refine Wp.skip ?_;refine hS _ ?_;clear hS S;refine We fun S hS=>?_
 ((first|refine Wa Hb fun K J=>?_|refine Wb Hb fun K J=>?_|refine Wc Hb [7,8] fun K J=>?_|refine Wd Hb [7,8] fun K J=>?_);simp[ha,hb,Xe,Xd,Ez.cv,hx,hy];apply And.intro;(·kernel_rfl);with_reducible refine J _ ?_;clear J K)
 by_cases h1:x.e.hart=y.e.hart
 ·have e1:=eq_true h1;by_cases h2:x.e.pos<y.e.pos
  ·have e2:=eq_true h2;clear h1 h2;cases h3:x.e.mem
   ·refine hS _ ?_;clear hS S;refine Wa Hb fun K J=>?_;simp[se2,Xn,Kw,X8,unS,Xa,Ev.eta',e1,e2,h3];apply J;clear J K;refine Wp.ret ?_;simp[e1,e2,h3]
   ·refine hS _ ?_;clear hS S;refine Wa Hb fun K J=>?_;simp[se2,Xn,Kw,X8,unS,Xa,Ev.eta',e1,e2,h3];apply J;clear J K;refine Wp.ret ?_;simp[e1,e2,h3]
  ·have e2:=eq_false h2;clear h1 h2;refine hS _ ?_;clear hS S;refine Wa Hb fun K J=>?_;simp[e1,e2];apply J;clear J K;refine Wp.ret ?_;simp[e1,e2]
 ·have e1:=eq_false h1;clear h1;refine hS _ ?_;clear hS S;refine Wa Hb fun K J=>?_;simp[e1];apply J;clear J K;refine Wp.ret ?_;simp[e1]
def Xaw:List EV→Option (Prop×YX)
 |[v, .one (.c (.sc (.int .i64 a))), .one (.c (.sc (.int .i64 b)))]=>(match Za v with
  |some (_,_,l)=>some (0≤a∧a<l.length∧0≤b∧b<l.length, .val (bV (Hy (l.map Ez.e) a b)))
  |none=>none)
 |_=>none
def se3:Dw.Spec:=Xn 46 Xaw se2
theorem Xh:XF Tryz.prog se3:=by
 refine Xp ⟨⟨_,Tryz.func46,rfl,rfl⟩⟩ (fun vs p r h hp=>?_) Hb;unfold Xaw at h;split at h
 ·split at h
  ·rename_i a b _ c z l hv;simp only[Option.some.injEq,Prod.mk.injEq]at h;obtain⟨rfl,rfl⟩:=h;obtain⟨a,rfl⟩:∃m:Nat,a=m:=⟨a.toNat,by omega⟩;obtain⟨b,rfl⟩:∃m:Nat,b=m:=⟨b.toNat,by omega⟩;rw[Vq hv];exact Xl0 c z l a b (by omega) (by omega)
  ·cases h
 ·cases h
end Go.Proofs.YtjhfcfpkgfpoiaaGreatDoor
