/- What the program and the document compute, as plain data, and laws of it. No condition. -/
import Derived.BigQuiet
import Derived.Deep.QuietTactic
import Derived.IntWalk
import Derived.KernelRfl
import Derived.Lib.Hide
import Derived.WalkKit
import Derived.WalkLawsBesides
import Derived.WalkSpells
import Derived.Test.YtjhfcfpkgfpoiaaGreatDoorDe
import Derived.Test.YtjhfcfpkgfpoiaaGreatDoorProg
import Derived.Test.YtjhfcfpkgfpoiaaGreatDoorWf
namespace Go.Proofs.YtjhfcfpkgfpoiaaGreatDoor
open Go Go.RowKit Dw
set_option maxRecDepth 100000
attribute [local simp] Xbs Kb Xaf opE KM evO cEV_int cEV_bool cEV_str cEV_nil cEV_fn Dw.look Dw.put Dw.setD Dw.Xhq shI Xho Xhp unE GM X5 Jj Gx Je YJ XA Jf Hn Kq KD JD Kd K3 K0 Xd6 KK GF VD Xbr Xec Vr Gw Xgy Y4 Xf6 Yq Xf3 Xh1 Yw Xfi K9 chunks Dw.unC Xd7 JK YL Vc Vv KW YZ KP Xbw refs YS Vd over Xd5 eqC List.getElem?_cons_zero List.getElem?_cons_succ List.all_cons List.all_nil ty3 D3 ty4 D4 ty9 D9 Xkn Xkv D22 Xkm Xku D23 Xkl Xkt D24 Xib J7 J6 J5 J4 Xk0 ty31 D31 Xkk D38 Xkj Xks D44 Xki Xkr D50 Xia J3 fo57_1 fo57_2 fo57_3 Xkz eq57 Xh9 J2 J1 Xky Xh8 J0 JZ JY Xkx Xh7 JX JW JV JU JT JS JR JQ JP JO KI KH Xkw ty71 Xkq D71 Xkh JN JM bu75 eq75 ty97 D97 HW H3 Xk5 G9 H2 Xkg ty112 HZ D112 HV Xk4 G8 Xk3 G7 H1 Xkf G0 fo231_0 fo231_1 fo231_2 fo231_3 fo231_4 fo231_5 fo231_6 fo231_7 fo231_8 fo231_9 fo231_10 H4 H0 H6 H5 init0 init1 init2 init3 init4 init5 init6 Jz Xb9 Xdm rdL rdG rdO Xbu Zg Ge G4 Dw.del KB XV Xx YP Xex J9 Xe0 Kl erefs_agg_c XJ XT XI XQ inH Gt Gu VT Kt
theorem Xqw(xs:List Int)(hn:xs.length≤1000000):Xq Tryz.prog 85 [sV false 1 (Xj xs)] (.row false 3 1 (Xj xs)):=by
 refine Xi (rs:=[.tmp 2]) (Xk _) Tryz.func85 rfl Tryz.ntmps85 rfl (by simp) ?_;have h1:xs.length≤maxLen:=by unfold maxLen;omega
 have h2:xs.length*8≤140737488355328:=by omega
 refine Wa Xb fun K J=>?_;simp;apply J;clear J K;refine We fun S hS=>?_;refine Wa Xb fun K J=>?_;simp;apply J;clear J K;refine Wf (by simp) ?_;refine Wp.skip ?_;refine hS _ ?_;clear hS S;refine Wa Xb fun K J=>?_;simp[Xf,h1,h2];apply J;clear J K;refine Wp.ret ?_;simp
theorem Xvh:Xq Tryz.prog 85 [sV true 1 []] (.val (sV true 0 [])):=by
 refine Xi (rs:=[.tmp 2]) (Xk _) Tryz.func85 rfl Tryz.ntmps85 rfl (by simp) ?_;refine Wa Xb fun K J=>?_;simp;apply J;clear J K;refine We fun S hS=>?_;refine Wa Xb fun K J=>?_;simp;apply J;clear J K;refine Wt (by simp) ?_;refine Wa Xb fun K J=>?_;simp;apply J;clear J K;refine Wp.ret ?_;simp
theorem Xqx(z:Bool)(xs:List Int)(hz:z=true→xs=[])(hn:xs.length≤1000000):Xq Tryz.prog 85 [sV z 1 (Xj xs)] (.val (sV z 1 (Xj xs))):=by
 cases z with
 |true=>
  obtain rfl:=hz rfl;intro M w us hM hu;refine(Xvh M w us hM hu).mono ?_;rintro e w' ⟨u,rfl,hb,hr⟩;refine⟨u,rfl,hb,?_⟩;cases hr with|one hr=>
  have hr':XN w' _ (.sl true 0 []) u:=hr;cases hr';exact .one (.nil (esz:=1))
 |false=>exact KZ (Xqw xs hn)
theorem Xte(z:Bool)(xs:List Int)(hn:xs.length≤1000000):Xq Tryz.prog 88 [sV z 1 (Xj xs)] (.row false 3 1 (Xj xs)):=by
 have h1:xs.length≤maxLen:=by unfold maxLen;omega
 have h2:xs.length*8≤140737488355328:=by omega
 refine Xi (rs:=[.tmp 2]) (Xk _) Tryz.func88 rfl Tryz.ntmps88 rfl (by simp) ?_;refine Wa Xb fun K J=>?_;simp;apply J;clear J K;refine Wa Xb fun K J=>?_;simp[Xf,h1,h2];apply J;clear J K;refine Wp.ret ?_;simp
def Ycd:List EV→Option (Prop×YX)
 |[.one (.c (.sl _z 1 els))]=>(match unI els with|some xs=>some (xs.length≤1000000, .val (sV false 1 (Xj xs)))|none=>none)
 |_=>none
def so1:Dw.Spec:=Xn 88 Ycd Xao
theorem ZC:XF Tryz.prog so1:=by
 refine Xp ⟨⟨_,Tryz.func88,rfl,rfl⟩⟩ (fun vs p r h hp=>?_) Xb;unfold Ycd at h;split at h
 ·split at h
  ·rename_i xs hx;simp only[Option.some.injEq,Prod.mk.injEq]at h;obtain⟨rfl,rfl⟩:=h;rw[YK hx];exact KZ (Xte _ _ hp)
  ·cases h
 ·cases h
set_option maxHeartbeats 1000000 in
theorem Xix(z1 z2 z3:Bool)(a b c:List Int)(h1:a.length≤1000000)(h2:b.length≤1000000)(h3:c.length≤1000000):
  Xq Tryz.prog 56 [.agg [.c (.sl z1 1 (Xj a)), .c (.sl z2 1 (Xj b)), .c (.sl z3 1 (Xj c))]] (.val (.agg [.c (.sl false 1 (Xj a)), .c (.sl false 1 (Xj b)), .c (.sl false 1 (Xj c))])):=by
 refine Xi (rs:=[.cell 2 65]) (Xk _) Tryz.func56 rfl Tryz.ntmps56 rfl (by simp) ?_
 repeat(first|(refine We fun S hS=>?_)|(refine Wp.block ?_)|(refine Wp.skip ?_)|(refine hS _ ?_;clear hS S)|(clear hS S;refine hS _ ?_;clear hS S)|(clear hS S;clear hS S;refine hS _ ?_;clear hS S))
 first|refine Wa ZC fun K J=>?_|refine Wb ZC fun K J=>?_|refine Wc ZC [] fun K J=>?_|refine Wd ZC [] fun K J=>?_
 simp;apply J;clear J K
 repeat(first|(refine We fun S hS=>?_)|(refine Wp.block ?_)|(refine Wp.skip ?_)|(refine hS _ ?_;clear hS S)|(clear hS S;refine hS _ ?_;clear hS S)|(clear hS S;clear hS S;refine hS _ ?_;clear hS S))
 ((first|refine Wa ZC fun K J=>?_|refine Wb ZC fun K J=>?_|refine Wc ZC [2] fun K J=>?_|refine Wd ZC [2] fun K J=>?_);simp[so1,Xn,Ycd,Xa,h1,h2,h3];apply And.intro;(·kernel_rfl);with_reducible refine J _ ?_;clear J K)
 refine hS _ ?_;clear hS S;refine Wp.ret ?_;simp
def Ycf:List EV→Option (Prop×YX)
 |[.agg [.c (.sl _z1 1 l1), .c (.sl _z2 1 l2), .c (.sl _z3 1 l3)]]=>(match unI l1,unI l2,unI l3 with|some a,some b,some c=>some (a.length≤1000000∧b.length≤1000000∧c.length≤1000000, .val (.agg [.c (.sl false 1 (Xj a)), .c (.sl false 1 (Xj b)), .c (.sl false 1 (Xj c))]))|_,_,_=>none)
 |_=>none
def so2:Dw.Spec:=Xn 56 Ycf so1
theorem Xsh:XF Tryz.prog so2:=by
 refine Xp ⟨⟨_,Tryz.func56,rfl,rfl⟩⟩ (fun vs p r h hp=>?_) ZC;unfold Ycf at h;split at h
 ·split at h
  ·rename_i a b c ha hb hc;simp only[Option.some.injEq,Prod.mk.injEq]at h;obtain⟨rfl,rfl⟩:=h;rw[YK ha,YK hb,YK hc];exact Xix _ _ _ _ _ _ hp.1 hp.2.1 hp.2.2
  ·cases h
 ·cases h
set_option maxHeartbeats 1000000 in
theorem Xgk(x:Ez)(h1:x.e.da.length≤1000000)(h2:x.e.dd.length≤1000000)(h3:x.e.dw.length≤1000000):
  Xq Tryz.prog 24 [evV x] (.val (evV {x with z1:=false,z2:=false,z3:=false})):=by
 unfold evV;refine Xi (rs:=[.cell 2 67]) (Xk _) Tryz.func24 rfl Tryz.ntmps24 rfl (by simp) ?_;refine Wa Xsh fun K J=>?_;simp;apply J;clear J K;refine Wa Xsh fun K J=>?_;simp[so2,Xn,Ycf,Xa,h1,h2,h3];apply J;clear J K;refine Wa Xsh fun K J=>?_;simp;apply J;clear J K;refine Wp.ret ?_;simp
theorem Yb9(n:Nat)(h0:0<n)(hn:n≤100000):Xq Tryz.prog 118 [sV true 14 [],iV .i64 n] (.row false 67 14 []):=by
 have h1:¬(n:Int)<0:=by omega
 have h2:(0:Int)<n:=by omega
 have hw:IntKind.i64.wrap (n:Int)=n:=by rw[wrap_small]<;>omega
 have hb:(n:Int)≤281474976710656:=by omega
 have hz:IntKind.i64.wrap 0=0:=by rw[wrap_small]<;>omega
 have h3:(n:Int)*152≤140737488355328:=by omega
 refine Xi (rs:=[.tmp 4]) (Xk _) Tryz.func118 rfl Tryz.ntmps118 rfl (by simp) ?_;refine Wa Xb fun K J=>?_;simp;apply J;clear J K;refine We fun S hS=>?_;refine Wa Xb fun K J=>?_;simp[h1];apply J;clear J K;refine Wf (by simp) ?_;refine Wp.skip ?_;refine hS _ ?_;clear hS S;refine We fun S hS=>?_;refine Wa Xb fun K J=>?_;simp[hw,hz];apply J;clear J K;refine Wa Xb fun K J=>?_;simp[h0];apply J;clear J K;refine Wt (by simp) ?_;refine Wb Xb fun K J=>?_;simp[h0,hb,h3];apply J;clear J K;refine hS _ ?_;clear hS S;refine Wa Xb fun K J=>?_;simp;apply J;clear J K;refine Wp.ret ?_;simp
theorem Ybx(e e':Nat):Leq (sV true e []) (sV true e' []):=by
 intro w N u hu;cases hu with|one hu=>
 have hu':XN w N (.sl true e []) u:=hu;cases hu';exact .one (.nil (esz:=e'))
theorem Xuk(e n:Nat)(h0:0<n)(hn:n≤100000):Xq Tryz.prog 118 [sV true e [],iV .i64 n] (.row false 67 14 []):=
 Yy (.cons (Ybx _ _) (.cons (Leq.refl _) .nil)) (Yb9 n h0 hn)
theorem Yfn(e:Nat):Xq Tryz.prog 118 [sV true e [],iV .i64 0] (.val (sV true e [])):=by
 have hz:IntKind.i64.wrap 0=0:=by rw[wrap_small]<;>omega
 refine Xi (rs:=[.tmp 4]) (Xk _) Tryz.func118 rfl Tryz.ntmps118 rfl (by simp) ?_;refine Wa Xb fun K J=>?_;simp;apply J;clear J K;refine We fun S hS=>?_;refine Wa Xb fun K J=>?_;simp;apply J;clear J K;refine Wf (by simp) ?_;refine Wp.skip ?_;refine hS _ ?_;clear hS S;refine We fun S hS=>?_;refine Wa Xb fun K J=>?_;simp[hz];apply J;clear J K;refine Wa Xb fun K J=>?_;simp;apply J;clear J K;refine Wf (by simp) ?_;refine Wp.skip ?_;refine hS _ ?_;clear hS S;refine Wa Xb fun K J=>?_;simp;apply J;clear J K;refine Wp.ret ?_;simp
def Xyr:List EV→Option (Prop×YX)
 |[.one (.c (.sl true e [])), .one (.c (.sc (.int .i64 n)))]=>some (0≤n∧n≤100000,if n=0 then .val (sV true e [])else .row false 67 14 [])
 |_=>none
def sg1:Dw.Spec:=Xn 118 Xyr Xao
theorem KC:XF Tryz.prog sg1:=by
 refine Xp ⟨⟨_,Tryz.func118,rfl,rfl⟩⟩ (fun vs p r h hp=>?_) Xb;unfold Xyr at h;split at h
 ·rename_i e n;simp only[Option.some.injEq,Prod.mk.injEq]at h;obtain⟨rfl,rfl⟩:=h;obtain⟨m,rfl⟩:∃m:Nat,n=m:=⟨n.toNat,by omega⟩;by_cases hm:m=0
  ·subst hm;exact Yfn e
  ·rw[if_neg (by omega)];exact Xuk e m (by omega) (by omega)
 ·cases h
def Xr(hs:List (Bool×List Ez)):List Ez:=(hs.map (·.2)).flatten
theorem Kz{hs:List (Bool×List Ez)}{i:Nat}(h:i<hs.length):Xr (hs.take (i+1))=Xr (hs.take i)++hs[i].2:=by
 rw[List.take_succ_eq_append_getElem h,Xr,List.map_append,List.flatten_append];simp[Xr]
theorem VM(hs:List (Bool×List Ez))(i:Nat):(Xr (hs.take i)).length≤(Xr hs).length:=by
 have:Xr hs=Xr (hs.take i)++Xr (hs.drop i):=by
  conv=>lhs;rw[←List.take_append_drop i hs]
  rw[Xr,List.map_append,List.flatten_append];rfl
 rw[this];simp
set_option maxHeartbeats 1000000 in
theorem Xmv(z:Bool)(hs:List (Bool×List Ez))(hn:hs.length≤1000)(hl:(Xr hs).length≤100000):
  Xq Tryz.prog 83 [sV z 1 (XW hs)] (.row (decide ((Xr hs).length=0)) 67 14 (Yc (Xr hs))):=by
 obtain⟨zz,hzz⟩:∃zz:Bool,zz=decide ((Xr hs).length=0):=⟨_,rfl⟩;rw[←hzz];refine Xi (rs:=[.tmp 2]) (Xk _) Tryz.func83 rfl Tryz.ntmps83 rfl (by simp) ?_;refine Wa KC fun K J=>?_;simp;apply J;clear J K;refine Wa KC fun K J=>?_;simp;apply J;clear J K;refine We fun S hS=>?_;refine Wa KC fun K J=>?_;simp[Xo];apply J;clear J K;refine Wp.block ?_;refine Wp.loop (fun k s=>∃i:Nat,i+k=hs.length∧s=⟨[(0,sV z 1 (XW hs)),(2,sV true 0 []),(3,iV .i64 (Xr (hs.take i)).length),(9,sV z 1 (XW hs)),(10,iV .i64 hs.length),(11,iV .i64 i)],[]⟩)
  hs.length (s0:=⟨[(0,sV z 1 (XW hs)),(2,sV true 0 []),(3,iV .i64 (0:Nat)),(9,sV z 1 (XW hs)),(10,iV .i64 hs.length),(11,iV .i64 (0:Nat))],[]⟩) ?_ ⟨0,by simp,by simp[Xr]⟩ fun k s ⟨i,hik,hs'⟩=>?_
 ·apply Gh.of<;>simp
 subst hs';refine Wa KC fun K J=>?_;simp;apply J;clear J K;refine We fun S hS=>?_;refine Wp.cond rfl (fun hc=>?_) (fun hc=>?_)
 ·have hi:i<hs.length:=by simpa using hc
  have hw:IntKind.i64.wrap ((i:Int)+1)=(i+1:Nat):=by rw[wrap_small]<;>omega
  have hf:=congrArg List.length (Kz hi);rw[List.length_append]at hf;have hle:=VM hs (i+1);have hws:IntKind.i64.wrap (((Xr (hs.take i)).length:Int)+hs[i].2.length)=(Xr (hs.take (i+1))).length:=by rw[wrap_small]<;>omega
  have hneg:¬((Xr (hs.take (i+1))).length:Int)<0:=by omega
  refine Wp.skip ?_;refine hS _ ?_;clear hS S;refine We fun S hS=>?_;refine Wp.block ?_;refine Wa KC fun K J=>?_;simp[hi,Xo,Xz];apply J;clear J K;refine Wa KC fun K J=>?_;simp[hws,Xe];apply J;clear J K;refine Wa KC fun K J=>?_;simp[hneg];apply J;clear J K;refine Wf (by simp) ?_;refine Wp.skip ?_;refine hS _ ?_;clear hS S;refine Wb KC fun K J=>?_;simp[hw];apply J;clear J K;refine⟨⟨[(0,sV z 1 (XW hs)),(2,sV true 0 []),(3,iV .i64 (Xr (hs.take (i+1))).length),(9,sV z 1 (XW hs)),(10,iV .i64 hs.length),(11,iV .i64 (i+1:Nat))],[]⟩,k - 1,?_,by omega,i+1,by omega,rfl⟩;apply Gh.of<;>simp
 ·have hi:¬i<hs.length:=by simpa using hc
  refine Wp.exit ?_;simp only[XV,Xx,if_true];rw[List.take_of_length_le (show hs.length≤i by omega)];clear hc hi hik;have q1:((Xr hs).length:Int)≤100000:=by omega
  cases zz with
  |true=>
   have h0:(Xr hs).length=0:=by simpa using hzz.symm
   have q0:((Xr hs).length:Int)=0:=by omega
   clear hS S;refine hS _ ?_;clear hS S;refine Wa KC fun K J=>?_;simp[q0,sg1,Xn,Xyr];apply J;clear J K;refine We fun S hS=>?_;refine Wa KC fun K J=>?_;simp[Xo];apply J;clear J K;refine Wp.block ?_;refine Wp.loop (fun k s=>∃i:Nat,i+k=hs.length∧s=⟨[(2,sV true 0 []),(6, .one (.own 24)),(25,sV z 1 (XW hs)),(26,iV .i64 hs.length),(27,iV .i64 i)],[(24, .row true 67 14 (Yc (Xr (hs.take i))))]⟩)
    hs.length (s0:=⟨[(2,sV true 0 []),(6, .one (.own 24)),(25,sV z 1 (XW hs)),(26,iV .i64 hs.length),(27,iV .i64 (0:Nat))],[(24, .row true 67 14 [])]⟩) ?_ ⟨0,by simp,by simp[Xr,Yc]⟩ fun k s ⟨i,hik,hs'⟩=>?_
   ·refine .trans (.adopt (t:=6) (b:=24) rfl rfl 67 14) ?_;apply Gh.of<;>simp
   subst hs';refine Wa KC fun K J=>?_;simp;apply J;clear J K;refine We fun S hS=>?_;refine Wp.cond rfl (fun hc=>?_) (fun hc=>?_)
   ·have hi:i<hs.length:=by simpa using hc
    have hw:IntKind.i64.wrap ((i:Int)+1)=(i+1:Nat):=by rw[wrap_small]<;>omega
    have hf:=Kz hi;have hfl:=congrArg List.length hf;rw[List.length_append]at hfl;have hle:=VM hs (i+1);have ha:Yc (Xr (hs.take (i+1)))=Yc (Xr (hs.take i))++Yc hs[i].2:=by rw[hf];simp[Yc]
    have hl1:(Xr (hs.take i)).length+hs[i].2.length≤maxLen:=by unfold maxLen;omega
    have hl2:((Xr (hs.take i)).length+hs[i].2.length)*152≤140737488355328:=by omega
    have hz:(true&&(Yc hs[i].2).isEmpty)=true:=by
     have:hs[i].2.length=0:=by omega
     rw[List.length_eq_zero_iff]at this;rw[this];rfl
    have hz':(Yc hs[i].2).isEmpty=true∨true=false:=by revert hz;cases(Yc hs[i].2).isEmpty<;>simp
    refine Wp.skip ?_;refine hS _ ?_;clear hS S;refine We fun S hS=>?_;refine Wp.block ?_;refine Wa KC fun K J=>?_;simp[hi,Xo,Xz];apply J;clear J K;refine Wb KC fun K J=>?_;simp[Xe,hl1,hl2];apply J;clear J K;refine hS _ ?_;clear hS S;refine Wb KC fun K J=>?_;simp[hw];apply J;clear J K;refine⟨⟨[(2,sV true 0 []),(6, .one (.own 24)),(25,sV z 1 (XW hs)),(26,iV .i64 hs.length),(27,iV .i64 (i+1:Nat))],[(24, .row true 67 14 (Yc (Xr (hs.take (i+1)))))]⟩,k - 1,?_,by omega,i+1,by omega,rfl⟩;rw[ha];apply Gh.of<;>simp;exact List.isEmpty_iff.1 (by simpa using hz)
   ·have hi:¬i<hs.length:=by simpa using hc
    refine Wp.exit ?_;simp only[XV,Xx,if_true];rw[List.take_of_length_le (show hs.length≤i by omega)];clear hS S;refine hS _ ?_;clear hS S;refine Wa KC fun K J=>?_;simp;apply J;clear J K;refine Wp.ret ?_;simp
  |false=>
   have h0:¬(Xr hs).length=0:=by simpa using hzz.symm
   have q0:¬Xr hs=[]:=by rw[←List.length_eq_zero_iff];exact h0
   clear hS S;refine hS _ ?_;clear hS S;refine Wa KC fun K J=>?_;simp[q0,q1,sg1,Xn,Xyr];apply J;clear J K;refine We fun S hS=>?_;refine Wa KC fun K J=>?_;simp[Xo];apply J;clear J K;refine Wp.block ?_;refine Wp.loop (fun k s=>∃i:Nat,i+k=hs.length∧s=⟨[(2,sV true 0 []),(6, .one (.own 24)),(25,sV z 1 (XW hs)),(26,iV .i64 hs.length),(27,iV .i64 i)],[(24, .row false 67 14 (Yc (Xr (hs.take i))))]⟩)
    hs.length (s0:=⟨[(2,sV true 0 []),(6, .one (.own 24)),(25,sV z 1 (XW hs)),(26,iV .i64 hs.length),(27,iV .i64 (0:Nat))],[(24, .row false 67 14 [])]⟩) ?_ ⟨0,by simp,by simp[Xr,Yc]⟩ fun k s ⟨i,hik,hs'⟩=>?_
   ·apply Gh.of<;>simp
   subst hs';refine Wa KC fun K J=>?_;simp;apply J;clear J K;refine We fun S hS=>?_;refine Wp.cond rfl (fun hc=>?_) (fun hc=>?_)
   ·have hi:i<hs.length:=by simpa using hc
    have hw:IntKind.i64.wrap ((i:Int)+1)=(i+1:Nat):=by rw[wrap_small]<;>omega
    have hf:=Kz hi;have hfl:=congrArg List.length hf;rw[List.length_append]at hfl;have hle:=VM hs (i+1);have ha:Yc (Xr (hs.take (i+1)))=Yc (Xr (hs.take i))++Yc hs[i].2:=by rw[hf];simp[Yc]
    have hl1:(Xr (hs.take i)).length+hs[i].2.length≤maxLen:=by unfold maxLen;omega
    have hl2:((Xr (hs.take i)).length+hs[i].2.length)*152≤140737488355328:=by omega
    have hz:(false&&(Yc hs[i].2).isEmpty)=false:=by
     rfl
    have hz':(Yc hs[i].2).isEmpty=true∨false=false:=by revert hz;cases(Yc hs[i].2).isEmpty<;>simp
    refine Wp.skip ?_;refine hS _ ?_;clear hS S;refine We fun S hS=>?_;refine Wp.block ?_;refine Wa KC fun K J=>?_;simp[hi,Xo,Xz];apply J;clear J K;refine Wb KC fun K J=>?_;simp[Xe,hl1,hl2];apply J;clear J K;refine hS _ ?_;clear hS S;refine Wb KC fun K J=>?_;simp[hw];apply J;clear J K;refine⟨⟨[(2,sV true 0 []),(6, .one (.own 24)),(25,sV z 1 (XW hs)),(26,iV .i64 hs.length),(27,iV .i64 (i+1:Nat))],[(24, .row false 67 14 (Yc (Xr (hs.take (i+1)))))]⟩,k - 1,?_,by omega,i+1,by omega,rfl⟩;rw[ha];apply Gh.of<;>simp
   ·have hi:¬i<hs.length:=by simpa using hc
    refine Wp.exit ?_;simp only[XV,Xx,if_true];rw[List.take_of_length_le (show hs.length≤i by omega)];clear hS S;refine hS _ ?_;clear hS S;refine Wa KC fun K J=>?_;simp;apply J;clear J K;refine Wp.ret ?_;simp
def Ga:Int→List Int→Bool
 |_,[]=>true
 |last,x::r=>decide (last<x)&&Ga x r
theorem Xpc{xs:List Int}{i:Nat}(h:i<xs.length)(last:Int):Ga last (xs.drop i)=(decide (last<xs[i])&&Ga xs[i] (xs.drop (i+1))):=by
 rw[List.drop_eq_getElem_cons h];rfl
theorem Xpd(z:Bool)(xs:List Int)(hn:xs.length≤1000000):Xq Tryz.prog 153 [sV z 1 (Xj xs)] (.val (bV (Ga (-1) xs))):=by
 refine Xi (rs:=[.tmp 2]) (Xk _) Tryz.func153 rfl Tryz.ntmps153 rfl (by simp) ?_;refine Wa Xb fun K J=>?_;simp;apply J;clear J K;refine Wa Xb fun K J=>?_;simp;apply J;clear J K;refine We fun S hS=>?_;refine Wa Xb fun K J=>?_;simp[Xf];apply J;clear J K;refine Wp.block ?_;refine Wp.loop (fun k s=>∃(i:Nat) (last:Int),i+k=xs.length∧s=⟨[(0,sV z 1 (Xj xs)),(2,bV false),(3,iV .i64 last),(6,sV z 1 (Xj xs)),(7,iV .i64 xs.length),(8,iV .i64 i)],[]⟩∧Ga last (xs.drop i)=Ga (-1) xs)
  xs.length (s0:=⟨[(0,sV z 1 (Xj xs)),(2,bV false),(3,iV .i64 (-1)),(6,sV z 1 (Xj xs)),(7,iV .i64 xs.length),(8,iV .i64 0)],[]⟩) ?_ ⟨0, -1,by simp,rfl,by simp⟩ fun k s ⟨i,last,hik,hs,hr⟩=>?_
 ·apply Gh.of<;>simp
 subst hs;refine Wa Xb fun K J=>?_;simp;apply J;clear J K;refine We fun S hS=>?_;refine Wp.cond rfl (fun hc=>?_) (fun hc=>?_)
 ·have hi:i<xs.length:=by simpa using hc
  have hd:=Xpc hi last
  repeat(first|(refine We fun S hS=>?_)|(refine Wp.block ?_)|(refine Wp.skip ?_)|(refine hS _ ?_;clear hS S)|(clear hS S;refine hS _ ?_;clear hS S)|(clear hS S;clear hS S;refine hS _ ?_;clear hS S))
  first|refine Wa Xb fun K J=>?_|refine Wb Xb fun K J=>?_|refine Wc Xb [] fun K J=>?_|refine Wd Xb [] fun K J=>?_
  simp[hi,Xf,Xg];apply J;clear J K;refine hS _ ?_;clear hS S;refine We fun S hS=>?_;refine Wa Xb fun K J=>?_;simp;apply J;clear J K;refine Wp.cond rfl (fun hc=>?_) (fun hc=>?_)
  ·have hx:¬last<xs[i]:=by simpa using hc
   refine Wa Xb fun K J=>?_;simp;apply J;clear J K;refine Wp.ret ?_;simp;rw[←hr,hd];simp[hx]
  ·have hx:last<xs[i]:=by simpa using hc
   have hw:IntKind.i64.wrap ((i:Int)+1)=(i+1:Nat):=by rw[wrap_small]<;>omega
   refine Wp.skip ?_;refine hS _ ?_;clear hS S;refine Wb Xb fun K J=>?_;simp;apply J;clear J K;refine hS _ ?_;clear hS S;refine Wb Xb fun K J=>?_;simp[hw];apply J;clear J K;refine⟨⟨[(0,sV z 1 (Xj xs)),(2,bV false),(3,iV .i64 xs[i]),(6,sV z 1 (Xj xs)),(7,iV .i64 xs.length),(8,iV .i64 (i+1:Nat))],[]⟩,k - 1,?_,by omega,i+1,xs[i],by omega,rfl,?_⟩
   ·apply Gh.of<;>simp
   rw[←hr,hd];simp[hx]
 ·have hi:¬i<xs.length:=by simpa using hc
  refine Wp.exit ?_;simp only[XV,Xx,if_true];clear hS S;refine hS _ ?_;clear hS S;refine Wa Xb fun K J=>?_;simp;apply J;clear J K;refine Wp.ret ?_;simp;rw[←hr,List.drop_eq_nil_of_le (by omega)];rfl
def hasB(k:Int):Int:=if k=1 then 1 else if k=2 then 2 else if k=3 then 5 else if k=4 then 14 else if k=5 then 7 else if k=6 then 16 else 0
theorem Xyl(k:Int):Xq Tryz.prog 55 [iV .i64 k] (.val (iV .u64 (hasB k))):=by
 refine Xi (rs:=[.tmp 2]) (Xk _) Tryz.func55 rfl Tryz.ntmps55 rfl (by simp) ?_;by_cases h1:k<1
 ·have e:hasB k=0:=by unfold hasB;split<;>(try split)<;>(try split)<;>(try split)<;>(try split)<;>(try split)<;>omega
  rw[e];refine Wa Xb fun K J=>?_;simp;apply J;clear J K;refine We fun S hS=>?_;refine Wa Xb fun K J=>?_;simp[h1];apply J;clear J K;refine Wt (by simp) ?_;refine Wa Xb fun K J=>?_;simp;apply J;clear J K;refine Wp.ret ?_;simp
 ·by_cases h6:6<k
  ·have e:hasB k=0:=by unfold hasB;split<;>(try split)<;>(try split)<;>(try split)<;>(try split)<;>(try split)<;>omega
   rw[e];refine Wa Xb fun K J=>?_;simp;apply J;clear J K;refine We fun S hS=>?_;refine Wa Xb fun K J=>?_;simp[h1,h6];apply J;clear J K;refine Wt (by simp) ?_;refine Wa Xb fun K J=>?_;simp;apply J;clear J K;refine Wp.ret ?_;simp
  ·have hk:k=1∨k=2∨k=3∨k=4∨k=5∨k=6:=by omega
   clear h1 h6;rcases hk with rfl|rfl|rfl|rfl|rfl|rfl
   all_goals
    repeat(first|((first|refine Wa Xb fun K J=>?_|refine Wb Xb fun K J=>?_|refine Wc Xb [] fun K J=>?_|refine Wd Xb [] fun K J=>?_);simp;first|done|(with_reducible refine J _ ?_;clear J K)|(apply And.intro;(·kernel_rfl);with_reducible refine J _ ?_;clear J K))|refine We fun S hS=>?_|refine Wp.block ?_|refine Wp.skip ?_|(apply Wt;· (simp;done))|(apply Wf;· (simp;done))|(refine hS _ ?_;clear hS S)|(clear hS S;refine hS _ ?_;clear hS S))
    refine Wp.ret ?_;simp[hasB]
def Xuq:List EV→Option (Prop×YX)
 |[.one (.c (.sc (.int .i64 k)))]=>some (True, .val (iV .u64 (hasB k)))
 |_=>none
def Xjr:List EV→Option (Prop×YX)
 |[.one (.c (.sl _z 1 els))]=>(match unI els with|some xs=>some (xs.length≤1000000, .val (bV (Ga (-1) xs)))|none=>none)
 |_=>none
def sp1:Dw.Spec:=Xn 55 Xuq (Xn 153 Xjr Xao)
theorem Xig:XF Tryz.prog sp1:=by
 refine Xp ⟨⟨_,Tryz.func55,rfl,rfl⟩⟩ (fun vs p r h hp=>?_) (Xp ⟨⟨_,Tryz.func153,rfl,rfl⟩⟩ (fun vs p r h hp=>?_) Xb)
 ·unfold Xuq at h;split at h
  ·simp only[Option.some.injEq,Prod.mk.injEq]at h;obtain⟨rfl,rfl⟩:=h;exact Xyl _
  ·cases h
 ·unfold Xjr at h;split at h
  ·split at h
   ·rename_i z els xs hx;simp only[Option.some.injEq,Prod.mk.injEq]at h;obtain⟨rfl,rfl⟩:=h;rw[YK hx];exact Xpd _ _ hp
   ·cases h
  ·cases h
theorem Xnz(m:Nat)(f:Int→Bool)(h1:decide (IntKind.u64.wrap ↑(((1:Int)%2^IntKind.u64.bits).toNat&&& m%2^IntKind.u64.bits)=0)=!f 1)(h2:decide (IntKind.u64.wrap ↑(((2:Int)%2^IntKind.u64.bits).toNat&&& m%2^IntKind.u64.bits)=0)=!f 2)
  (h3:decide (IntKind.u64.wrap ↑(((5:Int)%2^IntKind.u64.bits).toNat&&& m%2^IntKind.u64.bits)=0)=!f 3) (h4:decide (IntKind.u64.wrap ↑(((14:Int)%2^IntKind.u64.bits).toNat&&& m%2^IntKind.u64.bits)=0)=!f 4) (h5:decide (IntKind.u64.wrap ↑(((7:Int)%2^IntKind.u64.bits).toNat&&& m%2^IntKind.u64.bits)=0)=!f 5) (h6:decide (IntKind.u64.wrap ↑(((16:Int)%2^IntKind.u64.bits).toNat&&& m%2^IntKind.u64.bits)=0)=!f 6)
  (h0:decide (IntKind.u64.wrap ↑(((0:Int)%2^IntKind.u64.bits).toNat&&& m%2^IntKind.u64.bits)=0)=true) (k:Int) (hf:¬(k=1∨k=2∨k=3∨k=4∨k=5∨k=6)→f k=false):decide (IntKind.u64.wrap ↑((hasB k%2^IntKind.u64.bits).toNat&&& m%2^IntKind.u64.bits)=0)=!f k:=by
 unfold hasB;split; ·subst_vars;exact h1
 split; ·subst_vars;exact h2
 split; ·subst_vars;exact h3
 split; ·subst_vars;exact h4
 split; ·subst_vars;exact h5
 split; ·subst_vars;exact h6
 rw[hf (by omega)];exact h0
theorem Xuj(k:Int):decide (IntKind.u64.wrap ↑((hasB k%2^IntKind.u64.bits).toNat&&& 1%2^IntKind.u64.bits)=0)=!XD k:=
 Xnz 1 XD rfl rfl rfl rfl rfl rfl rfl k (by unfold XD;intro h;simp;omega)
theorem Xui(k:Int):decide (IntKind.u64.wrap ↑((hasB k%2^IntKind.u64.bits).toNat&&& 2%2^IntKind.u64.bits)=0)=!Xu k:=
 Xnz 2 Xu rfl rfl rfl rfl rfl rfl rfl k (by unfold Xu;intro h;simp;omega)
theorem Xpi(x:Ez):Xq Tryz.prog 21 [evV x] (.val (bV (XD x.e.kind))):=by
 refine Xi (rs:=[.tmp 2]) (Xk _) Tryz.func21 rfl Tryz.ntmps21 rfl (by simp) ?_;unfold evV;refine Wa Xig fun K J=>?_;simp;apply J;clear J K;refine Wa Xig fun K J=>?_;simp[sp1,Xn,Xuq,Xuj];apply J;clear J K;refine Wp.ret ?_;simp
theorem Xk8(x:Ez):Xq Tryz.prog 22 [evV x] (.val (bV (Xu x.e.kind))):=by
 refine Xi (rs:=[.tmp 2]) (Xk _) Tryz.func22 rfl Tryz.ntmps22 rfl (by simp) ?_;unfold evV;refine Wa Xig fun K J=>?_;simp;apply J;clear J K;refine Wa Xig fun K J=>?_;simp[sp1,Xn,Xuq];apply J;clear J K;refine Wp.ret ?_;simp[Xui]
def JB:List EV→Option (Prop×YX)
 |[v]=>(match X8 v with|some x=>some (True, .val (bV (XD x.e.kind)))|none=>none)
 |_=>none
def VX:List EV→Option (Prop×YX)
 |[v]=>(match X8 v with|some x=>some (True, .val (bV (Xu x.e.kind)))|none=>none)
 |_=>none
def sp2:Dw.Spec:=Xn 21 JB (Xn 22 VX sp1)
theorem Y9:XF Tryz.prog sp2:=by
 refine Xp ⟨⟨_,Tryz.func21,rfl,rfl⟩⟩ (fun vs p r h hp=>?_) (Xp ⟨⟨_,Tryz.func22,rfl,rfl⟩⟩ (fun vs p r h hp=>?_) Xig)
 ·unfold JB at h;split at h
  ·split at h
   ·rename_i x hx;simp only[Option.some.injEq,Prod.mk.injEq]at h;obtain⟨rfl,rfl⟩:=h;exact Yy (.cons (Kx hx) .nil) (Xpi _)
   ·cases h
  ·cases h
 ·unfold VX at h;split at h
  ·split at h
   ·rename_i x hx;simp only[Option.some.injEq,Prod.mk.injEq]at h;obtain⟨rfl,rfl⟩:=h;exact Yy (.cons (Kx hx) .nil) (Xk8 _)
   ·cases h
  ·cases h
theorem Xmc(x:Ez):Xq Tryz.prog 67 [evV x] (.val (bV (Jn x.e.kind))):=by
 refine Xi (rs:=[.tmp 2]) (Xk _) Tryz.func67 rfl Tryz.ntmps67 rfl (by simp) ?_;unfold evV Jn;cases hr:XD x.e.kind
 ·refine Wa Y9 fun K J=>?_;simp;apply J;clear J K;refine Wa Y9 fun K J=>?_;simp[sp2,Xn,JB,VX,X8,unS,Xa,hr];apply J;clear J K;refine Wp.ret ?_;simp
 ·refine Wa Y9 fun K J=>?_;simp;apply J;clear J K;refine Wa Y9 fun K J=>?_;simp[sp2,Xn,JB,X8,unS,Xa,hr];apply J;clear J K;refine Wp.ret ?_;simp
theorem Xsv(last:Int)(xs:List Int):Ga last xs=true↔∀i,i<xs.length→(if i=0 then last else xs.getD (i - 1) 0)<xs.getD i 0:=by
 induction xs generalizing last with
 |nil=>simp[Ga]
 |cons a r ih=>
  simp only[Ga,Bool.and_eq_true,decide_eq_true_eq,ih,List.length_cons];constructor
  ·rintro⟨h1,h2⟩ i hi;cases i with
   |zero=>simpa using h1
   |succ i=>
    have:=h2 i (by omega);cases i with
    |zero=>simpa using this
    |succ i=>simpa using this
  ·intro h;refine⟨by simpa using h 0 (by omega),fun i hi=>?_⟩;have:=h (i+1) (by omega);cases i with
   |zero=>simpa using this
   |succ i=>simpa using this
theorem Xxf(xs:List Int):Ga (-1) xs=rising xs:=by
 rw[Bool.eq_iff_iff,Xsv];unfold rising Xbe;simp only[List.all_eq_true,List.mem_range,decide_eq_true_eq];constructor
 ·intro h;have h0:∀i,i<xs.length→0≤xs.getD i 0:=by
   intro i
   induction i with
   |zero=>intro hi;have:=h 0 hi;simp only[if_true]at this;omega
   |succ i ih=>intro hi;have:=h (i+1) hi;have:=ih (by omega);simp at*;omega
  intro i hi;refine⟨h0 i hi,fun hp=>?_⟩;have:=h i hi
  rwa[if_neg (by omega)]at this
 ·intro h i hi;obtain⟨h1,h2⟩:=h i hi;split
  ·omega
  ·exact h2 (by omega)
theorem Xra(z:Bool)(xs:List Int)(m:Int)(hn:xs.length≤1000000):Xq Tryz.prog 117 [sV z 1 (Xj xs),iV .i64 m] (.val (bV (X3 xs m))):=by
 refine Xi (rs:=[.tmp 4]) (Xk _) Tryz.func117 rfl Tryz.ntmps117 rfl (by simp) ?_;have e:X3 xs m=(Ga (-1) xs&&(decide (xs=[])||decide (xs.getD (xs.length - 1) 0<m))):=by
  unfold X3;rw[Xxf];simp[List.length_eq_zero_iff]
 rw[e];cases hr:Ga (-1) xs
 ·refine Wa Y9 fun K J=>?_;simp;apply J;clear J K;refine Wa Y9 fun K J=>?_;simp[sp1,sp2,Xn,Xjr,Xa,hr,hn];apply J;clear J K;refine Wp.ret ?_;simp
 ·by_cases h0:xs=[]
  ·subst h0;refine Wa Y9 fun K J=>?_;simp;apply J;clear J K;refine Wa Y9 fun K J=>?_;simp[sp1,sp2,Xn,Xjr,Xa,hr,Xf];apply J;clear J K;refine Wp.ret ?_;simp
  ·have hl:0<xs.length:=by cases xs with|nil=>exact absurd rfl h0|cons a r=>simp
   have hw:IntKind.i64.wrap ((xs.length:Int) - 1)=((xs.length - 1:Nat):Int):=by rw[wrap_small]<;>omega
   have hi:xs.length - 1<xs.length:=by omega
   have hg:xs.getD (xs.length - 1) 0=xs[xs.length - 1]:=by simp[List.getD_eq_getElem?_getD,List.getElem?_eq_getElem hi]
   rw[hg];refine Wa Y9 fun K J=>?_;simp;apply J;clear J K;refine Wa Y9 fun K J=>?_;simp[sp1,sp2,Xn,Xjr,Xa,hr,Xf,hn,h0,hw,hi,Xg];apply J;clear J K;refine Wp.ret ?_;simp;exact fun h=>absurd h h0
theorem Xms{xs ys:List Int}(hl:xs.length=ys.length){i:Nat}(h:i<xs.length):(xs.drop i=ys.drop i)↔(xs[i]=ys[i]'(hl▸h)∧xs.drop (i+1)=ys.drop (i+1)):=by
 rw[List.drop_eq_getElem_cons h,List.drop_eq_getElem_cons (hl▸h:i<ys.length),List.cons.injEq]
theorem Xqp(z1 z2:Bool)(xs ys:List Int)(hn:xs.length≤1000000):Xq Tryz.prog 151 [sV z1 1 (Xj xs),sV z2 1 (Xj ys)] (.val (bV (decide (xs=ys)))):=by
 refine Xi (rs:=[.tmp 4]) (Xk _) Tryz.func151 rfl Tryz.ntmps151 rfl (by simp) ?_;by_cases hl:xs.length=ys.length
 ·have hl':=hl.symm;refine Wa Y9 fun K J=>?_;simp;apply J;clear J K;refine We fun S hS=>?_;refine Wa Y9 fun K J=>?_;simp[Xf,hl'];apply J;clear J K;refine Wf (by simp) ?_;refine Wp.skip ?_;refine hS _ ?_;clear hS S;refine We fun S hS=>?_;refine Wa Y9 fun K J=>?_;simp[Xf];apply J;clear J K;refine Wp.block ?_;refine Wp.loop (fun k s=>∃(i:Nat),i+k=xs.length∧(∃j,s=⟨[(0,sV z1 1 (Xj xs)),(1,sV z2 1 (Xj ys)),(4,bV false),(12,iV .i64 xs.length),(13,iV .i64 i)],[]⟩∧j=i)∧((xs.drop i=ys.drop i)↔xs=ys))
   xs.length (s0:=⟨[(0,sV z1 1 (Xj xs)),(1,sV z2 1 (Xj ys)),(4,bV false),(12,iV .i64 xs.length),(13,iV .i64 0)],[]⟩) ?_ ⟨0,by simp,⟨0,rfl,rfl⟩,by simp⟩ fun k s ⟨i,hik,⟨_,hs,_⟩,hr⟩=>?_
  ·apply Gh.of<;>simp
  subst hs;refine Wa Y9 fun K J=>?_;simp;apply J;clear J K;refine We fun S hS=>?_;refine Wp.cond rfl (fun hc=>?_) (fun hc=>?_)
  ·have hi:i<xs.length:=by simpa using hc
   have hj:i<ys.length:=by omega
   have hd:=Xms hl hi;have hw:IntKind.i64.wrap ((i:Int)+1)=(i+1:Nat):=by rw[wrap_small]<;>omega
   refine Wp.skip ?_;refine hS _ ?_;clear hS S;refine We fun S hS=>?_;refine Wp.block ?_;refine Wa Y9 fun K J=>?_;simp[hj,hl];apply J;clear J K;refine Wc Y9 [] fun K J=>?_;simp[hj,Xf,Xg,hl];apply And.intro;(·kernel_rfl);apply J;clear J K;by_cases hx:xs[i]=ys[i]
   ·refine Wf (by simp[hx]) ?_;refine Wp.skip ?_;refine hS _ ?_;clear hS S;refine Wb Y9 fun K J=>?_;simp[hx,hw];apply J;clear J K;refine⟨⟨[(0,sV z1 1 (Xj xs)),(1,sV z2 1 (Xj ys)),(4,bV false),(12,iV .i64 xs.length),(13,iV .i64 (i+1:Nat))],[]⟩,k - 1,?_,by omega,i+1,by omega,⟨i+1,rfl,rfl⟩,?_⟩
    ·apply Gh.of<;>simp[hl']
    rw[←hr,hd];simp[hx]
   ·refine Wt (by simp[hx]) ?_;refine Wa Y9 fun K J=>?_;simp[hx];apply J;clear J K;refine Wp.ret ?_;simp;intro q;subst q;exact hx rfl
  ·have hi:¬i<xs.length:=by simpa using hc
   refine Wp.exit ?_;simp only[XV,Xx,if_true];clear hS S;refine hS _ ?_;clear hS S;refine Wa Y9 fun K J=>?_;simp;apply J;clear J K;refine Wp.ret ?_;simp;rw[←hr,List.drop_eq_nil_of_le (by omega),List.drop_eq_nil_of_le (by omega)]
 ·have hz:¬((xs.length:Int)=ys.length):=by omega
  refine Wa Y9 fun K J=>?_;simp;apply J;clear J K;refine We fun S hS=>?_;refine Wa Y9 fun K J=>?_;simp[Xf,hz];apply J;clear J K;refine Wt (by simp) ?_;refine Wa Y9 fun K J=>?_;simp;apply J;clear J K;refine Wp.ret ?_;simp;intro q;subst q;exact hl rfl
def Xff:List EV→Option (Prop×YX)
 |[.one (.c (.sl _z1 1 l1)), .one (.c (.sl _z2 1 l2))]=>(match unI l1,unI l2 with|some xs,some ys=>some (xs.length≤1000000, .val (bV (decide (xs=ys))))|_,_=>none)
 |_=>none
def Yhl(x:Ez):EV:= .agg [.c (.sc (.int .i64 x.e.hart)), .c (.sc (.int .i64 x.e.pos)), .c (.sc (.int .i64 x.e.kind)), .c (.sc (.int .i64 x.e.pred)), .c (.sc (.int .i64 x.e.succ)), .c (.sc (.int .i64 x.e.pair)), .c (.sc (.int .u64 x.e.addr)), .c (.sc (.int .u64 x.e.load)), .c (.sc (.int .u64 x.e.store)), .c (.sc (.bool x.e.aq)), .c (.sc (.bool x.e.rl))]
theorem Xo6(x:Ez):Xq Tryz.prog 152 [evV x] (.val (Yhl x)):=by
 refine Xi (rs:=[.cell 2 231]) (Xk _) Tryz.func152 rfl Tryz.ntmps152 rfl (by simp) ?_;unfold evV Yhl;refine Wa Y9 fun K J=>?_;simp;apply J;clear J K;refine Wa Y9 fun K J=>?_;simp;apply J;clear J K;refine Wp.ret ?_;simp
def Yis:List EV→Option (Prop×YX)
 |[v]=>(match X8 v with|some x=>some (True, .val (Yhl x))|none=>none)
 |_=>none
def sp3:Dw.Spec:=Xn 151 Xff (Xn 152 Yis sp2)
theorem Jl:XF Tryz.prog sp3:=by
 refine Xp ⟨⟨_,Tryz.func151,rfl,rfl⟩⟩ (fun vs p r h hp=>?_) (Xp ⟨⟨_,Tryz.func152,rfl,rfl⟩⟩ (fun vs p r h hp=>?_) Y9)
 ·unfold Xff at h;split at h
  ·split at h
   ·rename_i xs ys hx hy;simp only[Option.some.injEq,Prod.mk.injEq]at h;obtain⟨rfl,rfl⟩:=h;rw[YK hx,YK hy];exact Xqp _ _ _ _ hp
   ·cases h
  ·cases h
 ·unfold Yis at h;split at h
  ·split at h
   ·rename_i x hx;simp only[Option.some.injEq,Prod.mk.injEq]at h;obtain⟨rfl,rfl⟩:=h;exact Yy (.cons (Kx hx) .nil) (Xo6 _)
   ·cases h
  ·cases h
def Ez.small(x:Ez):Prop:=x.e.da.length≤1000000∧x.e.dd.length≤1000000∧x.e.dw.length≤1000000
def YT(x y:Ev):Bool:=decide (x.da=y.da)&&decide (x.dd=y.dd)&&decide (x.dw=y.dw)&&(x.hart==y.hart&&(x.pos==y.pos&&(x.kind==y.kind&&(x.pred==y.pred&&(x.succ==y.succ&&(x.pair==y.pair&&(x.addr==y.addr&&(x.load==y.load&&(x.store==y.store&&(x.aq==y.aq&&(x.rl==y.rl&&true)))))))))))
set_option maxHeartbeats 1000000 in
theorem Xso(x y:Ez)(hx:x.small):Xq Tryz.prog 116 [evV x,evV y] (.val (bV (YT x.e y.e))):=by
 obtain⟨n1,n2,n3⟩:=hx;refine Xi (rs:=[.tmp 4]) (Xk _) Tryz.func116 rfl Tryz.ntmps116 rfl (by simp) ?_;unfold evV YT
 first|refine Wa Jl fun K J=>?_|refine Wb Jl fun K J=>?_|refine Wc Jl [] fun K J=>?_|refine Wd Jl [] fun K J=>?_
 simp;apply J;clear J K
 repeat(first|(refine We fun S hS=>?_)|(refine Wp.block ?_)|(refine Wp.skip ?_)|(refine hS _ ?_;clear hS S)|(clear hS S;refine hS _ ?_;clear hS S)|(clear hS S;clear hS S;refine hS _ ?_;clear hS S))
 ((first|refine Wa Jl fun K J=>?_|refine Wb Jl fun K J=>?_|refine Wc Jl [5,6] fun K J=>?_|refine Wd Jl [5,6] fun K J=>?_);simp;apply And.intro;(·kernel_rfl);with_reducible refine J _ ?_;clear J K)
 by_cases ha:x.e.da=y.e.da
 ·have m1:y.e.da.length≤1000000:=ha▸n1;by_cases hd:x.e.dd=y.e.dd
  ·have m2:y.e.dd.length≤1000000:=hd▸n2;by_cases hw:x.e.dw=y.e.dw
   ·have m3:y.e.dw.length≤1000000:=hw▸n3;refine hS _ ?_;clear hS S;refine We fun S hS=>?_;refine Wa Jl fun K J=>?_;simp[sp3,Xn,Xff,Xa,m1,m2,m3,ha,hd,hw];apply J;clear J K;refine Wf (by simp) ?_;refine Wp.skip ?_;refine hS _ ?_;clear hS S;refine Wa Jl fun K J=>?_;simp;apply J;clear J K;refine Wc Jl [] fun K J=>?_;simp[sp3,Xn,Yis,Xa,X8,unS,Yhl];apply And.intro;(·kernel_rfl);apply J;clear J K;refine Wp.ret ?_;simp[ha,hd,hw]
   ·refine hS _ ?_;clear hS S;refine We fun S hS=>?_;refine Wa Jl fun K J=>?_;simp[sp3,Xn,Xff,Xa,n3,m1,m2,ha,hd,hw];apply J;clear J K;refine Wt (by simp) ?_;refine Wa Jl fun K J=>?_;simp;apply J;clear J K;refine Wp.ret ?_;simp[ha,hd,hw]
  ·refine hS _ ?_;clear hS S;refine We fun S hS=>?_;refine Wa Jl fun K J=>?_;simp[sp3,Xn,Xff,Xa,n2,m1,ha,hd];apply J;clear J K;refine Wt (by simp) ?_;refine Wa Jl fun K J=>?_;simp;apply J;clear J K;refine Wp.ret ?_;simp[ha,hd]
 ·refine hS _ ?_;clear hS S;refine We fun S hS=>?_;refine Wa Jl fun K J=>?_;simp[sp3,Xn,Xff,Xa,n1,ha];apply J;clear J K;refine Wt (by simp) ?_;refine Wa Jl fun K J=>?_;simp;apply J;clear J K;refine Wp.ret ?_;simp[ha]
def KX:List EV→Option (Prop×YX)
 |[.one (.c (.sl _z 1 els)), .one (.c (.sc (.int .i64 m)))]=>(match unI els with|some xs=>some (xs.length≤1000000, .val (bV (X3 xs m)))|none=>none)
 |_=>none
def Xjq:List EV→Option (Prop×YX)
 |[v,u]=>(match X8 v,X8 u with|some x,some y=>some (x.small, .val (bV (YT x.e y.e)))|_,_=>none)
 |_=>none
def sp4:Dw.Spec:=Xn 117 KX (Xn 116 Xjq sp3)
theorem Xc:XF Tryz.prog sp4:=by
 refine Xp ⟨⟨_,Tryz.func117,rfl,rfl⟩⟩ (fun vs p r h hp=>?_) (Xp ⟨⟨_,Tryz.func116,rfl,rfl⟩⟩ (fun vs p r h hp=>?_) Jl)
 ·unfold KX at h;split at h
  ·split at h
   ·rename_i xs hx;simp only[Option.some.injEq,Prod.mk.injEq]at h;obtain⟨rfl,rfl⟩:=h;rw[YK hx];exact Xra _ _ _ hp
   ·cases h
  ·cases h
 ·unfold Xjq at h;split at h
  ·split at h
   ·rename_i x y hx hy;simp only[Option.some.injEq,Prod.mk.injEq]at h;obtain⟨rfl,rfl⟩:=h;exact Yy (.cons (Kx hx) (.cons (Kx hy) .nil)) (Xso _ _ hp)
   ·cases h
  ·cases h
theorem Jv(m:Int):X3 [] m=true:=by simp[X3,rising]
theorem Xqz(x:Ez)(hk:x.e.kind<1∨6<x.e.kind):Xq Tryz.prog 82 [evV x] (.val (iV .i64 (Yt (Xl x.e)))):=by
 have e:Xl x.e=false:=by
  have h1:Jn x.e.kind=false:=by simp[Jn,XD,Xu];omega
  have h2:¬x.e.kind=6:=by omega
  simp[Xl,Ev.mem,h1,h2]
 have hh:hasB x.e.kind=0:=by unfold hasB;split<;>(try split)<;>(try split)<;>(try split)<;>(try split)<;>(try split)<;>omega
 rw[e];refine Xi (rs:=[.tmp 2]) (Xk _) Tryz.func82 rfl Tryz.ntmps82 rfl (by simp) ?_;unfold evV;refine Wa Xc fun K J=>?_;simp;apply J;clear J K;refine Wa Xc fun K J=>?_;simp[sp4,sp3,sp2,sp1,Xn,Xuq,hh];apply J;clear J K;refine Wa Xc fun K J=>?_;simp;apply J;clear J K;refine Wa Xc fun K J=>?_;simp;apply J;clear J K;refine We fun S hS=>?_;refine Wa Xc fun K J=>?_;simp[IntKind.wrap,IntKind.bits,IntKind.signed];apply J;clear J K;refine Wf (by simp) ?_
 ((first|refine Wa Xc fun K J=>?_|refine Wb Xc fun K J=>?_|refine Wc Xc [5] fun K J=>?_|refine Wd Xc [5] fun K J=>?_);simp;apply And.intro;(·kernel_rfl);with_reducible refine J _ ?_;clear J K)
 refine hS _ ?_;clear hS S;refine We fun S hS=>?_;refine Wa Xc fun K J=>?_;simp[IntKind.wrap,IntKind.bits,IntKind.signed];apply J;clear J K;refine Wf (by simp) ?_;refine Wp.skip ?_;refine hS _ ?_;clear hS S;refine We fun S hS=>?_;refine Wa Xc fun K J=>?_;simp[IntKind.wrap,IntKind.bits,IntKind.signed];apply J;clear J K;refine Wf (by simp) ?_;refine Wp.skip ?_;refine hS _ ?_;clear hS S;refine We fun S hS=>?_;refine Wa Xc fun K J=>?_;simp[IntKind.wrap,IntKind.bits,IntKind.signed];apply J;clear J K;refine Wf (by simp) ?_;refine Wp.skip ?_;refine hS _ ?_;clear hS S;refine We fun S hS=>?_;refine Wa Xc fun K J=>?_;simp[IntKind.wrap,IntKind.bits,IntKind.signed];apply J;clear J K;refine Wf (by simp) ?_;refine Wp.skip ?_;refine hS _ ?_;clear hS S;refine We fun S hS=>?_;refine Wp.block ?_;refine We fun S hS=>?_;refine Wa Xc fun K J=>?_;simp;apply J;clear J K;refine Wt (by simp) ?_;refine Wp.skip ?_;refine hS _ ?_;clear hS S;refine Wt (by simp) ?_;refine Wa Xc fun K J=>?_;simp;apply J;clear J K;refine Wp.ret ?_;simp[Yt]
set_option maxHeartbeats 4000000 in
theorem check_1(x:Ez)(hx:GL x.e)(hk:x.e.kind=1):Xq Tryz.prog 82 [evV x] (.val (iV .i64 (Yt (Xl x.e)))):=by
 obtain⟨n1,n2,n3⟩:=hx;have m1:x.e.da.length≤1000000:=by omega
 have m2:x.e.dd.length≤1000000:=by omega
 have m3:x.e.dw.length≤1000000:=by omega
 refine Xi (rs:=[.tmp 2]) (Xk _) Tryz.func82 rfl Tryz.ntmps82 rfl (by simp) ?_;unfold evV;refine Wa Xc fun K J=>?_;simp[hk];apply J;clear J K;refine Wa Xc fun K J=>?_;simp[sp4,sp3,sp2,sp1,Xn,Xuq,hasB];apply J;clear J K;refine Wa Xc fun K J=>?_;simp;apply J;clear J K;refine Wa Xc fun K J=>?_;simp;apply J;clear J K;refine We fun S hS=>?_;refine Wa Xc fun K J=>?_;simp[IntKind.wrap,IntKind.bits,IntKind.signed];apply J;clear J K;refine Wf (by simp) ?_
 ((first|refine Wa Xc fun K J=>?_|refine Wb Xc fun K J=>?_|refine Wc Xc [5] fun K J=>?_|refine Wd Xc [5] fun K J=>?_);simp;apply And.intro;(·kernel_rfl);with_reducible refine J _ ?_;clear J K)
 refine hS _ ?_;clear hS S;refine We fun S hS=>?_;refine Wa Xc fun K J=>?_;simp[IntKind.wrap,IntKind.bits,IntKind.signed];apply J;clear J K;refine Wt (by simp) ?_;refine Wb Xc fun K J=>?_;simp;apply J;clear J K;refine hS _ ?_;clear hS S;refine We fun S hS=>?_;refine Wa Xc fun K J=>?_;simp[IntKind.wrap,IntKind.bits,IntKind.signed];apply J;clear J K;refine Wf (by simp) ?_;refine Wp.skip ?_;refine hS _ ?_;clear hS S;refine We fun S hS=>?_;refine Wa Xc fun K J=>?_;simp[IntKind.wrap,IntKind.bits,IntKind.signed];apply J;clear J K;refine Wf (by simp) ?_;refine Wp.skip ?_;refine hS _ ?_;clear hS S;refine We fun S hS=>?_;refine Wa Xc fun K J=>?_;simp[IntKind.wrap,IntKind.bits,IntKind.signed];apply J;clear J K;refine Wf (by simp) ?_;refine Wp.skip ?_;refine hS _ ?_;clear hS S;refine We fun S hS=>?_;refine Wp.block ?_;refine We fun S hS=>?_;refine Wa Xc fun K J=>?_;simp;apply J;clear J K;refine Wf (by simp) ?_;refine Wa Xc fun K J=>?_;simp;apply J;clear J K;refine Wp.cond rfl (fun hc=>?_) (fun hc=>?_)
 ·have hq:x.e.hart<0:=by simpa using hc
  have hv:Xl x.e=false:=by
   cases hv:Xl x.e
   ·rfl
   exfalso;simp[Xl,XM,XY,Ev.mem,Ev.reads,Ev.writes,Jn,XD,Xu,hk]at hv;grind
  refine Wp.skip ?_;refine hS _ ?_;clear hS S;refine Wt (by simp[hq]) ?_;refine Wa Xc fun K J=>?_;simp[hq];apply J;clear J K;refine Wp.ret ?_;simp[hv,Yt]
 have hc1:¬(x.e.hart<0):=by simpa using hc
 clear hc;refine Wa Xc fun K J=>?_;simp[hc1];apply J;clear J K;refine Wp.cond rfl (fun hc=>?_) (fun hc=>?_)
 ·have hq:8≤x.e.hart:=by simpa using hc
  have hv:Xl x.e=false:=by
   cases hv:Xl x.e
   ·rfl
   exfalso;simp[Xl,XM,XY,Ev.mem,Ev.reads,Ev.writes,Jn,XD,Xu,hk]at hv;grind
  refine Wp.skip ?_;refine hS _ ?_;clear hS S;refine Wt (by simp[hq]) ?_;refine Wa Xc fun K J=>?_;simp[hq];apply J;clear J K;refine Wp.ret ?_;simp[hv,Yt]
 have hc2:¬(8≤x.e.hart):=by simpa using hc
 clear hc;refine Wa Xc fun K J=>?_;simp[hc2];apply J;clear J K;refine Wp.cond rfl (fun hc=>?_) (fun hc=>?_)
 ·have hq:x.e.pos<0:=by simpa using hc
  have hv:Xl x.e=false:=by
   cases hv:Xl x.e
   ·rfl
   exfalso;simp[Xl,XM,XY,Ev.mem,Ev.reads,Ev.writes,Jn,XD,Xu,hk]at hv;grind
  refine Wp.skip ?_;refine hS _ ?_;clear hS S;refine Wt (by simp[hq]) ?_;refine Wa Xc fun K J=>?_;simp[hq];apply J;clear J K;refine Wp.ret ?_;simp[hv,Yt]
 have hc3:¬(x.e.pos<0):=by simpa using hc
 clear hc;refine Wb Xc fun K J=>?_;simp[hc3,sp4,Xn,Xjq,X8,unS,Xa,m1,m3,Ez.small];apply J;clear J K;refine hS _ ?_;clear hS S;refine Wp.cond rfl (fun hc=>?_) (fun hc=>?_)
 ·have hv:Xl x.e=false:=by
   cases hv:Xl x.e
   ·rfl
   exfalso;simp[Xl,XM,XY,Ev.mem,Ev.reads,Ev.writes,Jn,XD,Xu,hk]at hv;simp[YT]at hc;grind
  have hq:=hc;refine Wa Xc fun K J=>?_;simp[hq];apply J;clear J K;refine Wp.ret ?_;simp[hv,Yt]
 have qpred:x.e.pred=0:=by simp[YT]at hc;grind
 have qsucc:x.e.succ=0:=by simp[YT]at hc;grind
 have qstore:x.e.store=0:=by simp[YT]at hc;grind
 have qdd:x.e.dd=[]:=by simp[YT]at hc;grind
 have qaq:x.e.aq=false:=by simp[YT]at hc;grind
 have qrl:x.e.rl=false:=by simp[YT]at hc;grind
 have qpair:x.e.pair=0:=by simp[YT]at hc;grind
 have hs:=hc;clear hc;refine We fun S hS=>?_;refine Wa Xc fun K J=>?_;simp[qpred,qsucc,qstore,qdd,qaq,qrl,qpair];apply J;clear J K;refine Wp.cond rfl (fun hc=>?_) (fun hc=>?_)
 ·have hq:¬x.e.addr.tmod 8=0:=by simpa using hc
  have hv:Xl x.e=false:=by
   cases hv:Xl x.e
   ·rfl
   exfalso;simp[Xl,XM,XY,Ev.mem,Ev.reads,Ev.writes,Jn,XD,Xu,hk]at hv;grind
  refine Wp.skip ?_;refine hS _ ?_;clear hS S;refine Wt (by simp[hq]) ?_;refine Wa Xc fun K J=>?_;simp[hq];apply J;clear J K;refine Wp.ret ?_;simp[hv,Yt]
 have hc4:¬(¬x.e.addr.tmod 8=0):=by simpa using hc
 clear hc;refine Wa Xc fun K J=>?_;simp;apply J;clear J K;refine Wf (by simp) ?_;refine Wa Xc fun K J=>?_;simp;apply J;clear J K;refine Wf (by simp) ?_;refine Wa Xc fun K J=>?_;simp;apply J;clear J K;refine Wf (by simp) ?_;refine Wb Xc fun K J=>?_;simp;apply J;clear J K;refine hS _ ?_;clear hS S;refine Wf (by simp) ?_;refine We fun S hS=>?_;refine Wa Xc fun K J=>?_;simp[IntKind.wrap,IntKind.bits,IntKind.signed];apply J;clear J K;refine Wf (by simp) ?_;refine Wa Xc fun K J=>?_;simp[sp4,Xn,KX,Xa,m1];apply J;clear J K;refine Wp.cond rfl (fun hc=>?_) (fun hc=>?_)
 ·have hq:X3 x.e.da x.e.pos=false:=by simpa using hc
  have hv:Xl x.e=false:=by
   cases hv:Xl x.e
   ·rfl
   exfalso;simp[Xl,XM,XY,Ev.mem,Ev.reads,Ev.writes,Jn,XD,Xu,hk]at hv;grind
  refine Wp.skip ?_;refine hS _ ?_;clear hS S;refine Wt (by simp[hq]) ?_;refine Wa Xc fun K J=>?_;simp[hq];apply J;clear J K;refine Wp.ret ?_;simp[hv,Yt]
 have hc5:¬(X3 x.e.da x.e.pos=false):=by simpa using hc
 clear hc;refine Wa Xc fun K J=>?_;simp[hc5,sp4,Xn,KX,Xa,Jv];apply J;clear J K;refine Wf (by simp) ?_;refine Wb Xc fun K J=>?_;simp[sp4,Xn,KX,Xa,m3];apply J;clear J K;refine hS _ ?_;clear hS S;refine Wp.cond rfl (fun hc=>?_) (fun hc=>?_)
 ·have hq:X3 x.e.dw x.e.pos=false:=by simpa using hc
  have hv:Xl x.e=false:=by
   cases hv:Xl x.e
   ·rfl
   exfalso;simp[Xl,XM,XY,Ev.mem,Ev.reads,Ev.writes,Jn,XD,Xu,hk]at hv;grind
  refine Wa Xc fun K J=>?_;simp[hq];apply J;clear J K;refine Wp.ret ?_;simp[hv,Yt]
 have hc6:¬(X3 x.e.dw x.e.pos=false):=by simpa using hc
 clear hc;refine Wp.skip ?_;refine hS _ ?_;clear hS S;refine Wa Xc fun K J=>?_;simp[hc6];apply J;clear J K;refine Wp.ret ?_;simp;simp[Yt,Xl,XM,XY,Ev.mem,Ev.reads,Ev.writes,Jn,XD,Xu,hk,Jv,qpred,qsucc,qstore,qdd,qaq,qrl,qpair];grind
set_option maxHeartbeats 4000000 in
theorem Ydi(x:Ez)(hx:GL x.e)(hk:x.e.kind=2):Xq Tryz.prog 82 [evV x] (.val (iV .i64 (Yt (Xl x.e)))):=by
 obtain⟨n1,n2,n3⟩:=hx;have m1:x.e.da.length≤1000000:=by omega
 have m2:x.e.dd.length≤1000000:=by omega
 have m3:x.e.dw.length≤1000000:=by omega
 refine Xi (rs:=[.tmp 2]) (Xk _) Tryz.func82 rfl Tryz.ntmps82 rfl (by simp) ?_;unfold evV;refine Wa Xc fun K J=>?_;simp[hk];apply J;clear J K;refine Wa Xc fun K J=>?_;simp[sp4,sp3,sp2,sp1,Xn,Xuq,hasB];apply J;clear J K;refine Wa Xc fun K J=>?_;simp;apply J;clear J K;refine Wa Xc fun K J=>?_;simp;apply J;clear J K;refine We fun S hS=>?_;refine Wa Xc fun K J=>?_;simp[IntKind.wrap,IntKind.bits,IntKind.signed];apply J;clear J K;refine Wf (by simp) ?_
 ((first|refine Wa Xc fun K J=>?_|refine Wb Xc fun K J=>?_|refine Wc Xc [5] fun K J=>?_|refine Wd Xc [5] fun K J=>?_);simp;apply And.intro;(·kernel_rfl);with_reducible refine J _ ?_;clear J K)
 refine hS _ ?_;clear hS S;refine We fun S hS=>?_;refine Wa Xc fun K J=>?_;simp[IntKind.wrap,IntKind.bits,IntKind.signed];apply J;clear J K;refine Wf (by simp) ?_;refine Wp.skip ?_;refine hS _ ?_;clear hS S;refine We fun S hS=>?_;refine Wa Xc fun K J=>?_;simp[IntKind.wrap,IntKind.bits,IntKind.signed];apply J;clear J K;refine Wt (by simp) ?_
 ((first|refine Wa Xc fun K J=>?_|refine Wb Xc fun K J=>?_|refine Wc Xc [5] fun K J=>?_|refine Wd Xc [5] fun K J=>?_);simp;apply And.intro;(·kernel_rfl);with_reducible refine J _ ?_;clear J K)
 refine hS _ ?_;clear hS S;refine We fun S hS=>?_;refine Wa Xc fun K J=>?_;simp[IntKind.wrap,IntKind.bits,IntKind.signed];apply J;clear J K;refine Wf (by simp) ?_;refine Wp.skip ?_;refine hS _ ?_;clear hS S;refine We fun S hS=>?_;refine Wa Xc fun K J=>?_;simp[IntKind.wrap,IntKind.bits,IntKind.signed];apply J;clear J K;refine Wf (by simp) ?_;refine Wp.skip ?_;refine hS _ ?_;clear hS S;refine We fun S hS=>?_;refine Wp.block ?_;refine We fun S hS=>?_;refine Wa Xc fun K J=>?_;simp;apply J;clear J K;refine Wf (by simp) ?_;refine Wa Xc fun K J=>?_;simp;apply J;clear J K;refine Wp.cond rfl (fun hc=>?_) (fun hc=>?_)
 ·have hq:x.e.hart<0:=by simpa using hc
  have hv:Xl x.e=false:=by
   cases hv:Xl x.e
   ·rfl
   exfalso;simp[Xl,XM,XY,Ev.mem,Ev.reads,Ev.writes,Jn,XD,Xu,hk]at hv;grind
  refine Wp.skip ?_;refine hS _ ?_;clear hS S;refine Wt (by simp[hq]) ?_;refine Wa Xc fun K J=>?_;simp[hq];apply J;clear J K;refine Wp.ret ?_;simp[hv,Yt]
 have hc1:¬(x.e.hart<0):=by simpa using hc
 clear hc;refine Wa Xc fun K J=>?_;simp[hc1];apply J;clear J K;refine Wp.cond rfl (fun hc=>?_) (fun hc=>?_)
 ·have hq:8≤x.e.hart:=by simpa using hc
  have hv:Xl x.e=false:=by
   cases hv:Xl x.e
   ·rfl
   exfalso;simp[Xl,XM,XY,Ev.mem,Ev.reads,Ev.writes,Jn,XD,Xu,hk]at hv;grind
  refine Wp.skip ?_;refine hS _ ?_;clear hS S;refine Wt (by simp[hq]) ?_;refine Wa Xc fun K J=>?_;simp[hq];apply J;clear J K;refine Wp.ret ?_;simp[hv,Yt]
 have hc2:¬(8≤x.e.hart):=by simpa using hc
 clear hc;refine Wa Xc fun K J=>?_;simp[hc2];apply J;clear J K;refine Wp.cond rfl (fun hc=>?_) (fun hc=>?_)
 ·have hq:x.e.pos<0:=by simpa using hc
  have hv:Xl x.e=false:=by
   cases hv:Xl x.e
   ·rfl
   exfalso;simp[Xl,XM,XY,Ev.mem,Ev.reads,Ev.writes,Jn,XD,Xu,hk]at hv;grind
  refine Wp.skip ?_;refine hS _ ?_;clear hS S;refine Wt (by simp[hq]) ?_;refine Wa Xc fun K J=>?_;simp[hq];apply J;clear J K;refine Wp.ret ?_;simp[hv,Yt]
 have hc3:¬(x.e.pos<0):=by simpa using hc
 clear hc;refine Wb Xc fun K J=>?_;simp[hc3,sp4,Xn,Xjq,X8,unS,Xa,m1,m2,m3,Ez.small];apply J;clear J K;refine hS _ ?_;clear hS S;refine Wp.cond rfl (fun hc=>?_) (fun hc=>?_)
 ·have hv:Xl x.e=false:=by
   cases hv:Xl x.e
   ·rfl
   exfalso;simp[Xl,XM,XY,Ev.mem,Ev.reads,Ev.writes,Jn,XD,Xu,hk]at hv;simp[YT]at hc;grind
  have hq:=hc;refine Wa Xc fun K J=>?_;simp[hq];apply J;clear J K;refine Wp.ret ?_;simp[hv,Yt]
 have qpred:x.e.pred=0:=by simp[YT]at hc;grind
 have qsucc:x.e.succ=0:=by simp[YT]at hc;grind
 have qload:x.e.load=0:=by simp[YT]at hc;grind
 have qaq:x.e.aq=false:=by simp[YT]at hc;grind
 have qrl:x.e.rl=false:=by simp[YT]at hc;grind
 have qpair:x.e.pair=0:=by simp[YT]at hc;grind
 have hs:=hc;clear hc;refine We fun S hS=>?_;refine Wa Xc fun K J=>?_;simp[qpred,qsucc,qload,qaq,qrl,qpair];apply J;clear J K;refine Wp.cond rfl (fun hc=>?_) (fun hc=>?_)
 ·have hq:¬x.e.addr.tmod 8=0:=by simpa using hc
  have hv:Xl x.e=false:=by
   cases hv:Xl x.e
   ·rfl
   exfalso;simp[Xl,XM,XY,Ev.mem,Ev.reads,Ev.writes,Jn,XD,Xu,hk]at hv;grind
  refine Wp.skip ?_;refine hS _ ?_;clear hS S;refine Wt (by simp[hq]) ?_;refine Wa Xc fun K J=>?_;simp[hq];apply J;clear J K;refine Wp.ret ?_;simp[hv,Yt]
 have hc4:¬(¬x.e.addr.tmod 8=0):=by simpa using hc
 clear hc;refine Wa Xc fun K J=>?_;simp;apply J;clear J K;refine Wf (by simp) ?_;refine Wa Xc fun K J=>?_;simp;apply J;clear J K;refine Wf (by simp) ?_;refine Wa Xc fun K J=>?_;simp;apply J;clear J K;refine Wf (by simp) ?_;refine Wb Xc fun K J=>?_;simp;apply J;clear J K;refine hS _ ?_;clear hS S;refine Wf (by simp) ?_;refine We fun S hS=>?_;refine Wa Xc fun K J=>?_;simp[IntKind.wrap,IntKind.bits,IntKind.signed];apply J;clear J K;refine Wf (by simp) ?_;refine Wa Xc fun K J=>?_;simp[sp4,Xn,KX,Xa,m1];apply J;clear J K;refine Wp.cond rfl (fun hc=>?_) (fun hc=>?_)
 ·have hq:X3 x.e.da x.e.pos=false:=by simpa using hc
  have hv:Xl x.e=false:=by
   cases hv:Xl x.e
   ·rfl
   exfalso;simp[Xl,XM,XY,Ev.mem,Ev.reads,Ev.writes,Jn,XD,Xu,hk]at hv;grind
  refine Wp.skip ?_;refine hS _ ?_;clear hS S;refine Wt (by simp[hq]) ?_;refine Wa Xc fun K J=>?_;simp[hq];apply J;clear J K;refine Wp.ret ?_;simp[hv,Yt]
 have hc5:¬(X3 x.e.da x.e.pos=false):=by simpa using hc
 clear hc;refine Wa Xc fun K J=>?_;simp[hc5,sp4,Xn,KX,Xa,m2];apply J;clear J K;refine Wp.cond rfl (fun hc=>?_) (fun hc=>?_)
 ·have hq:X3 x.e.dd x.e.pos=false:=by simpa using hc
  have hv:Xl x.e=false:=by
   cases hv:Xl x.e
   ·rfl
   exfalso;simp[Xl,XM,XY,Ev.mem,Ev.reads,Ev.writes,Jn,XD,Xu,hk]at hv;grind
  refine Wp.skip ?_;refine hS _ ?_;clear hS S;refine Wt (by simp[hq]) ?_;refine Wa Xc fun K J=>?_;simp[hq];apply J;clear J K;refine Wp.ret ?_;simp[hv,Yt]
 have hc6:¬(X3 x.e.dd x.e.pos=false):=by simpa using hc
 clear hc;refine Wb Xc fun K J=>?_;simp[hc6,sp4,Xn,KX,Xa,m3];apply J;clear J K;refine hS _ ?_;clear hS S;refine Wp.cond rfl (fun hc=>?_) (fun hc=>?_)
 ·have hq:X3 x.e.dw x.e.pos=false:=by simpa using hc
  have hv:Xl x.e=false:=by
   cases hv:Xl x.e
   ·rfl
   exfalso;simp[Xl,XM,XY,Ev.mem,Ev.reads,Ev.writes,Jn,XD,Xu,hk]at hv;grind
  refine Wa Xc fun K J=>?_;simp[hq];apply J;clear J K;refine Wp.ret ?_;simp[hv,Yt]
 have hc7:¬(X3 x.e.dw x.e.pos=false):=by simpa using hc
 clear hc;refine Wp.skip ?_;refine hS _ ?_;clear hS S;refine Wa Xc fun K J=>?_;simp[hc7];apply J;clear J K;refine Wp.ret ?_;simp;simp[Yt,Xl,XM,XY,Ev.mem,Ev.reads,Ev.writes,Jn,XD,Xu,hk,qpred,qsucc,qload,qaq,qrl,qpair];grind
end Go.Proofs.YtjhfcfpkgfpoiaaGreatDoor
