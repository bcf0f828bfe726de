/- What is computed, as data, and laws of it. No condition. -/
import Derived.Test.YtbkpmfjfpcoehaaGreatDoorWe
set_option maxHeartbeats 16000000
namespace Go.Proofs.YtbkpmfjfpcoehaaGreatDoor
open Go Go.RowKit Dw
set_option maxRecDepth 100000
theorem Ml(xs:List Int)(hn:xs.length≤1000000):Xq Tryz.prog 89 [sV false 1 (Xj xs)] (.row false 3 1 (Xj xs)):=by
 refine Xk (rs:=[.tmp 2]) (Xl _) Tryz.func89 rfl Tryz.ntmps89 rfl (by simp) ?_;have h1:xs.length≤maxLen:=by unfold maxLen;omega
 have h2:xs.length*8≤140737488355328:=by omega
 refine Wa Xb fun K J=>?_;simp;apply J;clear J K;refine We fun S Y=>?_;refine Wa Xb fun K J=>?_;simp;apply J;clear J K;refine Wf (by simp) ?_;refine Wp.skip ?_;apply Y;clear Y S;refine Wa Xb fun K J=>?_;simp[Xg,h1,h2];apply J;clear J K;refine Wp.ret ?_;simp
theorem Dc:Xq Tryz.prog 89 [sV true 1 []] (.val (sV true 0 [])):=by
 refine Xk (rs:=[.tmp 2]) (Xl _) Tryz.func89 rfl Tryz.ntmps89 rfl (by simp) ?_;refine Wa Xb fun K J=>?_;simp;apply J;clear J K;refine We fun S Y=>?_;refine Wa Xb fun K J=>?_;simp;apply J;clear J K;refine Wt (by simp) ?_;refine Wa Xb fun K J=>?_;simp;apply J;clear J K;refine Wp.ret ?_;simp
theorem Mm(z:Bool)(xs:List Int)(hz:z=true→xs=[])(hn:xs.length≤1000000):Xq Tryz.prog 89 [sV z 1 (Xj xs)] (.val (sV z 1 (Xj xs))):=by
 cases z with
 |true=>
  obtain rfl:=hz rfl;intro M w us hM hu;refine(Dc M w us hM hu).mono ?_;rintro e w' ⟨u,rfl,hb,hr⟩;refine⟨u,rfl,hb,?_⟩;cases hr with|one hr=>
  have hr':XH w' _ (.sl true 0 []) u:=hr;cases hr';exact .one (.nil (esz:=1))
 |false=>exact KC (Ml xs hn)
theorem TS(z:Bool)(xs:List Int)(hn:xs.length≤1000000):Xq Tryz.prog 27 [sV z 1 (Xj xs)] (.row false 3 1 (Xj xs)):=by
 have h1:xs.length≤maxLen:=by unfold maxLen;omega
 have h2:xs.length*8≤140737488355328:=by omega
 refine Xk (rs:=[.tmp 2]) (Xl _) Tryz.func27 rfl Tryz.ntmps27 rfl (by simp) ?_;refine Wa Xb fun K J=>?_;simp;apply J;clear J K;refine Wa Xb fun K J=>?_;simp[Xg,h1,h2];apply J;clear J K;refine Wp.ret ?_;simp
def Oj:List EV→Option (Prop×Yw)
 |[.one (.c (.sl _z 1 els))]=>(match unI els with|some xs=>some (xs.length≤1000000, .val (sV false 1 (Xj xs)))|none=>none)
 |_=>none
def so1:Dw.Spec:=Xo 27 Oj HH
theorem G8:XA Tryz.prog so1:=by
 refine Xp ⟨⟨_,Tryz.func27,rfl,rfl⟩⟩ (fun vs p r h hp=>?_) Xb;unfold Oj at h;split at h
 ·split at h
  ·rename_i xs hx;simp only[ab,af]at h;obtain⟨rfl,rfl⟩:=h;rw[Yz hx];exact KC (TS _ _ hp)
  ·cases h
 ·cases h
theorem BB(z1 z2 z3:Bool)(a b c:List Int)(h1:a.length≤1000000)(h2:b.length≤1000000)(h3:c.length≤1000000):
  Xq Tryz.prog 86 [.agg [.c (.sl z1 1 (Xj a)), .c (.sl z2 1 (Xj b)), .c (.sl z3 1 (Xj c))]] (.val (.agg [.c (.sl false 1 (Xj a)), .c (.sl false 1 (Xj b)), .c (.sl false 1 (Xj c))])):=by
 refine Xk (rs:=[.cell 2 36]) (Xl _) Tryz.func86 rfl Tryz.ntmps86 rfl (by simp) ?_;refine We fun S Y=>?_
 first|refine Wa G8 fun K J=>?_|refine Wb G8 fun K J=>?_|refine Wc G8 [] fun K J=>?_|refine Wd G8 [] fun K J=>?_
 simp;apply J;clear J K;apply Y;clear Y S;refine We fun S Y=>?_
 ((first|refine Wa G8 fun K J=>?_|refine Wb G8 fun K J=>?_|refine Wc G8 [2] fun K J=>?_|refine Wd G8 [2] fun K J=>?_);simp[so1,Xo,Oj,Xa,h1,h2,h3];apply And.intro;(·kernel_rfl);with_reducible refine J _ ?_;clear J K)
 apply Y;clear Y S;refine Wp.ret ?_;simp
def Wg:List EV→Option (Prop×Yw)
 |[.agg [.c (.sl _z1 1 l1), .c (.sl _z2 1 l2), .c (.sl _z3 1 l3)]]=>(match unI l1,unI l2,unI l3 with|some a,some b,some c=>some (a.length≤1000000∧b.length≤1000000∧c.length≤1000000, .val (.agg [.c (.sl false 1 (Xj a)), .c (.sl false 1 (Xj b)), .c (.sl false 1 (Xj c))]))|_,_,_=>none)
 |_=>none
def so2:Dw.Spec:=Xo 86 Wg so1
theorem Tb:XA Tryz.prog so2:=by
 refine Xp ⟨⟨_,Tryz.func86,rfl,rfl⟩⟩ (fun vs p r h hp=>?_) G8;unfold Wg at h;split at h
 ·split at h
  ·rename_i a b c ha hb hc;simp only[ab,af]at h;obtain⟨rfl,rfl⟩:=h;rw[Yz ha,Yz hb,Yz hc];exact BB _ _ _ _ _ _ hp.1 hp.2.1 hp.2.2
  ·cases h
 ·cases h
theorem P0(x:Ez)(h1:x.e.da.length≤1000000)(h2:x.e.dd.length≤1000000)(h3:x.e.dw.length≤1000000):
  Xq Tryz.prog 53 [evV x] (.val (evV {x with z1:=false,z2:=false,z3:=false})):=by
 unfold evV;refine Xk (rs:=[.cell 2 38]) (Xl _) Tryz.func53 rfl Tryz.ntmps53 rfl (by simp) ?_;refine Wa Tb fun K J=>?_;simp;apply J;clear J K;refine Wa Tb fun K J=>?_;simp[so2,Xo,Wg,Xa,h1,h2,h3];apply J;clear J K;refine Wa Tb fun K J=>?_;simp;apply J;clear J K;refine Wp.ret ?_;simp
theorem S6(n:Nat)(h0:0<n)(hn:n≤100000):Xq Tryz.prog 119 [sV true 14 [],iV .i64 n] (.row false 38 14 []):=by
 have h1:¬(n:Int)<0:=by omega
 have h2:(0:Int)<n:=by omega
 have hw:IntKind.i64.wrap (n:Int)=n:=by rw[wrap_small]<;>omega
 have hb:(n:Int)≤281474976710656:=by omega
 have hz:IntKind.i64.wrap 0=0:=by rw[wrap_small]<;>omega
 have h3:(n:Int)*152≤140737488355328:=by omega
 refine Xk (rs:=[.tmp 4]) (Xl _) Tryz.func119 rfl Tryz.ntmps119 rfl (by simp) ?_;refine Wa Xb fun K J=>?_;simp;apply J;clear J K;refine We fun S Y=>?_;refine Wa Xb fun K J=>?_;simp[h1];apply J;clear J K;refine Wf (by simp) ?_;refine Wp.skip ?_;apply Y;clear Y S;refine We fun S Y=>?_;refine Wa Xb fun K J=>?_;simp[hw,hz];apply J;clear J K;refine Wa Xb fun K J=>?_;simp[h0];apply J;clear J K;refine Wt (by simp) ?_;refine Wb Xb fun K J=>?_;simp[h0,hb,h3];apply J;clear J K;apply Y;clear Y S;refine Wa Xb fun K J=>?_;simp;apply J;clear J K;refine Wp.ret ?_;simp
theorem SN(e e':Nat):Leq (sV true e []) (sV true e' []):=by
 intro w N u hu;cases hu with|one hu=>
 have hu':XH w N (.sl true e []) u:=hu;cases hu';exact .one (.nil (esz:=e'))
theorem AB(e n:Nat)(h0:0<n)(hn:n≤100000):Xq Tryz.prog 119 [sV true e [],iV .i64 n] (.row false 38 14 []):=
 Yp (.cons (SN _ _) (.cons (Leq.refl _) .nil)) (S6 n h0 hn)
theorem dZ(e:Nat):Xq Tryz.prog 119 [sV true e [],iV .i64 0] (.val (sV true e [])):=by
 have hz:IntKind.i64.wrap 0=0:=by rw[wrap_small]<;>omega
 refine Xk (rs:=[.tmp 4]) (Xl _) Tryz.func119 rfl Tryz.ntmps119 rfl (by simp) ?_;refine Wa Xb fun K J=>?_;simp;apply J;clear J K;refine We fun S Y=>?_;refine Wa Xb fun K J=>?_;simp;apply J;clear J K;refine Wf (by simp) ?_;refine Wp.skip ?_;apply Y;clear Y S;refine We fun S Y=>?_;refine Wa Xb fun K J=>?_;simp[hz];apply J;clear J K;refine Wa Xb fun K J=>?_;simp;apply J;clear J K;refine Wf (by simp) ?_;refine Wp.skip ?_;apply Y;clear Y S;refine Wa Xb fun K J=>?_;simp;apply J;clear J K;refine Wp.ret ?_;simp
def Ol:List EV→Option (Prop×Yw)
 |[.one (.c (.sl true e [])), .one (.c (.sc (.int .i64 n)))]=>some (0≤n∧n≤100000,if n=0 then .val (sV true e [])else .row false 38 14 [])
 |_=>none
def sg1:Dw.Spec:=Xo 119 Ol HH
theorem Kj:XA Tryz.prog sg1:=by
 refine Xp ⟨⟨_,Tryz.func119,rfl,rfl⟩⟩ (fun vs p r h hp=>?_) Xb;unfold Ol at h;split at h
 ·rename_i e n;simp only[ab,af]at h;obtain⟨rfl,rfl⟩:=h;obtain⟨m,rfl⟩:∃m:Nat,n=m:=⟨n.toNat,by omega⟩;by_cases hm:m=0
  ·subst hm;exact dZ e
  ·rw[if_neg (by omega)];exact AB e m (by omega) (by omega)
 ·cases h
def Xh(hs:List (Bool×List Ez)):List Ez:=(hs.map (·.2)).flatten
theorem Yy{hs:List (Bool×List Ez)}{i:Nat}(h:i<hs.length):Xh (hs.take (i+1))=Xh (hs.take i)++hs[i].2:=by
 rw[ax h,Xh,dx,List.flatten_append];simp[Xh]
theorem Jb(hs:List (Bool×List Ez))(i:Nat):(Xh (hs.take i)).length≤(Xh hs).length:=by
 have:Xh hs=Xh (hs.take i)++Xh (hs.drop i):=by
  conv=>lhs;rw[←fk i hs]
  rw[Xh,dx,List.flatten_append];rfl
 rw[this];simp
theorem FQ(z:Bool)(hs:List (Bool×List Ez))(hn:hs.length≤1000)(hl:(Xh hs).length≤100000):
  Xq Tryz.prog 84 [sV z 1 (Xw hs)] (.row (decide ((Xh hs).length=0)) 38 14 (XS (Xh hs))):=by
 obtain⟨zz,hzz⟩:∃zz:Bool,zz=decide ((Xh hs).length=0):=⟨_,rfl⟩;rw[←hzz];refine Xk (rs:=[.tmp 2]) (Xl _) Tryz.func84 rfl Tryz.ntmps84 rfl (by simp) ?_;refine Wa Kj fun K J=>?_;simp;apply J;clear J K;refine Wa Kj fun K J=>?_;simp;apply J;clear J K;refine We fun S Y=>?_;refine Wa Kj fun K J=>?_;simp[Xm];apply J;clear J K;refine Wp.block ?_;refine Wp.loop (fun k s=>∃i:Nat,i+k=hs.length∧s=⟨[(0,sV z 1 (Xw hs)),(2,sV true 0 []),(3,iV .i64 (Xh (hs.take i)).length),(9,sV z 1 (Xw hs)),(10,iV .i64 hs.length),(11,iV .i64 i)],[]⟩)
  hs.length (s0:=⟨[(0,sV z 1 (Xw hs)),(2,sV true 0 []),(3,iV .i64 (0:Nat)),(9,sV z 1 (Xw hs)),(10,iV .i64 hs.length),(11,iV .i64 (0:Nat))],[]⟩) ?_ ⟨0,by simp,by simp[Xh]⟩ fun k s ⟨i,hik,hs'⟩=>?_
 ·apply Go1<;>simp
 subst hs';refine Wa Kj fun K J=>?_;simp;apply J;clear J K;refine We fun S Y=>?_;refine Wp.cond rfl (fun hc=>?_) (fun hc=>?_)
 ·have hi:i<hs.length:=by simpa using hc
  have hw:IntKind.i64.wrap ((i:Int)+1)=(i+1:Nat):=by rw[wrap_small]<;>omega
  have hf:=ee List.length (Yy hi);rw[az]at hf;have hle:=Jb hs (i+1);have hws:IntKind.i64.wrap (((Xh (hs.take i)).length:Int)+hs[i].2.length)=(Xh (hs.take (i+1))).length:=by rw[wrap_small]<;>omega
  have hneg:¬((Xh (hs.take (i+1))).length:Int)<0:=by omega
  refine Wp.skip ?_;apply Y;clear Y S;refine We fun S Y=>?_;refine Wp.block ?_;refine Wa Kj fun K J=>?_;simp[hi,Xm,Xs];apply J;clear J K;refine Wa Kj fun K J=>?_;simp[hws,Xe];apply J;clear J K;refine Wa Kj fun K J=>?_;simp[hneg];apply J;clear J K;refine Wf (by simp) ?_;refine Wp.skip ?_;apply Y;clear Y S;refine Wb Kj fun K J=>?_;simp[hw];apply J;clear J K;refine⟨⟨[(0,sV z 1 (Xw hs)),(2,sV true 0 []),(3,iV .i64 (Xh (hs.take (i+1))).length),(9,sV z 1 (Xw hs)),(10,iV .i64 hs.length),(11,iV .i64 (i+1:Nat))],[]⟩,k - 1,?_,by omega,i+1,by omega,rfl⟩;apply Go1<;>simp
 ·have hi:¬i<hs.length:=by simpa using hc
  refine Wp.exit ?_;simp only[XW,XG,if_true];rw[bp (show hs.length≤i by omega)];clear hc hi hik;have q1:((Xh hs).length:Int)≤100000:=by omega
  cases zz with
  |true=>
   have h0:(Xh hs).length=0:=by simpa using hzz.symm
   have q0:((Xh hs).length:Int)=0:=by omega
   clear Y S;apply Y;clear Y S;refine Wa Kj fun K J=>?_;simp[q0,sg1,Xo,Ol];apply J;clear J K;refine We fun S Y=>?_;refine Wa Kj fun K J=>?_;simp[Xm];apply J;clear J K;refine Wp.block ?_;refine Wp.loop (fun k s=>∃i:Nat,i+k=hs.length∧s=⟨[(2,sV true 0 []),(6, .one (.own 24)),(25,sV z 1 (Xw hs)),(26,iV .i64 hs.length),(27,iV .i64 i)],[(24, .row true 38 14 (XS (Xh (hs.take i))))]⟩)
    hs.length (s0:=⟨[(2,sV true 0 []),(6, .one (.own 24)),(25,sV z 1 (Xw hs)),(26,iV .i64 hs.length),(27,iV .i64 (0:Nat))],[(24, .row true 38 14 [])]⟩) ?_ ⟨0,by simp,by simp[Xh,XS]⟩ fun k s ⟨i,hik,hs'⟩=>?_
   ·refine .trans (.adopt (t:=6) (b:=24) rfl rfl 38 14) ?_;apply Go1<;>simp
   subst hs';refine Wa Kj fun K J=>?_;simp;apply J;clear J K;refine We fun S Y=>?_;refine Wp.cond rfl (fun hc=>?_) (fun hc=>?_)
   ·have hi:i<hs.length:=by simpa using hc
    have hw:IntKind.i64.wrap ((i:Int)+1)=(i+1:Nat):=by rw[wrap_small]<;>omega
    have hf:=Yy hi;have hfl:=ee List.length hf;rw[az]at hfl;have hle:=Jb hs (i+1);have ha:XS (Xh (hs.take (i+1)))=XS (Xh (hs.take i))++XS hs[i].2:=by rw[hf];simp[XS]
    have hl1:(Xh (hs.take i)).length+hs[i].2.length≤maxLen:=by unfold maxLen;omega
    have hl2:((Xh (hs.take i)).length+hs[i].2.length)*152≤140737488355328:=by omega
    have hz:(true&&(XS hs[i].2).isEmpty)=true:=by
     have:hs[i].2.length=0:=by omega
     rw[dj]at this;rw[this];rfl
    have hz':(XS hs[i].2).isEmpty=true∨true=false:=by revert hz;cases(XS hs[i].2).isEmpty<;>simp
    refine Wp.skip ?_;apply Y;clear Y S;refine We fun S Y=>?_;refine Wp.block ?_;refine Wa Kj fun K J=>?_;simp[hi,Xm,Xs];apply J;clear J K;refine Wb Kj fun K J=>?_;simp[Xe,hl1,hl2];apply J;clear J K;apply Y;clear Y S;refine Wb Kj fun K J=>?_;simp[hw];apply J;clear J K;refine⟨⟨[(2,sV true 0 []),(6, .one (.own 24)),(25,sV z 1 (Xw hs)),(26,iV .i64 hs.length),(27,iV .i64 (i+1:Nat))],[(24, .row true 38 14 (XS (Xh (hs.take (i+1)))))]⟩,k - 1,?_,by omega,i+1,by omega,rfl⟩;rw[ha];apply Go1<;>simp;exact List.isEmpty_iff.1 (by simpa using hz)
   ·have hi:¬i<hs.length:=by simpa using hc
    refine Wp.exit ?_;simp only[XW,XG,if_true];rw[bp (show hs.length≤i by omega)];clear Y S;apply Y;clear Y S;refine Wa Kj fun K J=>?_;simp;apply J;clear J K;refine Wp.ret ?_;simp
  |false=>
   have h0:¬(Xh hs).length=0:=by simpa using hzz.symm
   have q0:¬Xh hs=[]:=by rw[←dj];exact h0
   clear Y S;apply Y;clear Y S;refine Wa Kj fun K J=>?_;simp[q0,q1,sg1,Xo,Ol];apply J;clear J K;refine We fun S Y=>?_;refine Wa Kj fun K J=>?_;simp[Xm];apply J;clear J K;refine Wp.block ?_;refine Wp.loop (fun k s=>∃i:Nat,i+k=hs.length∧s=⟨[(2,sV true 0 []),(6, .one (.own 24)),(25,sV z 1 (Xw hs)),(26,iV .i64 hs.length),(27,iV .i64 i)],[(24, .row false 38 14 (XS (Xh (hs.take i))))]⟩)
    hs.length (s0:=⟨[(2,sV true 0 []),(6, .one (.own 24)),(25,sV z 1 (Xw hs)),(26,iV .i64 hs.length),(27,iV .i64 (0:Nat))],[(24, .row false 38 14 [])]⟩) ?_ ⟨0,by simp,by simp[Xh,XS]⟩ fun k s ⟨i,hik,hs'⟩=>?_
   ·apply Go1<;>simp
   subst hs';refine Wa Kj fun K J=>?_;simp;apply J;clear J K;refine We fun S Y=>?_;refine Wp.cond rfl (fun hc=>?_) (fun hc=>?_)
   ·have hi:i<hs.length:=by simpa using hc
    have hw:IntKind.i64.wrap ((i:Int)+1)=(i+1:Nat):=by rw[wrap_small]<;>omega
    have hf:=Yy hi;have hfl:=ee List.length hf;rw[az]at hfl;have hle:=Jb hs (i+1);have ha:XS (Xh (hs.take (i+1)))=XS (Xh (hs.take i))++XS hs[i].2:=by rw[hf];simp[XS]
    have hl1:(Xh (hs.take i)).length+hs[i].2.length≤maxLen:=by unfold maxLen;omega
    have hl2:((Xh (hs.take i)).length+hs[i].2.length)*152≤140737488355328:=by omega
    have hz:(false&&(XS hs[i].2).isEmpty)=false:=by
     rfl
    have hz':(XS hs[i].2).isEmpty=true∨false=false:=by revert hz;cases(XS hs[i].2).isEmpty<;>simp
    refine Wp.skip ?_;apply Y;clear Y S;refine We fun S Y=>?_;refine Wp.block ?_;refine Wa Kj fun K J=>?_;simp[hi,Xm,Xs];apply J;clear J K;refine Wb Kj fun K J=>?_;simp[Xe,hl1,hl2];apply J;clear J K;apply Y;clear Y S;refine Wb Kj fun K J=>?_;simp[hw];apply J;clear J K;refine⟨⟨[(2,sV true 0 []),(6, .one (.own 24)),(25,sV z 1 (Xw hs)),(26,iV .i64 hs.length),(27,iV .i64 (i+1:Nat))],[(24, .row false 38 14 (XS (Xh (hs.take (i+1)))))]⟩,k - 1,?_,by omega,i+1,by omega,rfl⟩;rw[ha];apply Go1<;>simp
   ·have hi:¬i<hs.length:=by simpa using hc
    refine Wp.exit ?_;simp only[XW,XG,if_true];rw[bp (show hs.length≤i by omega)];clear Y S;apply Y;clear Y S;refine Wa Kj fun K J=>?_;simp;apply J;clear J K;refine Wp.ret ?_;simp
def Vo:Int→List Int→Bool
 |_,[]=>true
 |last,x::r=>decide (last<x)&&Vo x r
theorem Lk{xs:List Int}{i:Nat}(h:i<xs.length)(last:Int):Vo last (xs.drop i)=(decide (last<xs[i])&&Vo xs[i] (xs.drop (i+1))):=by
 rw[bj h];rfl
theorem Ll(z:Bool)(xs:List Int)(hn:xs.length≤1000000):Xq Tryz.prog 154 [sV z 1 (Xj xs)] (.val (bV (Vo (-1) xs))):=by
 refine Xk (rs:=[.tmp 2]) (Xl _) Tryz.func154 rfl Tryz.ntmps154 rfl (by simp) ?_;refine Wa Xb fun K J=>?_;simp;apply J;clear J K;refine Wa Xb fun K J=>?_;simp;apply J;clear J K;refine We fun S Y=>?_;refine Wa Xb fun K J=>?_;simp[Xg];apply J;clear J K;refine Wp.block ?_;refine Wp.loop (fun k s=>∃(i:Nat) (last:Int),i+k=xs.length∧s=⟨[(0,sV z 1 (Xj xs)),(2,bV false),(3,iV .i64 last),(6,sV z 1 (Xj xs)),(7,iV .i64 xs.length),(8,iV .i64 i)],[]⟩∧Vo last (xs.drop i)=Vo (-1) xs)
  xs.length (s0:=⟨[(0,sV z 1 (Xj xs)),(2,bV false),(3,iV .i64 (-1)),(6,sV z 1 (Xj xs)),(7,iV .i64 xs.length),(8,iV .i64 0)],[]⟩) ?_ ⟨0, -1,by simp,rfl,by simp⟩ fun k s ⟨i,last,hik,hs,hr⟩=>?_
 ·apply Go1<;>simp
 subst hs;refine Wa Xb fun K J=>?_;simp;apply J;clear J K;refine We fun S Y=>?_;refine Wp.cond rfl (fun hc=>?_) (fun hc=>?_)
 ·have hi:i<xs.length:=by simpa using hc
  have hd:=Lk hi last;refine Wp.skip ?_;apply Y;clear Y S;refine We fun S Y=>?_;refine Wp.block ?_;refine We fun S Y=>?_
  first|refine Wa Xb fun K J=>?_|refine Wb Xb fun K J=>?_|refine Wc Xb [] fun K J=>?_|refine Wd Xb [] fun K J=>?_
  simp[hi,Xg,Xf];apply J;clear J K;apply Y;clear Y S;refine We fun S Y=>?_;refine Wa Xb fun K J=>?_;simp;apply J;clear J K;refine Wp.cond rfl (fun hc=>?_) (fun hc=>?_)
  ·have hx:¬last<xs[i]:=by simpa using hc
   refine Wa Xb fun K J=>?_;simp;apply J;clear J K;refine Wp.ret ?_;simp;rw[←hr,hd];simp[hx]
  ·have hx:last<xs[i]:=by simpa using hc
   have hw:IntKind.i64.wrap ((i:Int)+1)=(i+1:Nat):=by rw[wrap_small]<;>omega
   refine Wp.skip ?_;apply Y;clear Y S;refine Wb Xb fun K J=>?_;simp;apply J;clear J K;apply Y;clear Y S;refine Wb Xb fun K J=>?_;simp[hw];apply J;clear J K;refine⟨⟨[(0,sV z 1 (Xj xs)),(2,bV false),(3,iV .i64 xs[i]),(6,sV z 1 (Xj xs)),(7,iV .i64 xs.length),(8,iV .i64 (i+1:Nat))],[]⟩,k - 1,?_,by omega,i+1,xs[i],by omega,rfl,?_⟩
   ·apply Go1<;>simp
   rw[←hr,hd];simp[hx]
 ·have hi:¬i<xs.length:=by simpa using hc
  refine Wp.exit ?_;simp only[XW,XG,if_true];clear Y S;apply Y;clear Y S;refine Wa Xb fun K J=>?_;simp;apply J;clear J K;refine Wp.ret ?_;simp;rw[←hr,cg (by omega)];rfl
def hasB(k:Int):Int:=if k=1 then 1 else if k=2 then 2 else if k=3 then 5 else if k=4 then 14 else if k=5 then 7 else if k=6 then 16 else 0
theorem Of(k:Int):Xq Tryz.prog 62 [iV .i64 k] (.val (iV .u64 (hasB k))):=by
 refine Xk (rs:=[.tmp 2]) (Xl _) Tryz.func62 rfl Tryz.ntmps62 rfl (by simp) ?_;by_cases h1:k<1
 ·have e:hasB k=0:=by unfold hasB;split<;>(try split)<;>(try split)<;>(try split)<;>(try split)<;>(try split)<;>omega
  rw[e];refine Wa Xb fun K J=>?_;simp;apply J;clear J K;refine We fun S Y=>?_;refine Wa Xb fun K J=>?_;simp[h1];apply J;clear J K;refine Wt (by simp) ?_;refine Wa Xb fun K J=>?_;simp;apply J;clear J K;refine Wp.ret ?_;simp
 ·by_cases h6:6<k
  ·have e:hasB k=0:=by unfold hasB;split<;>(try split)<;>(try split)<;>(try split)<;>(try split)<;>(try split)<;>omega
   rw[e];refine Wa Xb fun K J=>?_;simp;apply J;clear J K;refine We fun S Y=>?_;refine Wa Xb fun K J=>?_;simp[h1,h6];apply J;clear J K;refine Wt (by simp) ?_;refine Wa Xb fun K J=>?_;simp;apply J;clear J K;refine Wp.ret ?_;simp
  ·have hk:k=1∨k=2∨k=3∨k=4∨k=5∨k=6:=by omega
   clear h1 h6;rcases hk with rfl|rfl|rfl|rfl|rfl|rfl
   all_goals
    repeat(first|((first|refine Wa Xb fun K J=>?_|refine Wb Xb fun K J=>?_|refine Wc Xb [] fun K J=>?_|refine Wd Xb [] fun K J=>?_);simp;first|done|(with_reducible refine J _ ?_;clear J K)|(apply And.intro;(·kernel_rfl);with_reducible refine J _ ?_;clear J K))|refine We fun S Y=>?_|refine Wp.block ?_|refine Wp.skip ?_|(apply Wt;· (simp;done))|(apply Wf;· (simp;done))|(apply Y;clear Y S)|(clear Y S;apply Y;clear Y S))
    refine Wp.ret ?_;simp[hasB]
def AJ:List EV→Option (Prop×Yw)
 |[.one (.c (.sc (.int .i64 k)))]=>some (True, .val (iV .u64 (hasB k)))
 |_=>none
def Ei:List EV→Option (Prop×Yw)
 |[.one (.c (.sl _z 1 els))]=>(match unI els with|some xs=>some (xs.length≤1000000, .val (bV (Vo (-1) xs)))|none=>none)
 |_=>none
def sp1:Dw.Spec:=Xo 62 AJ (Xo 154 Ei HH)
theorem Bi:XA Tryz.prog sp1:=by
 refine Xp ⟨⟨_,Tryz.func62,rfl,rfl⟩⟩ (fun vs p r h hp=>?_) (Xp ⟨⟨_,Tryz.func154,rfl,rfl⟩⟩ (fun vs p r h hp=>?_) Xb)
 ·unfold AJ at h;split at h
  ·simp only[ab,af]at h;obtain⟨rfl,rfl⟩:=h;exact Of _
  ·cases h
 ·unfold Ei at h;split at h
  ·split at h
   ·rename_i z els xs hx;simp only[ab,af]at h;obtain⟨rfl,rfl⟩:=h;rw[Yz hx];exact Ll _ _ hp
   ·cases h
  ·cases h
theorem IF(m:Nat)(f:Int→Bool)(h1:decide (IntKind.u64.wrap ↑(((1:Int)%2^IntKind.u64.bits).toNat&&& m%2^IntKind.u64.bits)=0)=!f 1)(h2:decide (IntKind.u64.wrap ↑(((2:Int)%2^IntKind.u64.bits).toNat&&& m%2^IntKind.u64.bits)=0)=!f 2)
  (h3:decide (IntKind.u64.wrap ↑(((5:Int)%2^IntKind.u64.bits).toNat&&& m%2^IntKind.u64.bits)=0)=!f 3) (h4:decide (IntKind.u64.wrap ↑(((14:Int)%2^IntKind.u64.bits).toNat&&& m%2^IntKind.u64.bits)=0)=!f 4) (h5:decide (IntKind.u64.wrap ↑(((7:Int)%2^IntKind.u64.bits).toNat&&& m%2^IntKind.u64.bits)=0)=!f 5) (h6:decide (IntKind.u64.wrap ↑(((16:Int)%2^IntKind.u64.bits).toNat&&& m%2^IntKind.u64.bits)=0)=!f 6)
  (h0:decide (IntKind.u64.wrap ↑(((0:Int)%2^IntKind.u64.bits).toNat&&& m%2^IntKind.u64.bits)=0)=true) (k:Int) (hf:¬(k=1∨k=2∨k=3∨k=4∨k=5∨k=6)→f k=false):decide (IntKind.u64.wrap ↑((hasB k%2^IntKind.u64.bits).toNat&&& m%2^IntKind.u64.bits)=0)=!f k:=by
 unfold hasB;split; ·subst_vars;exact h1
 split; ·subst_vars;exact h2
 split; ·subst_vars;exact h3
 split; ·subst_vars;exact h4
 split; ·subst_vars;exact h5
 split; ·subst_vars;exact h6
 rw[hf (by omega)];exact h0
theorem AA(k:Int):decide (IntKind.u64.wrap ↑((hasB k%2^IntKind.u64.bits).toNat&&& 1%2^IntKind.u64.bits)=0)=!XE k:=
 IF 1 XE rfl rfl rfl rfl rfl rfl rfl k (by unfold XE;intro h;simp;omega)
theorem Az(k:Int):decide (IntKind.u64.wrap ↑((hasB k%2^IntKind.u64.bits).toNat&&& 2%2^IntKind.u64.bits)=0)=!Xt k:=
 IF 2 Xt rfl rfl rfl rfl rfl rfl rfl k (by unfold Xt;intro h;simp;omega)
theorem Lq(x:Ez):Xq Tryz.prog 34 [evV x] (.val (bV (XE x.e.kind))):=by
 refine Xk (rs:=[.tmp 2]) (Xl _) Tryz.func34 rfl Tryz.ntmps34 rfl (by simp) ?_;unfold evV;refine Wa Bi fun K J=>?_;simp;apply J;clear J K;refine Wa Bi fun K J=>?_;simp[sp1,Xo,AJ,AA];apply J;clear J K;refine Wp.ret ?_;simp
theorem ET(x:Ez):Xq Tryz.prog 35 [evV x] (.val (bV (Xt x.e.kind))):=by
 refine Xk (rs:=[.tmp 2]) (Xl _) Tryz.func35 rfl Tryz.ntmps35 rfl (by simp) ?_;unfold evV;refine Wa Bi fun K J=>?_;simp;apply J;clear J K;refine Wa Bi fun K J=>?_;simp[sp1,Xo,AJ];apply J;clear J K;refine Wp.ret ?_;simp[Az]
def Jh:List EV→Option (Prop×Yw)
 |[v]=>(match X2 v with|some x=>some (True, .val (bV (XE x.e.kind)))|none=>none)
 |_=>none
def Vb:List EV→Option (Prop×Yw)
 |[v]=>(match X2 v with|some x=>some (True, .val (bV (Xt x.e.kind)))|none=>none)
 |_=>none
def sp2:Dw.Spec:=Xo 34 Jh (Xo 35 Vb sp1)
theorem YT:XA Tryz.prog sp2:=by
 refine Xp ⟨⟨_,Tryz.func34,rfl,rfl⟩⟩ (fun vs p r h hp=>?_) (Xp ⟨⟨_,Tryz.func35,rfl,rfl⟩⟩ (fun vs p r h hp=>?_) Bi)
 ·unfold Jh at h;split at h
  ·split at h
   ·rename_i x hx;simp only[ab,af]at h;obtain⟨rfl,rfl⟩:=h;exact Yp (.cons (Kd hx) .nil) (Lq _)
   ·cases h
  ·cases h
 ·unfold Vb at h;split at h
  ·split at h
   ·rename_i x hx;simp only[ab,af]at h;obtain⟨rfl,rfl⟩:=h;exact Yp (.cons (Kd hx) .nil) (ET _)
   ·cases h
  ·cases h
theorem Fx(x:Ez):Xq Tryz.prog 24 [evV x] (.val (bV (K9 x.e.kind))):=by
 refine Xk (rs:=[.tmp 2]) (Xl _) Tryz.func24 rfl Tryz.ntmps24 rfl (by simp) ?_;unfold evV K9;cases hr:XE x.e.kind
 ·refine Wa YT fun K J=>?_;simp;apply J;clear J K;refine Wa YT fun K J=>?_;simp[sp2,Xo,Jh,Vb,X2,unS,Xa,hr];apply J;clear J K;refine Wp.ret ?_;simp
 ·refine Wa YT fun K J=>?_;simp;apply J;clear J K;refine Wa YT fun K J=>?_;simp[sp2,Xo,Jh,X2,unS,Xa,hr];apply J;clear J K;refine Wp.ret ?_;simp
theorem Tw(last:Int)(xs:List Int):Vo last xs=true↔∀i,i<xs.length→(if i=0 then last else xs.getD (i - 1) 0)<xs.getD i 0:=by
 induction xs generalizing last with
 |nil=>simp[Vo]
 |cons a r ih=>
  simp only[Vo,aj,al,ih,cm];constructor
  ·rintro⟨h1,h2⟩ i hi;cases i with
   |zero=>simpa using h1
   |succ i=>
    have:=h2 i (by omega);cases i with
    |zero=>simpa using this
    |succ i=>simpa using this
  ·intro h;refine⟨by simpa using h 0 (by omega),fun i hi=>?_⟩;have:=h (i+1) (by omega);cases i with
   |zero=>simpa using this
   |succ i=>simpa using this
theorem Nq(xs:List Int):Vo (-1) xs=rising xs:=by
 rw[eg,Tw];unfold rising ZQ;simp only[ao,ay,al];constructor
 ·intro h;have h0:∀i,i<xs.length→0≤xs.getD i 0:=by
   intro i
   induction i with
   |zero=>intro hi;have:=h 0 hi;simp only[if_true]at this;omega
   |succ i ih=>intro hi;have:=h (i+1) hi;have:=ih (by omega);simp at*;omega
  intro i hi;refine⟨h0 i hi,fun hp=>?_⟩;have:=h i hi
  rwa[if_neg (by omega)]at this
 ·intro h i hi;obtain⟨h1,h2⟩:=h i hi;split
  ·omega
  ·exact h2 (by omega)
theorem MA(z:Bool)(xs:List Int)(m:Int)(hn:xs.length≤1000000):Xq Tryz.prog 118 [sV z 1 (Xj xs),iV .i64 m] (.val (bV (XO xs m))):=by
 refine Xk (rs:=[.tmp 4]) (Xl _) Tryz.func118 rfl Tryz.ntmps118 rfl (by simp) ?_;have e:XO xs m=(Vo (-1) xs&&(decide (xs=[])||decide (xs.getD (xs.length - 1) 0<m))):=by
  unfold XO;rw[Nq];simp
 rw[e];cases hr:Vo (-1) xs
 ·refine Wa YT fun K J=>?_;simp;apply J;clear J K;refine Wa YT fun K J=>?_;simp[sp1,sp2,Xo,Ei,Xa,hr,hn];apply J;clear J K;refine Wp.ret ?_;simp
 ·by_cases h0:xs=[]
  ·subst h0;refine Wa YT fun K J=>?_;simp;apply J;clear J K;refine Wa YT fun K J=>?_;simp[sp1,sp2,Xo,Ei,Xa,hr,Xg];apply J;clear J K;refine Wp.ret ?_;simp
  ·have hl:0<xs.length:=by cases xs with|nil=>exact absurd rfl h0|cons a r=>simp
   have hw:IntKind.i64.wrap ((xs.length:Int) - 1)=((xs.length - 1:Nat):Int):=by rw[wrap_small]<;>omega
   have hi:xs.length - 1<xs.length:=by omega
   have hg:xs.getD (xs.length - 1) 0=xs[xs.length - 1]:=by simp[aa hi]
   rw[hg];refine Wa YT fun K J=>?_;simp;apply J;clear J K;refine Wa YT fun K J=>?_;simp[sp1,sp2,Xo,Ei,Xa,hr,Xg,hn,h0,hw,hi,Xf];apply J;clear J K;refine Wp.ret ?_;simp;exact fun h=>absurd h h0
theorem FN{xs ys:List Int}(hl:xs.length=ys.length){i:Nat}(h:i<xs.length):(xs.drop i=ys.drop i)↔(xs[i]=ys[i]'(hl▸h)∧xs.drop (i+1)=ys.drop (i+1)):=by
 rw[bj h,bj (hl▸h:i<ys.length),List.cons.injEq]
theorem Md(z1 z2:Bool)(xs ys:List Int)(hn:xs.length≤1000000):Xq Tryz.prog 152 [sV z1 1 (Xj xs),sV z2 1 (Xj ys)] (.val (bV (decide (xs=ys)))):=by
 refine Xk (rs:=[.tmp 4]) (Xl _) Tryz.func152 rfl Tryz.ntmps152 rfl (by simp) ?_;by_cases hl:xs.length=ys.length
 ·have hl':=hl.symm;refine Wa YT fun K J=>?_;simp;apply J;clear J K;refine We fun S Y=>?_;refine Wa YT fun K J=>?_;simp[Xg,hl'];apply J;clear J K;refine Wf (by simp) ?_;refine Wp.skip ?_;apply Y;clear Y S;refine We fun S Y=>?_;refine Wa YT fun K J=>?_;simp[Xg];apply J;clear J K;refine Wp.block ?_;refine Wp.loop (fun k s=>∃(i:Nat),i+k=xs.length∧(∃j,s=⟨[(0,sV z1 1 (Xj xs)),(1,sV z2 1 (Xj ys)),(4,bV false),(12,iV .i64 xs.length),(13,iV .i64 i)],[]⟩∧j=i)∧((xs.drop i=ys.drop i)↔xs=ys))
   xs.length (s0:=⟨[(0,sV z1 1 (Xj xs)),(1,sV z2 1 (Xj ys)),(4,bV false),(12,iV .i64 xs.length),(13,iV .i64 0)],[]⟩) ?_ ⟨0,by simp,⟨0,rfl,rfl⟩,by simp⟩ fun k s ⟨i,hik,⟨_,hs,_⟩,hr⟩=>?_
  ·apply Go1<;>simp
  subst hs;refine Wa YT fun K J=>?_;simp;apply J;clear J K;refine We fun S Y=>?_;refine Wp.cond rfl (fun hc=>?_) (fun hc=>?_)
  ·have hi:i<xs.length:=by simpa using hc
   have hj:i<ys.length:=by omega
   have hd:=FN hl hi;have hw:IntKind.i64.wrap ((i:Int)+1)=(i+1:Nat):=by rw[wrap_small]<;>omega
   refine Wp.skip ?_;apply Y;clear Y S;refine We fun S Y=>?_;refine Wp.block ?_;refine Wa YT fun K J=>?_;simp[hj,hl];apply J;clear J K;refine Wc YT [] fun K J=>?_;simp[hj,Xg,Xf,hl];apply And.intro;(·kernel_rfl);apply J;clear J K;by_cases hx:xs[i]=ys[i]
   ·refine Wf (by simp[hx]) ?_;refine Wp.skip ?_;apply Y;clear Y S;refine Wb YT fun K J=>?_;simp[hx,hw];apply J;clear J K;refine⟨⟨[(0,sV z1 1 (Xj xs)),(1,sV z2 1 (Xj ys)),(4,bV false),(12,iV .i64 xs.length),(13,iV .i64 (i+1:Nat))],[]⟩,k - 1,?_,by omega,i+1,by omega,⟨i+1,rfl,rfl⟩,?_⟩
    ·apply Go1<;>simp[hl']
    rw[←hr,hd];simp[hx]
   ·refine Wt (by simp[hx]) ?_;refine Wa YT fun K J=>?_;simp[hx];apply J;clear J K;refine Wp.ret ?_;simp;intro q;subst q;exact hx rfl
  ·have hi:¬i<xs.length:=by simpa using hc
   refine Wp.exit ?_;simp only[XW,XG,if_true];clear Y S;apply Y;clear Y S;refine Wa YT fun K J=>?_;simp;apply J;clear J K;refine Wp.ret ?_;simp;rw[←hr,cg (by omega),cg (by omega)]
 ·have hz:¬((xs.length:Int)=ys.length):=by omega
  refine Wa YT fun K J=>?_;simp;apply J;clear J K;refine We fun S Y=>?_;refine Wa YT fun K J=>?_;simp[Xg,hz];apply J;clear J K;refine Wt (by simp) ?_;refine Wa YT fun K J=>?_;simp;apply J;clear J K;refine Wp.ret ?_;simp;intro q;subst q;exact hl rfl
def Pn:List EV→Option (Prop×Yw)
 |[.one (.c (.sl _z1 1 l1)), .one (.c (.sl _z2 1 l2))]=>(match unI l1,unI l2 with|some xs,some ys=>some (xs.length≤1000000, .val (bV (decide (xs=ys))))|_,_=>none)
 |_=>none
def jX(x:Ez):EV:= .agg [.c (.sc (.int .i64 x.e.hart)), .c (.sc (.int .i64 x.e.pos)), .c (.sc (.int .i64 x.e.kind)), .c (.sc (.int .i64 x.e.pred)), .c (.sc (.int .i64 x.e.succ)), .c (.sc (.int .i64 x.e.pair)), .c (.sc (.int .u64 x.e.addr)), .c (.sc (.int .u64 x.e.load)), .c (.sc (.int .u64 x.e.store)), .c (.sc (.bool x.e.aq)), .c (.sc (.bool x.e.rl))]
theorem Lb(x:Ez):Xq Tryz.prog 153 [evV x] (.val (jX x)):=by
 refine Xk (rs:=[.cell 2 236]) (Xl _) Tryz.func153 rfl Tryz.ntmps153 rfl (by simp) ?_;unfold evV jX;refine Wa YT fun K J=>?_;simp;apply J;clear J K;refine Wa YT fun K J=>?_;simp;apply J;clear J K;refine Wp.ret ?_;simp
def mD:List EV→Option (Prop×Yw)
 |[v]=>(match X2 v with|some x=>some (True, .val (jX x))|none=>none)
 |_=>none
def sp3:Dw.Spec:=Xo 152 Pn (Xo 153 mD sp2)
theorem KO:XA Tryz.prog sp3:=by
 refine Xp ⟨⟨_,Tryz.func152,rfl,rfl⟩⟩ (fun vs p r h hp=>?_) (Xp ⟨⟨_,Tryz.func153,rfl,rfl⟩⟩ (fun vs p r h hp=>?_) YT)
 ·unfold Pn at h;split at h
  ·split at h
   ·rename_i xs ys hx hy;simp only[ab,af]at h;obtain⟨rfl,rfl⟩:=h;rw[Yz hx,Yz hy];exact Md _ _ _ _ hp
   ·cases h
  ·cases h
 ·unfold mD at h;split at h
  ·split at h
   ·rename_i x hx;simp only[ab,af]at h;obtain⟨rfl,rfl⟩:=h;exact Yp (.cons (Kd hx) .nil) (Lb _)
   ·cases h
  ·cases h
def Ez.small(x:Ez):Prop:=x.e.da.length≤1000000∧x.e.dd.length≤1000000∧x.e.dw.length≤1000000
def YE(x y:Ev):Bool:=decide (x.da=y.da)&&decide (x.dd=y.dd)&&decide (x.dw=y.dw)&&(x.hart==y.hart&&(x.pos==y.pos&&(x.kind==y.kind&&(x.pred==y.pred&&(x.succ==y.succ&&(x.pair==y.pair&&(x.addr==y.addr&&(x.load==y.load&&(x.store==y.store&&(x.aq==y.aq&&(x.rl==y.rl&&true)))))))))))
theorem Tn(x y:Ez)(hx:x.small):Xq Tryz.prog 117 [evV x,evV y] (.val (bV (YE x.e y.e))):=by
 obtain⟨n1,n2,n3⟩:=hx;refine Xk (rs:=[.tmp 4]) (Xl _) Tryz.func117 rfl Tryz.ntmps117 rfl (by simp) ?_;unfold evV YE
 first|refine Wa KO fun K J=>?_|refine Wb KO fun K J=>?_|refine Wc KO [] fun K J=>?_|refine Wd KO [] fun K J=>?_
 simp;apply J;clear J K;refine We fun S Y=>?_
 ((first|refine Wa KO fun K J=>?_|refine Wb KO fun K J=>?_|refine Wc KO [5,6] fun K J=>?_|refine Wd KO [5,6] fun K J=>?_);simp;apply And.intro;(·kernel_rfl);with_reducible refine J _ ?_;clear J K)
 by_cases ha:x.e.da=y.e.da
 ·have m1:y.e.da.length≤1000000:=ha▸n1;by_cases hd:x.e.dd=y.e.dd
  ·have m2:y.e.dd.length≤1000000:=hd▸n2;by_cases hw:x.e.dw=y.e.dw
   ·have m3:y.e.dw.length≤1000000:=hw▸n3;apply Y;clear Y S;refine We fun S Y=>?_;refine Wa KO fun K J=>?_;simp[sp3,Xo,Pn,Xa,m1,m2,m3,ha,hd,hw];apply J;clear J K;refine Wf (by simp) ?_;refine Wp.skip ?_;apply Y;clear Y S;refine Wa KO fun K J=>?_;simp;apply J;clear J K;refine Wc KO [] fun K J=>?_;simp[sp3,Xo,mD,Xa,X2,unS,jX];apply And.intro;(·kernel_rfl);apply J;clear J K;refine Wp.ret ?_;simp[ha,hd,hw]
   ·apply Y;clear Y S;refine We fun S Y=>?_;refine Wa KO fun K J=>?_;simp[sp3,Xo,Pn,Xa,n3,m1,m2,ha,hd,hw];apply J;clear J K;refine Wt (by simp) ?_;refine Wa KO fun K J=>?_;simp;apply J;clear J K;refine Wp.ret ?_;simp[ha,hd,hw]
  ·apply Y;clear Y S;refine We fun S Y=>?_;refine Wa KO fun K J=>?_;simp[sp3,Xo,Pn,Xa,n2,m1,ha,hd];apply J;clear J K;refine Wt (by simp) ?_;refine Wa KO fun K J=>?_;simp;apply J;clear J K;refine Wp.ret ?_;simp[ha,hd]
 ·apply Y;clear Y S;refine We fun S Y=>?_;refine Wa KO fun K J=>?_;simp[sp3,Xo,Pn,Xa,n1,ha];apply J;clear J K;refine Wt (by simp) ?_;refine Wa KO fun K J=>?_;simp;apply J;clear J K;refine Wp.ret ?_;simp[ha]
def KB:List EV→Option (Prop×Yw)
 |[.one (.c (.sl _z 1 els)), .one (.c (.sc (.int .i64 m)))]=>(match unI els with|some xs=>some (xs.length≤1000000, .val (bV (XO xs m)))|none=>none)
 |_=>none
def Eh:List EV→Option (Prop×Yw)
 |[v,u]=>(match X2 v,X2 u with|some x,some y=>some (x.small, .val (bV (YE x.e y.e)))|_,_=>none)
 |_=>none
def sp4:Dw.Spec:=Xo 118 KB (Xo 117 Eh sp3)
theorem Xc:XA Tryz.prog sp4:=by
 refine Xp ⟨⟨_,Tryz.func118,rfl,rfl⟩⟩ (fun vs p r h hp=>?_) (Xp ⟨⟨_,Tryz.func117,rfl,rfl⟩⟩ (fun vs p r h hp=>?_) KO)
 ·unfold KB at h;split at h
  ·split at h
   ·rename_i xs hx;simp only[ab,af]at h;obtain⟨rfl,rfl⟩:=h;rw[Yz hx];exact MA _ _ _ hp
   ·cases h
  ·cases h
 ·unfold Eh at h;split at h
  ·split at h
   ·rename_i x y hx hy;simp only[ab,af]at h;obtain⟨rfl,rfl⟩:=h;exact Yp (.cons (Kd hx) (.cons (Kd hy) .nil)) (Tn _ _ hp)
   ·cases h
  ·cases h
theorem KX(m:Int):XO [] m=true:=by simp[XO,rising]
theorem Mo(x:Ez)(hk:x.e.kind<1∨6<x.e.kind):Xq Tryz.prog 83 [evV x] (.val (iV .i64 (Yh (Xn x.e)))):=by
 have e:Xn x.e=false:=by
  have h1:K9 x.e.kind=false:=by simp[K9,XE,Xt];omega
  have h2:¬x.e.kind=6:=by omega
  simp[Xn,Ev.mem,h1,h2]
 have hh:hasB x.e.kind=0:=by unfold hasB;split<;>(try split)<;>(try split)<;>(try split)<;>(try split)<;>(try split)<;>omega
 rw[e];refine Xk (rs:=[.tmp 2]) (Xl _) Tryz.func83 rfl Tryz.ntmps83 rfl (by simp) ?_;unfold evV;refine Wa Xc fun K J=>?_;simp;apply J;clear J K;refine Wa Xc fun K J=>?_;simp[sp4,sp3,sp2,sp1,Xo,AJ,hh];apply J;clear J K;refine Wa Xc fun K J=>?_;simp;apply J;clear J K;refine Wa Xc fun K J=>?_;simp;apply J;clear J K;refine We fun S Y=>?_;refine Wa Xc fun K J=>?_;simp[IntKind.wrap,IntKind.bits,IntKind.signed];apply J;clear J K;refine Wf (by simp) ?_
 ((first|refine Wa Xc fun K J=>?_|refine Wb Xc fun K J=>?_|refine Wc Xc [5] fun K J=>?_|refine Wd Xc [5] fun K J=>?_);simp;apply And.intro;(·kernel_rfl);with_reducible refine J _ ?_;clear J K)
 apply Y;clear Y S;refine We fun S Y=>?_;refine Wa Xc fun K J=>?_;simp[IntKind.wrap,IntKind.bits,IntKind.signed];apply J;clear J K;refine Wf (by simp) ?_;refine Wp.skip ?_;apply Y;clear Y S;refine We fun S Y=>?_;refine Wa Xc fun K J=>?_;simp[IntKind.wrap,IntKind.bits,IntKind.signed];apply J;clear J K;refine Wf (by simp) ?_;refine Wp.skip ?_;apply Y;clear Y S;refine We fun S Y=>?_;refine Wa Xc fun K J=>?_;simp[IntKind.wrap,IntKind.bits,IntKind.signed];apply J;clear J K;refine Wf (by simp) ?_;refine Wp.skip ?_;apply Y;clear Y S;refine We fun S Y=>?_;refine Wa Xc fun K J=>?_;simp[IntKind.wrap,IntKind.bits,IntKind.signed];apply J;clear J K;refine Wf (by simp) ?_;refine Wp.skip ?_;apply Y;clear Y S;refine We fun S Y=>?_;refine Wp.block ?_;refine We fun S Y=>?_;refine Wa Xc fun K J=>?_;simp;apply J;clear J K;refine Wt (by simp) ?_;refine Wp.skip ?_;apply Y;clear Y S;refine Wt (by simp) ?_;refine Wa Xc fun K J=>?_;simp;apply J;clear J K;refine Wp.ret ?_;simp[Yh]
theorem check_1(x:Ez)(hx:VR x.e)(hk:x.e.kind=1):Xq Tryz.prog 83 [evV x] (.val (iV .i64 (Yh (Xn x.e)))):=by
 obtain⟨n1,n2,n3⟩:=hx;have m1:x.e.da.length≤1000000:=by omega
 have m2:x.e.dd.length≤1000000:=by omega
 have m3:x.e.dw.length≤1000000:=by omega
 refine Xk (rs:=[.tmp 2]) (Xl _) Tryz.func83 rfl Tryz.ntmps83 rfl (by simp) ?_;unfold evV;refine Wa Xc fun K J=>?_;simp[hk];apply J;clear J K;refine Wa Xc fun K J=>?_;simp[sp4,sp3,sp2,sp1,Xo,AJ,hasB];apply J;clear J K;refine Wa Xc fun K J=>?_;simp;apply J;clear J K;refine Wa Xc fun K J=>?_;simp;apply J;clear J K;refine We fun S Y=>?_;refine Wa Xc fun K J=>?_;simp[IntKind.wrap,IntKind.bits,IntKind.signed];apply J;clear J K;refine Wf (by simp) ?_
 ((first|refine Wa Xc fun K J=>?_|refine Wb Xc fun K J=>?_|refine Wc Xc [5] fun K J=>?_|refine Wd Xc [5] fun K J=>?_);simp;apply And.intro;(·kernel_rfl);with_reducible refine J _ ?_;clear J K)
 apply Y;clear Y S;refine We fun S Y=>?_;refine Wa Xc fun K J=>?_;simp[IntKind.wrap,IntKind.bits,IntKind.signed];apply J;clear J K;refine Wt (by simp) ?_;refine Wb Xc fun K J=>?_;simp;apply J;clear J K;apply Y;clear Y S;refine We fun S Y=>?_;refine Wa Xc fun K J=>?_;simp[IntKind.wrap,IntKind.bits,IntKind.signed];apply J;clear J K;refine Wf (by simp) ?_;refine Wp.skip ?_;apply Y;clear Y S;refine We fun S Y=>?_;refine Wa Xc fun K J=>?_;simp[IntKind.wrap,IntKind.bits,IntKind.signed];apply J;clear J K;refine Wf (by simp) ?_;refine Wp.skip ?_;apply Y;clear Y S;refine We fun S Y=>?_;refine Wa Xc fun K J=>?_;simp[IntKind.wrap,IntKind.bits,IntKind.signed];apply J;clear J K;refine Wf (by simp) ?_;refine Wp.skip ?_;apply Y;clear Y S;refine We fun S Y=>?_;refine Wp.block ?_;refine We fun S Y=>?_;refine Wa Xc fun K J=>?_;simp;apply J;clear J K;refine Wf (by simp) ?_;refine Wa Xc fun K J=>?_;simp;apply J;clear J K;refine Wp.cond rfl (fun hc=>?_) (fun hc=>?_)
 ·have hq:x.e.hart<0:=by simpa using hc
  have hv:Xn x.e=false:=by
   cases hv:Xn x.e
   ·rfl
   exfalso;simp[Xn,XJ,XQ,Ev.mem,Ev.reads,Ev.writes,K9,XE,Xt,hk]at hv;grind
  refine Wp.skip ?_;apply Y;clear Y S;refine Wt (by simp[hq]) ?_;refine Wa Xc fun K J=>?_;simp[hq];apply J;clear J K;refine Wp.ret ?_;simp[hv,Yh]
 have hc1:¬(x.e.hart<0):=by simpa using hc
 clear hc;refine Wa Xc fun K J=>?_;simp[hc1];apply J;clear J K;refine Wp.cond rfl (fun hc=>?_) (fun hc=>?_)
 ·have hq:8≤x.e.hart:=by simpa using hc
  have hv:Xn x.e=false:=by
   cases hv:Xn x.e
   ·rfl
   exfalso;simp[Xn,XJ,XQ,Ev.mem,Ev.reads,Ev.writes,K9,XE,Xt,hk]at hv;grind
  refine Wp.skip ?_;apply Y;clear Y S;refine Wt (by simp[hq]) ?_;refine Wa Xc fun K J=>?_;simp[hq];apply J;clear J K;refine Wp.ret ?_;simp[hv,Yh]
 have hc2:¬(8≤x.e.hart):=by simpa using hc
 clear hc;refine Wa Xc fun K J=>?_;simp[hc2];apply J;clear J K;refine Wp.cond rfl (fun hc=>?_) (fun hc=>?_)
 ·have hq:x.e.pos<0:=by simpa using hc
  have hv:Xn x.e=false:=by
   cases hv:Xn x.e
   ·rfl
   exfalso;simp[Xn,XJ,XQ,Ev.mem,Ev.reads,Ev.writes,K9,XE,Xt,hk]at hv;grind
  refine Wp.skip ?_;apply Y;clear Y S;refine Wt (by simp[hq]) ?_;refine Wa Xc fun K J=>?_;simp[hq];apply J;clear J K;refine Wp.ret ?_;simp[hv,Yh]
 have hc3:¬(x.e.pos<0):=by simpa using hc
 clear hc;refine Wb Xc fun K J=>?_;simp[hc3,sp4,Xo,Eh,X2,unS,Xa,m1,m3,Ez.small];apply J;clear J K;apply Y;clear Y S;refine Wp.cond rfl (fun hc=>?_) (fun hc=>?_)
 ·have hv:Xn x.e=false:=by
   cases hv:Xn x.e
   ·rfl
   exfalso;simp[Xn,XJ,XQ,Ev.mem,Ev.reads,Ev.writes,K9,XE,Xt,hk]at hv;simp[YE]at hc;grind
  have hq:=hc;refine Wa Xc fun K J=>?_;simp[hq];apply J;clear J K;refine Wp.ret ?_;simp[hv,Yh]
 have qpred:x.e.pred=0:=by simp[YE]at hc;grind
 have qsucc:x.e.succ=0:=by simp[YE]at hc;grind
 have qstore:x.e.store=0:=by simp[YE]at hc;grind
 have qdd:x.e.dd=[]:=by simp[YE]at hc;grind
 have qaq:x.e.aq=false:=by simp[YE]at hc;grind
 have qrl:x.e.rl=false:=by simp[YE]at hc;grind
 have qpair:x.e.pair=0:=by simp[YE]at hc;grind
 have hs:=hc;clear hc;refine We fun S Y=>?_;refine Wa Xc fun K J=>?_;simp[qpred,qsucc,qstore,qdd,qaq,qrl,qpair];apply J;clear J K;refine Wp.cond rfl (fun hc=>?_) (fun hc=>?_)
 ·have hq:¬x.e.addr.tmod 8=0:=by simpa using hc
  have hv:Xn x.e=false:=by
   cases hv:Xn x.e
   ·rfl
   exfalso;simp[Xn,XJ,XQ,Ev.mem,Ev.reads,Ev.writes,K9,XE,Xt,hk]at hv;grind
  refine Wp.skip ?_;apply Y;clear Y S;refine Wt (by simp[hq]) ?_;refine Wa Xc fun K J=>?_;simp[hq];apply J;clear J K;refine Wp.ret ?_;simp[hv,Yh]
 have hc4:¬(¬x.e.addr.tmod 8=0):=by simpa using hc
 clear hc;refine Wa Xc fun K J=>?_;simp;apply J;clear J K;refine Wf (by simp) ?_;refine Wa Xc fun K J=>?_;simp;apply J;clear J K;refine Wf (by simp) ?_;refine Wa Xc fun K J=>?_;simp;apply J;clear J K;refine Wf (by simp) ?_;refine Wb Xc fun K J=>?_;simp;apply J;clear J K;apply Y;clear Y S;refine Wf (by simp) ?_;refine We fun S Y=>?_;refine Wa Xc fun K J=>?_;simp[IntKind.wrap,IntKind.bits,IntKind.signed];apply J;clear J K;refine Wf (by simp) ?_;refine Wa Xc fun K J=>?_;simp[sp4,Xo,KB,Xa,m1];apply J;clear J K;refine Wp.cond rfl (fun hc=>?_) (fun hc=>?_)
 ·have hq:XO x.e.da x.e.pos=false:=by simpa using hc
  have hv:Xn x.e=false:=by
   cases hv:Xn x.e
   ·rfl
   exfalso;simp[Xn,XJ,XQ,Ev.mem,Ev.reads,Ev.writes,K9,XE,Xt,hk]at hv;grind
  refine Wp.skip ?_;apply Y;clear Y S;refine Wt (by simp[hq]) ?_;refine Wa Xc fun K J=>?_;simp[hq];apply J;clear J K;refine Wp.ret ?_;simp[hv,Yh]
 have hc5:¬(XO x.e.da x.e.pos=false):=by simpa using hc
 clear hc;refine Wa Xc fun K J=>?_;simp[hc5,sp4,Xo,KB,Xa,KX];apply J;clear J K;refine Wf (by simp) ?_;refine Wb Xc fun K J=>?_;simp[sp4,Xo,KB,Xa,m3];apply J;clear J K;apply Y;clear Y S;refine Wp.cond rfl (fun hc=>?_) (fun hc=>?_)
 ·have hq:XO x.e.dw x.e.pos=false:=by simpa using hc
  have hv:Xn x.e=false:=by
   cases hv:Xn x.e
   ·rfl
   exfalso;simp[Xn,XJ,XQ,Ev.mem,Ev.reads,Ev.writes,K9,XE,Xt,hk]at hv;grind
  refine Wa Xc fun K J=>?_;simp[hq];apply J;clear J K;refine Wp.ret ?_;simp[hv,Yh]
 have hc6:¬(XO x.e.dw x.e.pos=false):=by simpa using hc
 clear hc;refine Wp.skip ?_;apply Y;clear Y S;refine Wa Xc fun K J=>?_;simp[hc6];apply J;clear J K;refine Wp.ret ?_;simp;simp[Yh,Xn,XJ,XQ,Ev.mem,Ev.reads,Ev.writes,K9,XE,Xt,hk,KX,qpred,qsucc,qstore,qdd,qaq,qrl,qpair];grind
theorem aB(x:Ez)(hx:VR x.e)(hk:x.e.kind=2):Xq Tryz.prog 83 [evV x] (.val (iV .i64 (Yh (Xn x.e)))):=by
 obtain⟨n1,n2,n3⟩:=hx;have m1:x.e.da.length≤1000000:=by omega
 have m2:x.e.dd.length≤1000000:=by omega
 have m3:x.e.dw.length≤1000000:=by omega
 refine Xk (rs:=[.tmp 2]) (Xl _) Tryz.func83 rfl Tryz.ntmps83 rfl (by simp) ?_;unfold evV;refine Wa Xc fun K J=>?_;simp[hk];apply J;clear J K;refine Wa Xc fun K J=>?_;simp[sp4,sp3,sp2,sp1,Xo,AJ,hasB];apply J;clear J K;refine Wa Xc fun K J=>?_;simp;apply J;clear J K;refine Wa Xc fun K J=>?_;simp;apply J;clear J K;refine We fun S Y=>?_;refine Wa Xc fun K J=>?_;simp[IntKind.wrap,IntKind.bits,IntKind.signed];apply J;clear J K;refine Wf (by simp) ?_
 ((first|refine Wa Xc fun K J=>?_|refine Wb Xc fun K J=>?_|refine Wc Xc [5] fun K J=>?_|refine Wd Xc [5] fun K J=>?_);simp;apply And.intro;(·kernel_rfl);with_reducible refine J _ ?_;clear J K)
 apply Y;clear Y S;refine We fun S Y=>?_;refine Wa Xc fun K J=>?_;simp[IntKind.wrap,IntKind.bits,IntKind.signed];apply J;clear J K;refine Wf (by simp) ?_;refine Wp.skip ?_;apply Y;clear Y S;refine We fun S Y=>?_;refine Wa Xc fun K J=>?_;simp[IntKind.wrap,IntKind.bits,IntKind.signed];apply J;clear J K;refine Wt (by simp) ?_
 ((first|refine Wa Xc fun K J=>?_|refine Wb Xc fun K J=>?_|refine Wc Xc [5] fun K J=>?_|refine Wd Xc [5] fun K J=>?_);simp;apply And.intro;(·kernel_rfl);with_reducible refine J _ ?_;clear J K)
 apply Y;clear Y S;refine We fun S Y=>?_;refine Wa Xc fun K J=>?_;simp[IntKind.wrap,IntKind.bits,IntKind.signed];apply J;clear J K;refine Wf (by simp) ?_;refine Wp.skip ?_;apply Y;clear Y S;refine We fun S Y=>?_;refine Wa Xc fun K J=>?_;simp[IntKind.wrap,IntKind.bits,IntKind.signed];apply J;clear J K;refine Wf (by simp) ?_;refine Wp.skip ?_;apply Y;clear Y S;refine We fun S Y=>?_;refine Wp.block ?_;refine We fun S Y=>?_;refine Wa Xc fun K J=>?_;simp;apply J;clear J K;refine Wf (by simp) ?_;refine Wa Xc fun K J=>?_;simp;apply J;clear J K;refine Wp.cond rfl (fun hc=>?_) (fun hc=>?_)
 ·have hq:x.e.hart<0:=by simpa using hc
  have hv:Xn x.e=false:=by
   cases hv:Xn x.e
   ·rfl
   exfalso;simp[Xn,XJ,XQ,Ev.mem,Ev.reads,Ev.writes,K9,XE,Xt,hk]at hv;grind
  refine Wp.skip ?_;apply Y;clear Y S;refine Wt (by simp[hq]) ?_;refine Wa Xc fun K J=>?_;simp[hq];apply J;clear J K;refine Wp.ret ?_;simp[hv,Yh]
 have hc1:¬(x.e.hart<0):=by simpa using hc
 clear hc;refine Wa Xc fun K J=>?_;simp[hc1];apply J;clear J K;refine Wp.cond rfl (fun hc=>?_) (fun hc=>?_)
 ·have hq:8≤x.e.hart:=by simpa using hc
  have hv:Xn x.e=false:=by
   cases hv:Xn x.e
   ·rfl
   exfalso;simp[Xn,XJ,XQ,Ev.mem,Ev.reads,Ev.writes,K9,XE,Xt,hk]at hv;grind
  refine Wp.skip ?_;apply Y;clear Y S;refine Wt (by simp[hq]) ?_;refine Wa Xc fun K J=>?_;simp[hq];apply J;clear J K;refine Wp.ret ?_;simp[hv,Yh]
 have hc2:¬(8≤x.e.hart):=by simpa using hc
 clear hc;refine Wa Xc fun K J=>?_;simp[hc2];apply J;clear J K;refine Wp.cond rfl (fun hc=>?_) (fun hc=>?_)
 ·have hq:x.e.pos<0:=by simpa using hc
  have hv:Xn x.e=false:=by
   cases hv:Xn x.e
   ·rfl
   exfalso;simp[Xn,XJ,XQ,Ev.mem,Ev.reads,Ev.writes,K9,XE,Xt,hk]at hv;grind
  refine Wp.skip ?_;apply Y;clear Y S;refine Wt (by simp[hq]) ?_;refine Wa Xc fun K J=>?_;simp[hq];apply J;clear J K;refine Wp.ret ?_;simp[hv,Yh]
 have hc3:¬(x.e.pos<0):=by simpa using hc
 clear hc;refine Wb Xc fun K J=>?_;simp[hc3,sp4,Xo,Eh,X2,unS,Xa,m1,m2,m3,Ez.small];apply J;clear J K;apply Y;clear Y S;refine Wp.cond rfl (fun hc=>?_) (fun hc=>?_)
 ·have hv:Xn x.e=false:=by
   cases hv:Xn x.e
   ·rfl
   exfalso;simp[Xn,XJ,XQ,Ev.mem,Ev.reads,Ev.writes,K9,XE,Xt,hk]at hv;simp[YE]at hc;grind
  have hq:=hc;refine Wa Xc fun K J=>?_;simp[hq];apply J;clear J K;refine Wp.ret ?_;simp[hv,Yh]
 have qpred:x.e.pred=0:=by simp[YE]at hc;grind
 have qsucc:x.e.succ=0:=by simp[YE]at hc;grind
 have qload:x.e.load=0:=by simp[YE]at hc;grind
 have qaq:x.e.aq=false:=by simp[YE]at hc;grind
 have qrl:x.e.rl=false:=by simp[YE]at hc;grind
 have qpair:x.e.pair=0:=by simp[YE]at hc;grind
 have hs:=hc;clear hc;refine We fun S Y=>?_;refine Wa Xc fun K J=>?_;simp[qpred,qsucc,qload,qaq,qrl,qpair];apply J;clear J K;refine Wp.cond rfl (fun hc=>?_) (fun hc=>?_)
 ·have hq:¬x.e.addr.tmod 8=0:=by simpa using hc
  have hv:Xn x.e=false:=by
   cases hv:Xn x.e
   ·rfl
   exfalso;simp[Xn,XJ,XQ,Ev.mem,Ev.reads,Ev.writes,K9,XE,Xt,hk]at hv;grind
  refine Wp.skip ?_;apply Y;clear Y S;refine Wt (by simp[hq]) ?_;refine Wa Xc fun K J=>?_;simp[hq];apply J;clear J K;refine Wp.ret ?_;simp[hv,Yh]
 have hc4:¬(¬x.e.addr.tmod 8=0):=by simpa using hc
 clear hc;refine Wa Xc fun K J=>?_;simp;apply J;clear J K;refine Wf (by simp) ?_;refine Wa Xc fun K J=>?_;simp;apply J;clear J K;refine Wf (by simp) ?_;refine Wa Xc fun K J=>?_;simp;apply J;clear J K;refine Wf (by simp) ?_;refine Wb Xc fun K J=>?_;simp;apply J;clear J K;apply Y;clear Y S;refine Wf (by simp) ?_;refine We fun S Y=>?_;refine Wa Xc fun K J=>?_;simp[IntKind.wrap,IntKind.bits,IntKind.signed];apply J;clear J K;refine Wf (by simp) ?_;refine Wa Xc fun K J=>?_;simp[sp4,Xo,KB,Xa,m1];apply J;clear J K;refine Wp.cond rfl (fun hc=>?_) (fun hc=>?_)
 ·have hq:XO x.e.da x.e.pos=false:=by simpa using hc
  have hv:Xn x.e=false:=by
   cases hv:Xn x.e
   ·rfl
   exfalso;simp[Xn,XJ,XQ,Ev.mem,Ev.reads,Ev.writes,K9,XE,Xt,hk]at hv;grind
  refine Wp.skip ?_;apply Y;clear Y S;refine Wt (by simp[hq]) ?_;refine Wa Xc fun K J=>?_;simp[hq];apply J;clear J K;refine Wp.ret ?_;simp[hv,Yh]
 have hc5:¬(XO x.e.da x.e.pos=false):=by simpa using hc
 clear hc;refine Wa Xc fun K J=>?_;simp[hc5,sp4,Xo,KB,Xa,m2];apply J;clear J K;refine Wp.cond rfl (fun hc=>?_) (fun hc=>?_)
 ·have hq:XO x.e.dd x.e.pos=false:=by simpa using hc
  have hv:Xn x.e=false:=by
   cases hv:Xn x.e
   ·rfl
   exfalso;simp[Xn,XJ,XQ,Ev.mem,Ev.reads,Ev.writes,K9,XE,Xt,hk]at hv;grind
  refine Wp.skip ?_;apply Y;clear Y S;refine Wt (by simp[hq]) ?_;refine Wa Xc fun K J=>?_;simp[hq];apply J;clear J K;refine Wp.ret ?_;simp[hv,Yh]
 have hc6:¬(XO x.e.dd x.e.pos=false):=by simpa using hc
 clear hc;refine Wb Xc fun K J=>?_;simp[hc6,sp4,Xo,KB,Xa,m3];apply J;clear J K;apply Y;clear Y S;refine Wp.cond rfl (fun hc=>?_) (fun hc=>?_)
 ·have hq:XO x.e.dw x.e.pos=false:=by simpa using hc
  have hv:Xn x.e=false:=by
   cases hv:Xn x.e
   ·rfl
   exfalso;simp[Xn,XJ,XQ,Ev.mem,Ev.reads,Ev.writes,K9,XE,Xt,hk]at hv;grind
  refine Wa Xc fun K J=>?_;simp[hq];apply J;clear J K;refine Wp.ret ?_;simp[hv,Yh]
 have hc7:¬(XO x.e.dw x.e.pos=false):=by simpa using hc
 clear hc;refine Wp.skip ?_;apply Y;clear Y S;refine Wa Xc fun K J=>?_;simp[hc7];apply J;clear J K;refine Wp.ret ?_;simp;simp[Yh,Xn,XJ,XQ,Ev.mem,Ev.reads,Ev.writes,K9,XE,Xt,hk,qpred,qsucc,qload,qaq,qrl,qpair];grind
theorem aA(x:Ez)(hx:VR x.e)(hk:x.e.kind=3):Xq Tryz.prog 83 [evV x] (.val (iV .i64 (Yh (Xn x.e)))):=by
 obtain⟨n1,n2,n3⟩:=hx;have m1:x.e.da.length≤1000000:=by omega
 have m2:x.e.dd.length≤1000000:=by omega
 have m3:x.e.dw.length≤1000000:=by omega
 refine Xk (rs:=[.tmp 2]) (Xl _) Tryz.func83 rfl Tryz.ntmps83 rfl (by simp) ?_;unfold evV;refine Wa Xc fun K J=>?_;simp[hk];apply J;clear J K;refine Wa Xc fun K J=>?_;simp[sp4,sp3,sp2,sp1,Xo,AJ,hasB];apply J;clear J K;refine Wa Xc fun K J=>?_;simp;apply J;clear J K;refine Wa Xc fun K J=>?_;simp;apply J;clear J K;refine We fun S Y=>?_;refine Wa Xc fun K J=>?_;simp[IntKind.wrap,IntKind.bits,IntKind.signed];apply J;clear J K;refine Wf (by simp) ?_
 ((first|refine Wa Xc fun K J=>?_|refine Wb Xc fun K J=>?_|refine Wc Xc [5] fun K J=>?_|refine Wd Xc [5] fun K J=>?_);simp;apply And.intro;(·kernel_rfl);with_reducible refine J _ ?_;clear J K)
 apply Y;clear Y S;refine We fun S Y=>?_;refine Wa Xc fun K J=>?_;simp[IntKind.wrap,IntKind.bits,IntKind.signed];apply J;clear J K;refine Wt (by simp) ?_;refine Wb Xc fun K J=>?_;simp;apply J;clear J K;apply Y;clear Y S;refine We fun S Y=>?_;refine Wa Xc fun K J=>?_;simp[IntKind.wrap,IntKind.bits,IntKind.signed];apply J;clear J K;refine Wf (by simp) ?_;refine Wp.skip ?_;apply Y;clear Y S;refine We fun S Y=>?_;refine Wa Xc fun K J=>?_;simp[IntKind.wrap,IntKind.bits,IntKind.signed];apply J;clear J K;refine Wt (by simp) ?_
 ((first|refine Wa Xc fun K J=>?_|refine Wb Xc fun K J=>?_|refine Wc Xc [5] fun K J=>?_|refine Wd Xc [5] fun K J=>?_);simp;apply And.intro;(·kernel_rfl);with_reducible refine J _ ?_;clear J K)
 apply Y;clear Y S;refine We fun S Y=>?_;refine Wa Xc fun K J=>?_;simp[IntKind.wrap,IntKind.bits,IntKind.signed];apply J;clear J K;refine Wf (by simp) ?_;refine Wp.skip ?_;apply Y;clear Y S;refine We fun S Y=>?_;refine Wp.block ?_;refine We fun S Y=>?_;refine Wa Xc fun K J=>?_;simp;apply J;clear J K;refine Wf (by simp) ?_;refine Wa Xc fun K J=>?_;simp;apply J;clear J K;refine Wp.cond rfl (fun hc=>?_) (fun hc=>?_)
 ·have hq:x.e.hart<0:=by simpa using hc
  have hv:Xn x.e=false:=by
   cases hv:Xn x.e
   ·rfl
   exfalso;simp[Xn,XJ,XQ,Ev.mem,Ev.reads,Ev.writes,K9,XE,Xt,hk]at hv;grind
  refine Wp.skip ?_;apply Y;clear Y S;refine Wt (by simp[hq]) ?_;refine Wa Xc fun K J=>?_;simp[hq];apply J;clear J K;refine Wp.ret ?_;simp[hv,Yh]
 have hc1:¬(x.e.hart<0):=by simpa using hc
 clear hc;refine Wa Xc fun K J=>?_;simp[hc1];apply J;clear J K;refine Wp.cond rfl (fun hc=>?_) (fun hc=>?_)
 ·have hq:8≤x.e.hart:=by simpa using hc
  have hv:Xn x.e=false:=by
   cases hv:Xn x.e
   ·rfl
   exfalso;simp[Xn,XJ,XQ,Ev.mem,Ev.reads,Ev.writes,K9,XE,Xt,hk]at hv;grind
  refine Wp.skip ?_;apply Y;clear Y S;refine Wt (by simp[hq]) ?_;refine Wa Xc fun K J=>?_;simp[hq];apply J;clear J K;refine Wp.ret ?_;simp[hv,Yh]
 have hc2:¬(8≤x.e.hart):=by simpa using hc
 clear hc;refine Wa Xc fun K J=>?_;simp[hc2];apply J;clear J K;refine Wp.cond rfl (fun hc=>?_) (fun hc=>?_)
 ·have hq:x.e.pos<0:=by simpa using hc
  have hv:Xn x.e=false:=by
   cases hv:Xn x.e
   ·rfl
   exfalso;simp[Xn,XJ,XQ,Ev.mem,Ev.reads,Ev.writes,K9,XE,Xt,hk]at hv;grind
  refine Wp.skip ?_;apply Y;clear Y S;refine Wt (by simp[hq]) ?_;refine Wa Xc fun K J=>?_;simp[hq];apply J;clear J K;refine Wp.ret ?_;simp[hv,Yh]
 have hc3:¬(x.e.pos<0):=by simpa using hc
 clear hc;refine Wb Xc fun K J=>?_;simp[hc3,sp4,Xo,Eh,X2,unS,Xa,m1,m3,Ez.small];apply J;clear J K;apply Y;clear Y S;refine Wp.cond rfl (fun hc=>?_) (fun hc=>?_)
 ·have hv:Xn x.e=false:=by
   cases hv:Xn x.e
   ·rfl
   exfalso;simp[Xn,XJ,XQ,Ev.mem,Ev.reads,Ev.writes,K9,XE,Xt,hk]at hv;simp[YE]at hc;grind
  have hq:=hc;refine Wa Xc fun K J=>?_;simp[hq];apply J;clear J K;refine Wp.ret ?_;simp[hv,Yh]
 have qpred:x.e.pred=0:=by simp[YE]at hc;grind
 have qsucc:x.e.succ=0:=by simp[YE]at hc;grind
 have qstore:x.e.store=0:=by simp[YE]at hc;grind
 have qdd:x.e.dd=[]:=by simp[YE]at hc;grind
 have qpair:x.e.pair=0:=by simp[YE]at hc;grind
 have hs:=hc;clear hc;refine We fun S Y=>?_;refine Wa Xc fun K J=>?_;simp[qpred,qsucc,qstore,qdd,qpair];apply J;clear J K;refine Wp.cond rfl (fun hc=>?_) (fun hc=>?_)
 ·have hq:¬x.e.addr.tmod 8=0:=by simpa using hc
  have hv:Xn x.e=false:=by
   cases hv:Xn x.e
   ·rfl
   exfalso;simp[Xn,XJ,XQ,Ev.mem,Ev.reads,Ev.writes,K9,XE,Xt,hk]at hv;grind
  refine Wp.skip ?_;apply Y;clear Y S;refine Wt (by simp[hq]) ?_;refine Wa Xc fun K J=>?_;simp[hq];apply J;clear J K;refine Wp.ret ?_;simp[hv,Yh]
 have hc4:¬(¬x.e.addr.tmod 8=0):=by simpa using hc
 clear hc;refine Wa Xc fun K J=>?_;simp;apply J;clear J K;refine Wf (by simp) ?_;refine Wa Xc fun K J=>?_;simp;apply J;clear J K;refine Wf (by simp) ?_;refine Wa Xc fun K J=>?_;simp;apply J;clear J K;refine Wf (by simp) ?_;refine Wb Xc fun K J=>?_;simp;apply J;clear J K;apply Y;clear Y S;refine Wf (by simp) ?_;refine We fun S Y=>?_;refine Wa Xc fun K J=>?_;simp[IntKind.wrap,IntKind.bits,IntKind.signed];apply J;clear J K;refine Wf (by simp) ?_;refine Wa Xc fun K J=>?_;simp[sp4,Xo,KB,Xa,m1];apply J;clear J K;refine Wp.cond rfl (fun hc=>?_) (fun hc=>?_)
 ·have hq:XO x.e.da x.e.pos=false:=by simpa using hc
  have hv:Xn x.e=false:=by
   cases hv:Xn x.e
   ·rfl
   exfalso;simp[Xn,XJ,XQ,Ev.mem,Ev.reads,Ev.writes,K9,XE,Xt,hk]at hv;grind
  refine Wp.skip ?_;apply Y;clear Y S;refine Wt (by simp[hq]) ?_;refine Wa Xc fun K J=>?_;simp[hq];apply J;clear J K;refine Wp.ret ?_;simp[hv,Yh]
 have hc5:¬(XO x.e.da x.e.pos=false):=by simpa using hc
 clear hc;refine Wa Xc fun K J=>?_;simp[hc5,sp4,Xo,KB,Xa,KX];apply J;clear J K;refine Wf (by simp) ?_;refine Wb Xc fun K J=>?_;simp[sp4,Xo,KB,Xa,m3];apply J;clear J K;apply Y;clear Y S;refine Wp.cond rfl (fun hc=>?_) (fun hc=>?_)
 ·have hq:XO x.e.dw x.e.pos=false:=by simpa using hc
  have hv:Xn x.e=false:=by
   cases hv:Xn x.e
   ·rfl
   exfalso;simp[Xn,XJ,XQ,Ev.mem,Ev.reads,Ev.writes,K9,XE,Xt,hk]at hv;grind
  refine Wa Xc fun K J=>?_;simp[hq];apply J;clear J K;refine Wp.ret ?_;simp[hv,Yh]
 have hc6:¬(XO x.e.dw x.e.pos=false):=by simpa using hc
 clear hc;refine Wp.skip ?_;apply Y;clear Y S;refine Wa Xc fun K J=>?_;simp[hc6];apply J;clear J K;refine Wp.ret ?_;simp;simp[Yh,Xn,XJ,XQ,Ev.mem,Ev.reads,Ev.writes,K9,XE,Xt,hk,KX,qpred,qsucc,qstore,qdd,qpair];grind
theorem W9(x:Ez)(hx:VR x.e)(hk:x.e.kind=4):Xq Tryz.prog 83 [evV x] (.val (iV .i64 (Yh (Xn x.e)))):=by
 obtain⟨n1,n2,n3⟩:=hx;have m1:x.e.da.length≤1000000:=by omega
 have m2:x.e.dd.length≤1000000:=by omega
 have m3:x.e.dw.length≤1000000:=by omega
 refine Xk (rs:=[.tmp 2]) (Xl _) Tryz.func83 rfl Tryz.ntmps83 rfl (by simp) ?_;unfold evV;refine Wa Xc fun K J=>?_;simp[hk];apply J;clear J K;refine Wa Xc fun K J=>?_;simp[sp4,sp3,sp2,sp1,Xo,AJ,hasB];apply J;clear J K;refine Wa Xc fun K J=>?_;simp;apply J;clear J K;refine Wa Xc fun K J=>?_;simp;apply J;clear J K;refine We fun S Y=>?_;refine Wa Xc fun K J=>?_;simp[IntKind.wrap,IntKind.bits,IntKind.signed];apply J;clear J K;refine Wf (by simp) ?_
 ((first|refine Wa Xc fun K J=>?_|refine Wb Xc fun K J=>?_|refine Wc Xc [5] fun K J=>?_|refine Wd Xc [5] fun K J=>?_);simp;apply And.intro;(·kernel_rfl);with_reducible refine J _ ?_;clear J K)
 apply Y;clear Y S;refine We fun S Y=>?_;refine Wa Xc fun K J=>?_;simp[IntKind.wrap,IntKind.bits,IntKind.signed];apply J;clear J K;refine Wf (by simp) ?_;refine Wp.skip ?_;apply Y;clear Y S;refine We fun S Y=>?_;refine Wa Xc fun K J=>?_;simp[IntKind.wrap,IntKind.bits,IntKind.signed];apply J;clear J K;refine Wt (by simp) ?_
 ((first|refine Wa Xc fun K J=>?_|refine Wb Xc fun K J=>?_|refine Wc Xc [5] fun K J=>?_|refine Wd Xc [5] fun K J=>?_);simp;apply And.intro;(·kernel_rfl);with_reducible refine J _ ?_;clear J K)
 apply Y;clear Y S;refine We fun S Y=>?_;refine Wa Xc fun K J=>?_;simp[IntKind.wrap,IntKind.bits,IntKind.signed];apply J;clear J K;refine Wt (by simp) ?_
 ((first|refine Wa Xc fun K J=>?_|refine Wb Xc fun K J=>?_|refine Wc Xc [5] fun K J=>?_|refine Wd Xc [5] fun K J=>?_);simp;apply And.intro;(·kernel_rfl);with_reducible refine J _ ?_;clear J K)
 apply Y;clear Y S;refine We fun S Y=>?_;refine Wa Xc fun K J=>?_;simp[IntKind.wrap,IntKind.bits,IntKind.signed];apply J;clear J K;refine Wt (by simp) ?_;refine Wb Xc fun K J=>?_;simp;apply J;clear J K;apply Y;clear Y S;refine We fun S Y=>?_;refine Wp.block ?_;refine We fun S Y=>?_;refine Wa Xc fun K J=>?_;simp;apply J;clear J K;refine Wf (by simp) ?_;refine Wa Xc fun K J=>?_;simp;apply J;clear J K;refine Wp.cond rfl (fun hc=>?_) (fun hc=>?_)
 ·have hq:x.e.hart<0:=by simpa using hc
  have hv:Xn x.e=false:=by
   cases hv:Xn x.e
   ·rfl
   exfalso;simp[Xn,XJ,XQ,Ev.mem,Ev.reads,Ev.writes,K9,XE,Xt,hk]at hv;grind
  refine Wp.skip ?_;apply Y;clear Y S;refine Wt (by simp[hq]) ?_;refine Wa Xc fun K J=>?_;simp[hq];apply J;clear J K;refine Wp.ret ?_;simp[hv,Yh]
 have hc1:¬(x.e.hart<0):=by simpa using hc
 clear hc;refine Wa Xc fun K J=>?_;simp[hc1];apply J;clear J K;refine Wp.cond rfl (fun hc=>?_) (fun hc=>?_)
 ·have hq:8≤x.e.hart:=by simpa using hc
  have hv:Xn x.e=false:=by
   cases hv:Xn x.e
   ·rfl
   exfalso;simp[Xn,XJ,XQ,Ev.mem,Ev.reads,Ev.writes,K9,XE,Xt,hk]at hv;grind
  refine Wp.skip ?_;apply Y;clear Y S;refine Wt (by simp[hq]) ?_;refine Wa Xc fun K J=>?_;simp[hq];apply J;clear J K;refine Wp.ret ?_;simp[hv,Yh]
 have hc2:¬(8≤x.e.hart):=by simpa using hc
 clear hc;refine Wa Xc fun K J=>?_;simp[hc2];apply J;clear J K;refine Wp.cond rfl (fun hc=>?_) (fun hc=>?_)
 ·have hq:x.e.pos<0:=by simpa using hc
  have hv:Xn x.e=false:=by
   cases hv:Xn x.e
   ·rfl
   exfalso;simp[Xn,XJ,XQ,Ev.mem,Ev.reads,Ev.writes,K9,XE,Xt,hk]at hv;grind
  refine Wp.skip ?_;apply Y;clear Y S;refine Wt (by simp[hq]) ?_;refine Wa Xc fun K J=>?_;simp[hq];apply J;clear J K;refine Wp.ret ?_;simp[hv,Yh]
 have hc3:¬(x.e.pos<0):=by simpa using hc
 clear hc;refine Wb Xc fun K J=>?_;simp[hc3,sp4,Xo,Eh,X2,unS,Xa,m1,m2,m3,Ez.small];apply J;clear J K;apply Y;clear Y S;refine Wp.cond rfl (fun hc=>?_) (fun hc=>?_)
 ·have hv:Xn x.e=false:=by
   cases hv:Xn x.e
   ·rfl
   exfalso;simp[Xn,XJ,XQ,Ev.mem,Ev.reads,Ev.writes,K9,XE,Xt,hk]at hv;simp[YE]at hc;grind
  have hq:=hc;refine Wa Xc fun K J=>?_;simp[hq];apply J;clear J K;refine Wp.ret ?_;simp[hv,Yh]
 have qpred:x.e.pred=0:=by simp[YE]at hc;grind
 have qsucc:x.e.succ=0:=by simp[YE]at hc;grind
 have qload:x.e.load=0:=by simp[YE]at hc;grind
 have hs:=hc;clear hc;refine We fun S Y=>?_;refine Wa Xc fun K J=>?_;simp[qpred,qsucc,qload];apply J;clear J K;refine Wp.cond rfl (fun hc=>?_) (fun hc=>?_)
 ·have hq:¬x.e.addr.tmod 8=0:=by simpa using hc
  have hv:Xn x.e=false:=by
   cases hv:Xn x.e
   ·rfl
   exfalso;simp[Xn,XJ,XQ,Ev.mem,Ev.reads,Ev.writes,K9,XE,Xt,hk]at hv;grind
  refine Wp.skip ?_;apply Y;clear Y S;refine Wt (by simp[hq]) ?_;refine Wa Xc fun K J=>?_;simp[hq];apply J;clear J K;refine Wp.ret ?_;simp[hv,Yh]
 have hc4:¬(¬x.e.addr.tmod 8=0):=by simpa using hc
 clear hc;refine Wa Xc fun K J=>?_;simp;apply J;clear J K;refine Wf (by simp) ?_;refine Wa Xc fun K J=>?_;simp;apply J;clear J K;refine Wf (by simp) ?_;refine Wa Xc fun K J=>?_;simp;apply J;clear J K;refine Wf (by simp) ?_;refine Wb Xc fun K J=>?_;simp;apply J;clear J K;apply Y;clear Y S;refine Wf (by simp) ?_;refine We fun S Y=>?_;refine We fun S Y=>?_;by_cases hp:x.e.pair<0
 ·have hv:Xn x.e=false:=by
   cases hv:Xn x.e
   ·rfl
   exfalso;simp[Xn,XJ,XQ,Ev.mem,Ev.reads,Ev.writes,K9,XE,Xt,hk]at hv;grind
  refine Wb Xc fun K J=>?_;simp[hp,IntKind.wrap,IntKind.bits,IntKind.signed];apply J;clear J K;apply Y;clear Y S;refine Wt (by simp) ?_;refine Wp.skip ?_;apply Y;clear Y S;refine Wt (by simp) ?_;refine Wa Xc fun K J=>?_;simp;apply J;clear J K;refine Wp.ret ?_;simp[hv,Yh]
 refine Wb Xc fun K J=>?_;simp[hp,IntKind.wrap,IntKind.bits,IntKind.signed];apply J;clear J K;apply Y;clear Y S;refine Wp.cond rfl (fun hc=>?_) (fun hc=>?_)
 ·have hq:x.e.pos≤x.e.pair:=by simpa using hc
  have hv:Xn x.e=false:=by
   cases hv:Xn x.e
   ·rfl
   exfalso;simp[Xn,XJ,XQ,Ev.mem,Ev.reads,Ev.writes,K9,XE,Xt,hk]at hv;grind
  refine Wp.skip ?_;apply Y;clear Y S;refine Wt (by simp[hq]) ?_;refine Wa Xc fun K J=>?_;simp[hq];apply J;clear J K;refine Wp.ret ?_;simp[hv,Yh]
 have hc5:¬(x.e.pos≤x.e.pair):=by simpa using hc
 clear hc;refine Wa Xc fun K J=>?_;simp[hc5,sp4,Xo,KB,Xa,m1];apply J;clear J K;refine Wp.cond rfl (fun hc=>?_) (fun hc=>?_)
 ·have hq:XO x.e.da x.e.pos=false:=by simpa using hc
  have hv:Xn x.e=false:=by
   cases hv:Xn x.e
   ·rfl
   exfalso;simp[Xn,XJ,XQ,Ev.mem,Ev.reads,Ev.writes,K9,XE,Xt,hk]at hv;grind
  refine Wp.skip ?_;apply Y;clear Y S;refine Wt (by simp[hq]) ?_;refine Wa Xc fun K J=>?_;simp[hq];apply J;clear J K;refine Wp.ret ?_;simp[hv,Yh]
 have hc6:¬(XO x.e.da x.e.pos=false):=by simpa using hc
 clear hc;refine Wa Xc fun K J=>?_;simp[hc6,sp4,Xo,KB,Xa,m2];apply J;clear J K;refine Wp.cond rfl (fun hc=>?_) (fun hc=>?_)
 ·have hq:XO x.e.dd x.e.pos=false:=by simpa using hc
  have hv:Xn x.e=false:=by
   cases hv:Xn x.e
   ·rfl
   exfalso;simp[Xn,XJ,XQ,Ev.mem,Ev.reads,Ev.writes,K9,XE,Xt,hk]at hv;grind
  refine Wp.skip ?_;apply Y;clear Y S;refine Wt (by simp[hq]) ?_;refine Wa Xc fun K J=>?_;simp[hq];apply J;clear J K;refine Wp.ret ?_;simp[hv,Yh]
 have hc7:¬(XO x.e.dd x.e.pos=false):=by simpa using hc
 clear hc;refine Wb Xc fun K J=>?_;simp[hc7,sp4,Xo,KB,Xa,m3];apply J;clear J K;apply Y;clear Y S;refine Wp.cond rfl (fun hc=>?_) (fun hc=>?_)
 ·have hq:XO x.e.dw x.e.pos=false:=by simpa using hc
  have hv:Xn x.e=false:=by
   cases hv:Xn x.e
   ·rfl
   exfalso;simp[Xn,XJ,XQ,Ev.mem,Ev.reads,Ev.writes,K9,XE,Xt,hk]at hv;grind
  refine Wa Xc fun K J=>?_;simp[hq];apply J;clear J K;refine Wp.ret ?_;simp[hv,Yh]
 have hc8:¬(XO x.e.dw x.e.pos=false):=by simpa using hc
 clear hc;refine Wp.skip ?_;apply Y;clear Y S;refine Wa Xc fun K J=>?_;simp[hc8];apply J;clear J K;refine Wp.ret ?_;simp;simp[Yh,Xn,XJ,XQ,Ev.mem,Ev.reads,Ev.writes,K9,XE,Xt,hk,qpred,qsucc,qload];grind
end Go.Proofs.YtbkpmfjfpcoehaaGreatDoor
