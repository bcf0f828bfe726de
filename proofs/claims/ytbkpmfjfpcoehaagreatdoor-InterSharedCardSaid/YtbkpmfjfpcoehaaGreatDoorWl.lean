/- What is computed, as data, and laws of it. No condition. -/
import Derived.Deep.Slices
import Derived.Test.YtbkpmfjfpcoehaaGreatDoorWk
set_option maxHeartbeats 16000000
namespace Go.Proofs.YtbkpmfjfpcoehaaGreatDoor
open Go Go.RowKit Dw
set_option maxRecDepth 100000
def JOk(es:List Ev)(fr od pl:List Int):Prop:=
 (∀x y,DG es fr x y→pl.getD x 0≤pl.getD y 0)∧(∀n,n<es.length→(es.getD n default).reads=true→Jz es pl n=fr.getD n 0)∧∀n,n<es.length→(es.getD n default).kind=4→Z4 es fr od pl n<0
theorem SX(pl:List Int){b':Bool}{x' y' z':Int}(L:List (Nat×Nat)):∃b x y z,SY pl (Z7 b' x' y' z') L=Z7 b x y z∧(b=true↔(∀p∈L,pl.getD p.1 0≤pl.getD p.2 0)∧b'=true):=by
 induction L with
 |nil=>exact⟨b',x',y',z',rfl,by simp⟩
 |cons p r ih=>
  unfold SY;by_cases h:pl.getD p.2 0<pl.getD p.1 0
  ·rw[if_pos h];refine⟨false,_,_,_,rfl,?_⟩;constructor
   ·intro q;cases q
   ·intro q;have:=q.1 p br;omega
  ·rw[if_neg h];obtain⟨b,x,y,z,e,hb⟩:=ih;refine⟨b,x,y,z,e,hb.trans ?_⟩;constructor
   ·rintro⟨h1,h2⟩;refine⟨fun q hq=>?_,h2⟩;rcases av.1 hq with rfl|hq
    ·omega
    ·exact h1 q hq
   ·rintro⟨h1,h2⟩;exact⟨fun q hq=>h1 q (bc _ hq),h2⟩
theorem SW(es:List Ev)(fr pl:List Int){b':Bool}{x' y' z':Int}(n f:Nat):∃b x y z,CF es fr pl (Z7 b' x' y' z') n f=Z7 b x y z∧(b=true↔(∀m,n≤m→m<n+f→(es.getD m default).reads=true→Jz es pl m=fr.getD m 0)∧b'=true):=by
 induction f generalizing n with
 |zero=>exact⟨b',x',y',z',rfl,⟨fun h=>⟨fun m h1 h2=>by omega,h⟩,fun h=>h.2⟩⟩
 |succ f ih=>
  unfold CF;by_cases h:(es.getD n default).reads=true∧Jz es pl n≠fr.getD n 0
  ·rw[if_pos h];refine⟨false,_,_,_,rfl,?_⟩;constructor
   ·intro q;cases q
   ·intro q;exact absurd (q.1 n (ak _) (by omega) h.1) h.2
  ·rw[if_neg h];obtain⟨b,x,y,z,e,hb⟩:=ih (n+1);refine⟨b,x,y,z,e,hb.trans ?_⟩;constructor
   ·rintro⟨h1,h2⟩;refine⟨fun m m1 m2 hr=>?_,h2⟩;rcases bn m1 with g|g
    ·subst g;exact Decidable.byContradiction fun q=>h ⟨hr,q⟩
    ·exact h1 m g (by omega) hr
   ·rintro⟨h1,h2⟩;exact⟨fun m m1 m2 hr=>h1 m (by omega) (by omega) hr,h2⟩
theorem Ob(es:List Ev)(fr od pl:List Int)(n f:Nat):∃b x y z,Rs es fr od pl n f=Z7 b x y z∧(b=true↔∀m,n≤m→m<n+f→(es.getD m default).kind=4→Z4 es fr od pl m<0):=by
 induction f generalizing n with
 |zero=>exact⟨true,0, -1, -1,rfl,⟨fun _ m h1 h2=>by omega,fun _=>rfl⟩⟩
 |succ f ih=>
  unfold Rs;by_cases h:(es.getD n default).kind=4∧0≤Z4 es fr od pl n
  ·rw[if_pos h];refine⟨false,_,_,_,rfl,?_⟩;constructor
   ·intro q;cases q
   ·intro q;have:=q n (ak _) (by omega) h.1;omega
  ·rw[if_neg h];obtain⟨b,x,y,z,e,hb⟩:=ih (n+1);refine⟨b,x,y,z,e,hb.trans ?_⟩;constructor
   ·intro h1 m m1 m2 hr;rcases bn m1 with g|g
    ·subst g;rcases Int.lt_or_le (Z4 es fr od pl n) 0 with q|q
     ·exact q
     ·exact absurd ⟨hr,q⟩ h
    ·exact h1 m g (by omega) hr
   ·intro h1 m m1 m2 hr;exact h1 m (by omega) (by omega) hr
theorem qq(c:Cz):∃b x y z,CE c=Z7 b x y z∧(b=true↔XV (Yr c)=true∧JOk (allB (Yr c)) c.fr c.od (X5 c.fr.length c.od)):=by
 unfold CE;by_cases hck:XV (Yr c)=true
 ·rw[if_pos hck];rw[HP,PX];generalize X5 c.fr.length c.od=pl;obtain⟨b1,x1,y1,z1,e1,h1⟩:=Ob (allB (Yr c)) c.fr c.od pl 0 (allB (Yr c)).length;rw[e1];obtain⟨b2,x2,y2,z2,e2,h2⟩:=SW (allB (Yr c)) c.fr pl (b':=b1) (x':=x1) (y':=y1) (z':=z1) 0 (allB (Yr c)).length;rw[e2];obtain⟨b3,x3,y3,z3,e3,h3⟩:=SX pl (b':=b2) (x':=x2) (y':=y2) (z':=z2) (Z3 c);rw[e3];refine⟨b3,x3,y3,z3,rfl,?_⟩;rw[h3,h2,h1];simp only[bf,eu,true_implies,hck,true_and];unfold JOk;constructor
  ·rintro⟨g1,g2,g3⟩;exact⟨fun x y h=>g1 (x,y) (Q2.2 h),g2,g3⟩
  ·rintro⟨g1,g2,g3⟩;exact⟨fun p h=>g1 p.1 p.2 (Q2.1 h),g2,g3⟩
 ·rw[if_neg hck];exact⟨false,1, -1, -1,rfl,by simp[hck]⟩
def FC:List EV→Option (Prop×Yw)
 |[v]=>(match Kn v with|some c=>some (GI c∧CW c, .val (CE c))|none=>none)
 |_=>none
def sq:Dw.Spec:=Xo 31 FC sjd
theorem cZ:XA Tryz.prog sq:=by
 refine Xp ⟨⟨_,Tryz.func31,rfl,rfl⟩⟩ (fun vs p r h hp=>?_) XM;unfold FC at h;split at h
 ·split at h
  ·rename_i c hc;simp only[ab,af]at h;obtain⟨rfl,rfl⟩:=h;rw[Yf hc];exact Fc c hp.1 hp.2
  ·cases h
 ·cases h
theorem No(c:Cz)(hc0:GI c)(hev:CW c):∃b:Bool,(b=true↔XV (Yr c)=true∧JOk (allB (Yr c)) c.fr c.od (X5 c.fr.length c.od))∧Xq Tryz.prog 10 [X9 c] (.val (bV b)):=by
 have bok:=eq_true hc0;have bev:=eq_true hev;obtain⟨b,x,y,z,e,hb⟩:=qq c;refine⟨b,hb,?_⟩;unfold X9;refine Xk (rs:=[.tmp 2]) (Xl _) Tryz.func10 rfl Tryz.ntmps10 rfl (by simp) ?_;refine Wa cZ fun K J=>?_;simp;apply J;clear J K;refine Wa cZ fun K J=>?_;simp[sq,Xo,FC,Xu,bok,bev,e,Z7];apply J;clear J K;refine Wp.ret ?_;simp
def mF:List EV→Option (Prop×Yw)
 |[v]=>(match Kn v with|some c=>some (GI c∧YC c=true, .val (sV (decide ((Xh c.hs).length=0)) 14 (XS (Xh c.hs))))|none=>none)
 |_=>none
def FA:List EV→Option (Prop×Yw)
 |[.one (.c (.sl _ 1 [[.sc (.int .i64 (-1))]])), .one (.c (.sc (.int .i64 n)))]=>some (1≤n∧n≤8, .row false 3 1 (Xj (List.replicate n.toNat (-1))))
 |_=>none
def sp:Dw.Spec:=Xo 32 mF (Xo 33 FA sz1)
theorem Ys:XA Tryz.prog sp:=by
 refine Xp ⟨⟨_,Tryz.func32,rfl,rfl⟩⟩ (fun vs p r h hp=>?_) (Xp ⟨⟨_,Tryz.func33,rfl,rfl⟩⟩ (fun vs p r h hp=>?_) JR)
 ·unfold mF at h;split at h
  ·split at h
   ·rename_i c hc;simp only[ab,af]at h;obtain⟨rfl,rfl⟩:=h;rw[Yf hc];exact O7 c hp.1 hp.2
   ·cases h
  ·cases h
 ·unfold FA at h;split at h
  ·rename_i n;simp only[ab,af]at h;obtain⟨rfl,rfl⟩:=h;obtain⟨m,rfl⟩:∃m:Nat,n=m:=⟨n.toNat,by omega⟩;exact Fi _ m (by omega) (by omega)
  ·cases h
theorem Aq(l:List Int)(i:Nat)(v:Int):(Xj l).set i [.sc (.int .i64 v)]=Xj (l.set i v):=by simp[Xj]
theorem Lw(c:Cz)(hc0:GI c):Xq Tryz.prog 11 [X9 c] (.val (bV (Y9 c))):=by
 have bok:=eq_true hc0;generalize hR:Y9 c=R;cases hck:YC c
 ·obtain rfl:R=false:=by rw[←hR,Y9,hck];rfl
  unfold X9;refine Xk (rs:=[.tmp 2]) (Xl _) Tryz.func11 rfl Tryz.ntmps11 rfl (by simp) ?_;refine Wa Ys fun K J=>?_;simp;apply J;clear J K;refine We fun S Y=>?_;refine Wa Ys fun K J=>?_;simp[sp,sz1,Xo,Hv,Xu,bok,hck,Yh];apply J;clear J K;refine Wt (by simp) ?_;refine Wa Ys fun K J=>?_;simp;apply J;clear J K;refine Wp.ret ?_;simp
 have hlen:1≤c.hs.length∧c.hs.length≤8:=by
  have:=hck;unfold YC at this;simp only[aj,al]at this;exact this.2.1
 have hlen1:(1:Int)≤c.hs.length:=by omega
 have hlen8:(c.hs.length:Int)≤8:=by omega
 have hfl:c.fr.length=(Xh c.hs).length:=by
  have:=hck;unfold YC at this;simp only[aj,al]at this;exact this.2.2.2.1
 have hod:∀k∈c.od,0≤k∧k<(Xh c.hs).length:=by
  have:=hck;unfold YC at this;simp only[aj,al]at this;have:=Fp this.2.2.2.2.2;simpa[Y3]using this
 have hht:∀x∈Xh c.hs,0≤x.e.hart∧x.e.hart<c.hs.length:=fun x hx=>L6 hck hx;have hodl:=hc0.od;have hall:=hc0.all;unfold X9;refine Xk (rs:=[.tmp 2]) (Xl _) Tryz.func11 rfl Tryz.ntmps11 rfl (by simp) ?_;refine We fun S Y=>?_
 first|refine Wa Ys fun K J=>?_|refine Wb Ys fun K J=>?_|refine Wc Ys [] fun K J=>?_|refine Wd Ys [] fun K J=>?_
 simp;apply J;clear J K;apply Y;clear Y S;refine Wp.frzBox (b:=1) (cs:=c.cv) rfl rfl ?_;change Wp _ _ _ _ (⟨[(0,X9 c),(1,cA c),(2,bV false)],[]⟩:St);refine We fun S Y=>?_;refine Wa Ys fun K J=>?_;simp[sp,sz1,Xo,Hv,Xu,bok,hck,Yh];apply J;clear J K;refine Wf (by simp) ?_;refine Wp.skip ?_;apply Y;clear Y S;refine Wa Ys fun K J=>?_;simp[sp,Xo,mF,Xu,bok,hck];apply J;clear J K;refine We fun S Y=>?_
 skip
 first|refine Wp.rkF (Xl _) Ys [16] [] rfl fun K J=>?_|refine Wp.rlF (Xl _) Ys [16] [] rfl fun K J=>?_
 simp[CA,S5,jT,kB,Vx,IK,Bc,Dw.del,sp,Xo,FA,Xm,hlen1,hlen8];apply J;clear J K;apply Y;clear Y S;refine Wa Ys fun K J=>?_;simp;apply J;clear J K;refine We fun S Y=>?_;refine Wa Ys fun K J=>?_;simp[Xg];apply J;clear J K;refine Wp.block ?_;generalize hal:Xh c.hs=all at*
 generalize hzz:decide (all=[])=zz at*
 rw[Y9,hck,ce,hal]at hR;refine Wp.loop (fun k s=>∃(j:Nat) (at_:List Int) (by_:List (Int×Int)),j+k=c.od.length∧at_.length=c.hs.length∧Jd (all.map Ez.e) c.fr (c.od.drop j) at_ by_=R∧
   s=⟨[(1,cA c),(2,bV false),(3,sV zz 14 (XS all)),(4, .one (.own 20)),(5, .one (.map 21)),(23,sV c.z4 1 (Xj c.od)),(24,iV .i64 c.od.length),(25,iV .i64 j)],[(20, .row false 3 1 (Xj at_)),(21, .map (Rg by_))]⟩)
  c.od.length (s0:=⟨[(1,cA c),(2,bV false),(3,sV zz 14 (XS all)),(4, .one (.own 20)),(5, .one (.map 21)),(23,sV c.z4 1 (Xj c.od)),(24,iV .i64 c.od.length),(25,iV .i64 (0:Nat))],[(20, .row false 3 1 (Xj (List.replicate c.hs.length (-1)))),(21, .map [])]⟩) ?_ ⟨0,List.replicate c.hs.length (-1),[],by simp,by simp,by simpa using hR,rfl⟩ fun k s ⟨j,at_,by_,hjk,hal_,hr,hs⟩=>?_
 ·apply Go1<;>simp
 subst hs;refine Wa Ys fun K J=>?_;simp;apply J;clear J K;refine We fun S Y=>?_;refine Wp.cond rfl (fun hc=>?_) (fun hc=>?_)
 ·have hj:j<c.od.length:=by simpa using hc
  have hw:IntKind.i64.wrap ((j:Int)+1)=(j+1:Nat):=by rw[wrap_small]<;>omega
  rw[bj hj]at hr;unfold Jd at hr;obtain⟨o1,o2⟩:=hod _ (ba hj);have o3:(c.od[j]).toNat<all.length:=by omega
  have o4:(c.od[j]).toNat<c.fr.length:=by omega
  have o5:c.od[j]<(c.fr.length:Int):=by omega
  have hge:(all.map Ez.e).getD (c.od[j]).toNat default=all[(c.od[j]).toNat].e:=by simp[aa o3]
  have hgf:c.fr.getD (c.od[j]).toNat 0=c.fr[(c.od[j]).toNat]:=by simp[aa o4]
  obtain⟨t1,t2⟩:=hht _ (ba o3);simp only[hge,hgf]at hr;refine Wp.skip ?_;apply Y;clear Y S;refine We fun S Y=>?_;refine Wp.block ?_;refine Wa Ys fun K J=>?_;simp[hj,Xg,Xf];apply J;clear J K;refine Wa Ys fun K J=>?_;simp[Xe,Xd,o1,o2,o3,Ez.cv];apply J;clear J K;refine We fun S Y=>?_;refine We fun S Y=>?_;generalize hx:all[(c.od[j]).toNat]=x at*
  have t3:x.e.hart.toNat<at_.length:=by omega
  have t4:x.e.hart<(at_.length:Int):=by omega
  have hga:at_.getD x.e.hart.toNat 0=at_[x.e.hart.toNat]:=by simp[aa t3]
  rw[hga]at hr;by_cases k1:x.e.pos<at_[x.e.hart.toNat]
  ·rw[if_pos k1]at hr
   ((first|refine Wa Ys fun K J=>?_|refine Wb Ys fun K J=>?_|refine Wc Ys [] fun K J=>?_|refine Wd Ys [] fun K J=>?_);simp[t1,t3,t4,Xg,Xf,k1];apply And.intro;(·kernel_rfl);with_reducible refine J _ ?_;clear J K)
   apply Y;clear Y S;refine Wt (by simp) ?_;refine Wa Ys fun K J=>?_;simp;apply J;clear J K;refine Wp.ret ?_;simp;exact hr.symm
  rw[if_neg k1]at hr
  ((first|refine Wa Ys fun K J=>?_|refine Wb Ys fun K J=>?_|refine Wc Ys [] fun K J=>?_|refine Wd Ys [] fun K J=>?_);simp[t1,t3,t4,Xg,Xf,k1];apply And.intro;(·kernel_rfl);with_reducible refine J _ ?_;clear J K)
  apply Y;clear Y S;refine Wf (by simp) ?_;refine Wp.skip ?_;apply Y;clear Y S;refine Wa Ys fun K J=>?_;simp[t1,t3,t4,Xg,Xf,Aq];apply J;clear J K;refine We fun S Y=>?_;have hmc:(Kp x.e.addr by_ 0=none∧Gp x.e.addr by_= -1)∨∃i' v',Kp x.e.addr by_ 0=some (i',v')∧Gp x.e.addr by_=v':=by
   unfold Gp;cases Kp x.e.addr by_ 0 with
   |none=>exact .inl ⟨rfl,rfl⟩
   |some q=>exact .inr ⟨q.1,q.2,rfl,rfl⟩
  rcases hmc with⟨hm,hg⟩|⟨i',v',hm,hg⟩
  all_goals
   rw[hg]at hr;cases hrd:XE x.e.kind
   ·have hrd':¬(x.e.reads=true):=by unfold Ev.reads;rw[hrd];simp
    rw[if_neg (fun q=>hrd' q.1)]at hr;cases hwr:Xt x.e.kind
    ·have hwr':¬(x.e.writes=true):=by unfold Ev.writes;rw[hwr];simp
     rw[if_neg hwr']at hr
     repeat(first|((first|refine Wa Ys fun K J=>?_|refine Wb Ys fun K J=>?_|refine Wc Ys [] fun K J=>?_|refine Wd Ys [] fun K J=>?_);simp[JJ,hm,sp,sz1,sy,sw2,sw1,sv2,sv1,sp6,sp5,sp4,sp3,sp2,Xo,Jh,Vb,X2,unS,Xa,Ev.eta,hrd,hwr,hw];first|done|(with_reducible refine J _ ?_;clear J K)|(apply And.intro;(·kernel_rfl);with_reducible refine J _ ?_;clear J K))|refine We fun S Y=>?_|refine Wp.block ?_|refine Wp.skip ?_|(apply Wt;· (simp;done))|(apply Wf;· (simp;done))|(apply Y;clear Y S)|(clear Y S;apply Y;clear Y S))
     refine⟨⟨[(1,cA c),(2,bV false),(3,sV zz 14 (XS all)),(4, .one (.own 20)),(5, .one (.map 21)),(23,sV c.z4 1 (Xj c.od)),(24,iV .i64 c.od.length),(25,iV .i64 (j+1:Nat))],[(20, .row false 3 1 (Xj (at_.set x.e.hart.toNat x.e.pos))),(21, .map (Rg by_))]⟩,k - 1,?_,by omega,j+1,at_.set x.e.hart.toNat x.e.pos,by_,by omega,by simpa using hal_,hr,rfl⟩;apply Go1<;>simp
    ·have hwr':x.e.writes=true:=by unfold Ev.writes;exact hwr
     rw[if_pos hwr']at hr
     repeat(first|((first|refine Wa Ys fun K J=>?_|refine Wb Ys fun K J=>?_|refine Wc Ys [] fun K J=>?_|refine Wd Ys [] fun K J=>?_);simp[JJ,hm,sp,sz1,sy,sw2,sw1,sv2,sv1,sp6,sp5,sp4,sp3,sp2,Xo,Jh,Vb,X2,unS,Xa,Ev.eta,hrd,hwr,hw];first|done|(with_reducible refine J _ ?_;clear J K)|(apply And.intro;(·kernel_rfl);with_reducible refine J _ ?_;clear J K))|refine We fun S Y=>?_|refine Wp.block ?_|refine Wp.skip ?_|(apply Wt;· (simp;done))|(apply Wf;· (simp;done))|(apply Y;clear Y S)|(clear Y S;apply Y;clear Y S))
     refine⟨⟨[(1,cA c),(2,bV false),(3,sV zz 14 (XS all)),(4, .one (.own 20)),(5, .one (.map 21)),(23,sV c.z4 1 (Xj c.od)),(24,iV .i64 c.od.length),(25,iV .i64 (j+1:Nat))],[(20, .row false 3 1 (Xj (at_.set x.e.hart.toNat x.e.pos))),(21, .map (Rg (QZ x.e.addr c.od[j] by_)))]⟩,k - 1,?_,by omega,j+1,at_.set x.e.hart.toNat x.e.pos,QZ x.e.addr c.od[j] by_,by omega,by simpa using hal_,hr,rfl⟩;apply Go1<;>simp;simp[QZ,hm,Rg]
   ·have hrd':x.e.reads=true:=by unfold Ev.reads;exact hrd
    by_cases k2:Gp x.e.addr by_=c.fr[(c.od[j]).toNat]
    ·rw[hg]at k2;rw[if_neg (fun q=>q.2 k2)]at hr;have qk2:=eq_true k2;have qk3:=eq_true k2.symm;cases hwr:Xt x.e.kind
     ·have hwr':¬(x.e.writes=true):=by unfold Ev.writes;rw[hwr];simp
      rw[if_neg hwr']at hr
      repeat(first|((first|refine Wa Ys fun K J=>?_|refine Wb Ys fun K J=>?_|refine Wc Ys [] fun K J=>?_|refine Wd Ys [] fun K J=>?_);simp[JJ,hm,sp,sz1,sy,sw2,sw1,sv2,sv1,sp6,sp5,sp4,sp3,sp2,Xo,Jh,Vb,X2,unS,Xa,Ev.eta,hrd,hwr,hw,qk2,o1,o4,o5,Xg,Xf];first|done|(with_reducible refine J _ ?_;clear J K)|(apply And.intro;(·kernel_rfl);with_reducible refine J _ ?_;clear J K))|refine We fun S Y=>?_|refine Wp.block ?_|refine Wp.skip ?_|(apply Wt;· (simp;done))|(apply Wf;· (simp;done))|(apply Y;clear Y S)|(clear Y S;apply Y;clear Y S))
      refine⟨⟨[(1,cA c),(2,bV false),(3,sV zz 14 (XS all)),(4, .one (.own 20)),(5, .one (.map 21)),(23,sV c.z4 1 (Xj c.od)),(24,iV .i64 c.od.length),(25,iV .i64 (j+1:Nat))],[(20, .row false 3 1 (Xj (at_.set x.e.hart.toNat x.e.pos))),(21, .map (Rg by_))]⟩,k - 1,?_,by omega,j+1,at_.set x.e.hart.toNat x.e.pos,by_,by omega,by simpa using hal_,hr,rfl⟩;apply Go1<;>simp
     ·have hwr':x.e.writes=true:=by unfold Ev.writes;exact hwr
      rw[if_pos hwr']at hr
      repeat(first|((first|refine Wa Ys fun K J=>?_|refine Wb Ys fun K J=>?_|refine Wc Ys [] fun K J=>?_|refine Wd Ys [] fun K J=>?_);simp[JJ,hm,sp,sz1,sy,sw2,sw1,sv2,sv1,sp6,sp5,sp4,sp3,sp2,Xo,Jh,Vb,X2,unS,Xa,Ev.eta,hrd,hwr,hw,qk2,o1,o4,o5,Xg,Xf];first|done|(with_reducible refine J _ ?_;clear J K)|(apply And.intro;(·kernel_rfl);with_reducible refine J _ ?_;clear J K))|refine We fun S Y=>?_|refine Wp.block ?_|refine Wp.skip ?_|(apply Wt;· (simp;done))|(apply Wf;· (simp;done))|(apply Y;clear Y S)|(clear Y S;apply Y;clear Y S))
      refine⟨⟨[(1,cA c),(2,bV false),(3,sV zz 14 (XS all)),(4, .one (.own 20)),(5, .one (.map 21)),(23,sV c.z4 1 (Xj c.od)),(24,iV .i64 c.od.length),(25,iV .i64 (j+1:Nat))],[(20, .row false 3 1 (Xj (at_.set x.e.hart.toNat x.e.pos))),(21, .map (Rg (QZ x.e.addr c.od[j] by_)))]⟩,k - 1,?_,by omega,j+1,at_.set x.e.hart.toNat x.e.pos,QZ x.e.addr c.od[j] by_,by omega,by simpa using hal_,hr,rfl⟩;apply Go1<;>simp;simp[QZ,hm,Rg]
    ·rw[hg]at k2;rw[if_pos ⟨hrd',k2⟩]at hr;have qk2:=bh k2;have qk3:=bh (Ne.symm k2)
     repeat(first|((first|refine Wa Ys fun K J=>?_|refine Wb Ys fun K J=>?_|refine Wc Ys [] fun K J=>?_|refine Wd Ys [] fun K J=>?_);simp[JJ,hm,sp,sz1,sy,sw2,sw1,sv2,sv1,sp6,sp5,sp4,sp3,sp2,Xo,Jh,X2,unS,Xa,Ev.eta,hrd,qk2,o1,o4,o5,Xg,Xf];first|done|(with_reducible refine J _ ?_;clear J K)|(apply And.intro;(·kernel_rfl);with_reducible refine J _ ?_;clear J K))|refine We fun S Y=>?_|refine Wp.block ?_|refine Wp.skip ?_|(apply Wt;· (simp;done))|(apply Wf;· (simp;done))|(apply Y;clear Y S)|(clear Y S;apply Y;clear Y S))
     refine Wp.ret ?_;simp;exact hr.symm
 ·have hj:¬j<c.od.length:=by simpa using hc
  refine Wp.exit ?_;simp only[XW,XG,if_true];rw[cg (by omega)]at hr;clear Y S;apply Y;clear Y S;refine Wa Ys fun K J=>?_;simp;apply J;clear J K;refine Wp.ret ?_;simp;exact hr.symm
end Go.Proofs.YtbkpmfjfpcoehaaGreatDoor
namespace Go.Proofs.YtbkpmfjfpcoehaaGreatDoor
open Go Go.RowKit Dw
set_option maxRecDepth 100000
open Classical in
noncomputable def okB(c:Cz):Bool:=decide (XV (Yr c)=true∧JOk (allB (Yr c)) c.fr c.od (X5 c.fr.length c.od))
theorem T3(c:Cz):okB c=true↔XV (Yr c)=true∧JOk (allB (Yr c)) c.fr c.od (X5 c.fr.length c.od):=by simp[okB]
theorem NT(c:Cz)(hc0:GI c)(hev:CW c):Xq Tryz.prog 10 [X9 c] (.val (bV (okB c))):=by
 obtain⟨b,hb,h⟩:=No c hc0 hev;have:okB c=b:=by
  rw[eg,T3];exact hb.symm
 rw[this];exact h
def mC:List EV→Option (Prop×Yw)
 |[]=>some (Xq Tryz.prog 4 [] (.val (bV true)), .val (bV true))
 |_=>none
def Uc:List EV→Option (Prop×Yw)
 |[v, .one (.c (.sc (.int .i64 n)))]=>(match Kn v with|some c=>some (n=30, .val (bV (DP c)))|none=>none)
 |_=>none
noncomputable def bT:List EV→Option (Prop×Yw)
 |[v]=>(match Kn v with|some c=>some (GI c∧CW c, .val (bV (okB c)))|none=>none)
 |_=>none
def ZA:List EV→Option (Prop×Yw)
 |[v]=>(match Kn v with|some c=>some (GI c, .val (bV (Y9 c)))|none=>none)
 |_=>none
def H4(es:List Ev):Nat→Int
 |0=>-1
 |i+1=>if(es.getD i default).kind=3 then i else if(es.getD i default).kind=4 then -1 else H4 es i
theorem LZ{es:List Ev}{i p:Nat}(h:H4 es i=p):p<i∧(es.getD p default).kind=3∧∀m,p<m→m<i→(es.getD m default).kind≠3∧(es.getD m default).kind≠4:=by
 induction i with
 |zero=>simp[H4]at h
 |succ i ih=>
  unfold H4 at h;split at h
  ·rename_i h3;obtain rfl:i=p:=by omega
   exact⟨dv _,h3,fun m h1 h2=>by omega⟩
  ·split at h
   ·omega
   ·rename_i h3 h4;obtain⟨g1,g2,g3⟩:=ih h;refine⟨by omega,g2,fun m h1 h2=>?_⟩;rcases cp m i with g|g
    ·exact g3 m h1 g
    ·obtain rfl:m=i:=by omega
     exact⟨h3,h4⟩
theorem N9{es:List Ev}{i p:Nat}(h1:p<i)(h2:(es.getD p default).kind=3)(h3:∀m,p<m→m<i→(es.getD m default).kind≠3∧(es.getD m default).kind≠4):H4 es i=p:=by
 induction i with
 |zero=>omega
 |succ i ih=>
  unfold H4;rcases cp p i with g|g
  ·obtain⟨k1,k2⟩:=h3 i g (dv _);rw[if_neg k1,if_neg k2];exact ih g fun m a b=>h3 m a (by omega)
  ·obtain rfl:p=i:=by omega
   rw[if_pos h2]
theorem Ja(l:List Ez)(i:Nat):(l.map Ez.e).getD i default=(l.getD i default).e:=by
 rw[ac,an,ac];cases l[i]?<;>rfl
theorem Tv(hart:Int)(l:List Ez):∀(n i:Nat),n+i=l.length→(VF hart l i (H4 (l.map Ez.e) i) (l.drop i)=true↔∀j,i≤j→j<l.length→rowAt hart (l.map Ez.e) j=true):=by
 intro n
 induction n with
 |zero=>
  intro i hi;rw[cg (by omega)];exact⟨fun _ j h1 h2=>by omega,fun _=>rfl⟩
 |succ n ih=>
  intro i hi;have hlt:i<l.length:=by omega
  rw[U7 hlt];have hge:(l.map Ez.e).getD i default=l[i].e:=by rw[Ja,ac,aa hlt];rfl
  have hnext:=ih (i+1) (by omega);have hsplit:(∀j,i≤j→j<l.length→rowAt hart (l.map Ez.e) j=true)↔rowAt hart (l.map Ez.e) i=true∧∀j,i+1≤j→j<l.length→rowAt hart (l.map Ez.e) j=true:=by
   constructor
   ·exact fun h=>⟨h i (ak _) hlt,fun j h1 h2=>h j (by omega) h2⟩
   ·rintro⟨h1,h2⟩ j hj hjl;rcases bn hj with g|g
    ·subst g;exact h1
    ·exact h2 j g hjl
  rw[hsplit,←hnext];have hrow:rowAt hart (l.map Ez.e) i=((Xn l[i].e&&(decide (l[i].e.hart=hart)&&decide (l[i].e.pos=i)))&&(decide (l[i].e.kind≠4)||Ie (l.map Ez.e) i)):=by
   unfold rowAt;rw[hge]
  have hlast:H4 (l.map Ez.e) (i+1)=if l[i].e.kind=3 then(i:Int)else if l[i].e.kind=4 then -1 else H4 (l.map Ez.e) i:=by
   show(if((l.map Ez.e).getD i default).kind=3 then _ else _)=_
   rw[hge]
  rw[hrow];cases he:Xn l[i].e
  ·simp
  by_cases hh:l[i].e.hart=hart
  case neg=>simp[hh]
  by_cases hp:l[i].e.pos=(i:Int)
  case neg=>simp[hp]
  by_cases k3:l[i].e.kind=3
  ·rw[if_pos k3]at hlast;rw[hlast];simp[hh,hp,k3]
  by_cases k4:l[i].e.kind=4
  case neg=>
   rw[if_neg k3,if_neg k4]at hlast;rw[hlast];simp[hh,hp,k3,k4]
  rw[if_neg k3,if_pos k4]at hlast;rw[hlast];obtain⟨p1,p2⟩:=Vz he k4;have hsc:Ie (l.map Ez.e) i=true↔l[i].e.pair=H4 (l.map Ez.e) i∧(l.getD (H4 (l.map Ez.e) i).toNat default).e.addr=l[i].e.addr:=by
   unfold Ie;rw[hge];simp only[aj,al,ao,ay];constructor
   ·rintro⟨⟨g1,g2⟩,g3⟩;have hl:=N9 (es:=l.map Ez.e) (i:=i) (p:=l[i].e.pair.toNat) (by omega) g1 (fun m h1 h2=>by
     rcases g3 m h2 with h|h
     ·omega
     ·exact h)
    rw[hl];refine⟨by omega,?_⟩;rw[Ja]at g2;rw[au];exact g2
   ·rintro⟨g1,g2⟩;obtain⟨p,hpn⟩:∃p:Nat,H4 (l.map Ez.e) i=p:=⟨_,(jm (by omega)).symm⟩;obtain⟨s1,s2,s3⟩:=LZ hpn;have hpp:l[i].e.pair.toNat=p:=by omega
    rw[hpp];refine⟨⟨s2,?_⟩,fun k hk=>?_⟩
    ·rw[Ja];rw[hpn]at g2;simpa using g2
    ·rcases cp p k with g|g
     ·exact .inr (s3 k g hk)
     ·exact .inl (by omega)
  have hsc':Ie (l.map Ez.e) i=(l[i].e.pair==H4 (l.map Ez.e) i&&(l.getD (H4 (l.map Ez.e) i).toNat default).e.addr==l[i].e.addr):=by
   rw[eg,hsc];simp
  rw[hsc'];simp[hh,hp,k4]
theorem Lh(hart:Int)(l:List Ez):VF hart l 0 (-1) l=Z2 hart (l.map Ez.e):=by
 rw[eg];have:=Tv hart l l.length 0 rfl;rw[List.drop_zero]at this;refine this.trans ?_;unfold Z2;rw[ao];simp only[ay,ai];exact⟨fun h j hj=>h j (eu _) hj,fun h j _ hj=>h j hj⟩
theorem Fa(l:List (Bool×List Ez)):Jk l 0=(List.range (l.map fun p=>p.2.map Ez.e).length).all fun i=>Z2 i ((l.map fun p=>p.2.map Ez.e).getD i []):=by
 have key:∀(l:List (Bool×List Ez)) (k:Nat),Jk l k=true↔∀i (hi:i<l.length),Z2 ((k+i:Nat):Int) (l[i].2.map Ez.e)=true:=by
  intro l
  induction l with
  |nil=>intro k;exact⟨fun _ i hi=>by simp at hi,fun _=>rfl⟩
  |cons p r ih=>
   intro k;unfold Jk;rw[aj,ih (k+1),Lh];constructor
   ·rintro⟨h1,h2⟩ i hi;cases i with
    |zero=>exact h1
    |succ i=>
     have:=h2 i (by simpa using hi);rw[show k+(i+1)=k+1+i by omega];exact this
   ·intro h;refine⟨h 0 (by simp),fun i hi=>?_⟩;have:=h (i+1) (by simpa using hi);rw[show k+(i+1)=k+1+i by omega]at this;exact this
 rw[eg,key l 0,ao];simp only[ay,ai];constructor
 ·intro h i hi;have:=h i hi;rw[bf]at this;rw[ac,an,aa hi];exact this
 ·intro h i hi;have:=h i hi;rw[ac,an,aa hi]at this;rw[bf];exact this
theorem TV{left:List Bool}{n:Int}{l:List Int}:P5 left n l=true↔(∀k∈l,0≤k∧k<left.length∧left.getD k.toNat false=true)∧l.Nodup∧n=l.length:=by
 induction l generalizing left n with
 |nil=>simp[P5]
 |cons k r ih=>
  unfold P5;split
  ·rename_i h;constructor
   ·intro q;cases q
   ·rintro⟨h1, -, -⟩;obtain⟨g1,g2,g3⟩:=h1 k (br);rcases h with h|h|h
    ·omega
    ·omega
    ·rw[h]at g3;cases g3
  ·rename_i h;rw[not_or,not_or]at h;obtain⟨g1,g2,g3⟩:=h;have g3:left.getD k.toNat false=true:=by simpa using g3
   have hk:k.toNat<left.length:=by omega
   rw[ih,ek];have hset:∀j:Int,0≤j→((left.set k.toNat false).getD j.toNat false=true↔j≠k∧left.getD j.toNat false=true):=by
    intro j hj;rw[ac,cq,ac];by_cases hjk:k.toNat=j.toNat
    ·rw[if_pos hjk,if_pos hk];simp;intro q;omega
    ·rw[if_neg hjk];constructor
     ·exact fun q=>⟨by intro e;subst e;exact hjk rfl,q⟩
     ·exact fun q=>q.2
   constructor
   ·rintro⟨h1,h2,h3⟩;refine⟨fun j hj=>?_,⟨fun hm=>?_,h2⟩,by simp;omega⟩
    ·rcases av.1 hj with rfl|hj
     ·exact⟨by omega,by omega,g3⟩
     ·obtain⟨a,b,c⟩:=h1 j hj;rw[jb]at b;exact⟨a,b,((hset j a).1 c).2⟩
    ·obtain⟨a,b,c⟩:=h1 k hm;exact((hset k a).1 c).1 rfl
   ·rintro⟨h1,⟨h2,h3⟩,h4⟩;refine⟨fun j hj=>?_,h3,by simp at h4;omega⟩;obtain⟨a,b,c⟩:=h1 j (bc _ hj);refine⟨a,by simpa using b,(hset j a).2 ⟨fun e=>h2 (e▸hj),c⟩⟩
theorem Ph(l:List Ez)(i:Nat)(hi:i<l.length):(Y3 l).getD i false=((l.map Ez.e).getD i default).mem:=by
 unfold Y3;rw[ac,an,aa hi,ac,an,aa hi];rfl
theorem Mj(l:List Ez):countB (Y3 l)=X0 (l.map Ez.e):=by
 unfold countB Y3 X0
 induction l with
 |nil=>rfl
 |cons x r ih=>
  simp only[ft,jx];cases h:x.e.mem<;>simp[ih]
theorem P4(l:List Ez)(od:List Int):JC l od=((List.range od.length).all (G2 (l.map Ez.e) od)&&decide (od.length=X0 (l.map Ez.e))):=by
 have hgd:∀i (hi:i<od.length),od.getD i 0=od[i]:=fun i hi=>by rw[ac,aa hi];rfl
 rw[eg];unfold JC;rw[TV,aj,ao,al,Mj];have hml:(Y3 l).length=l.length:=by simp[Y3]
 constructor
 ·rintro⟨h1,h2,h3⟩;refine⟨fun i hi=>?_,by omega⟩;have hi:=ay.1 hi;unfold G2;rw[hgd i hi];obtain⟨a,b,c⟩:=h1 od[i] (ba hi);rw[hml]at b;rw[Ph l _ (by omega)]at c;simp only[aj,al,ai];refine⟨⟨a,b⟩,fun j hj=>?_,c⟩;rw[hgd j (by omega)];intro e;rw[fw,bx]at h2;exact h2 j i (by omega) hi hj e
 ·rintro⟨h1,h2⟩;have h1':∀i (hi:i<od.length),(0≤od[i]∧od[i]<l.length)∧(∀j (hj:j<i),od[j]≠od[i])∧((l.map Ez.e).getD (od[i]).toNat default).mem=true:=by
   intro i hi;have:=h1 i (ay.2 hi);unfold G2 at this;rw[hgd i hi]at this;simp only[aj,al,ai]at this;refine⟨this.1,fun j hj=>?_,this.2.2⟩;have:=this.2.1 j hj
   rwa[hgd j (by omega)]at this
  refine⟨fun k hk=>?_,?_,by omega⟩
  ·obtain⟨i,hi,rfl⟩:=be hk;obtain⟨⟨a,b⟩, -,c⟩:=h1' i hi;exact⟨a,by rw[hml];exact b,by rw[Ph l _ (by omega)];exact c⟩
  ·rw[fw,bx];intro i j hi hj hij;exact(h1' j hj).2.1 i hij
theorem Kt(c:Cz):YC c=XV (Yr c):=by
 have hfl:(c.hs.map fun p=>p.2.map Ez.e).flatten=(Xh c.hs).map Ez.e:=by
  unfold Xh;simp only[gz,fu];rfl
 unfold YC XV Yr;simp only;rw[hfl,Fa,P4];simp only[ai]
structure Good(es:List Ev)(od:List Int):Prop where
 rng:∀i,i<od.length→0≤od.getD i 0∧(od.getD i 0).toNat<es.length
 inj:∀i j,i<od.length→j<od.length→od.getD i 0=od.getD j 0→i=j
 mem:∀i,i<od.length→(es.getD (od.getD i 0).toNat default).mem=true
 all:∀n:Nat,n<es.length→(es.getD n default).mem=true→∃i,i<od.length∧od.getD i 0=(n:Int)
 row:∀i j,i<j→j<es.length→(es.getD i default).hart=(es.getD j default).hart→(es.getD i default).pos<(es.getD j default).pos∧∀k,i≤k→k≤j→(es.getD k default).hart=(es.getD i default).hart
 hart:∀i,i<es.length→0≤(es.getD i default).hart
 pos:∀i,i<es.length→0≤(es.getD i default).pos
theorem C7{Q P:List Nat}(hn:Q.Nodup)(hs:∀x∈Q,x∈P)(hl:P.length≤Q.length):∀x∈P,x∈Q:=by
 induction Q generalizing P with
 |nil=>
  intro x hx;have:P=[]:=cn (by simpa using hl);subst this;exact hx
 |cons a r ih=>
  rw[ek]at hn;have ha:=hs a br;have hlen:=List.length_erase_of_mem ha;have hpos:0<P.length:=List.length_pos_of_mem ha;intro x hx;by_cases hxa:x=a
  ·subst hxa;exact br
  ·refine bc _ (ih (P:=P.erase a) hn.2 (fun y hy=>?_) ?_ x ((List.mem_erase_of_ne hxa).2 hx))
   ·have:y≠a:=fun e=>hn.1 (e▸hy);exact(List.mem_erase_of_ne this).2 (hs y (bc _ hy))
   ·simp at hl;omega
theorem Hd(es:List Ev):X0 es=((List.range es.length).filter fun n=>(es.getD n default).mem).length:=by
 have h:es=(List.range es.length).map fun n=>es.getD n default:=by
  apply jw (by simp);intro i h1 h2;simp[aa h1]
 unfold X0
 conv=>lhs;rw[h]
 rw[List.filter_map,ai];rfl
theorem Ju.good{c:Cd}(h:Ju c):Good c.harts.flatten c.order:=by
 have hrow:∀n,n<c.harts.flatten.length→∃i k:Nat,i<c.harts.length∧k<(c.harts.getD i []).length∧n=(c.harts.take i).flatten.length+k∧(c.harts.flatten.getD n default).hart=i∧(c.harts.flatten.getD n default).pos=k∧
   ∀j,j<(c.harts.getD i []).length→(c.harts.flatten.getD ((c.harts.take i).flatten.length+j) default).hart=i:=by
  intro n hn;obtain⟨i,k,h1,h2,h3,h4,h5⟩:=h.row hn;have hr:∀j,j<(c.harts.getD i []).length→((c.harts.getD i []).getD j default).hart=i∧((c.harts.getD i []).getD j default).pos=j:=by
   intro j hj;have:=h.rows i h1;rw[Z2,ao]at this;have:=this j (ay.2 hj);simp only[rowAt,aj,al]at this;exact this.1.2
  refine⟨i,k,h1,h2,h3,?_,?_,fun j hj=>by rw[h5 j hj];exact(hr j hj).1⟩
  ·rw[h3,h5 k h2];exact(hr k h2).1
  ·rw[h3,h5 k h2];exact(hr k h2).2
 have hod:∀i,i<c.order.length→(0≤c.order.getD i 0∧c.order.getD i 0<c.harts.flatten.length)∧(∀j,j<i→c.order.getD j 0≠c.order.getD i 0)∧(c.harts.flatten.getD (c.order.getD i 0).toNat default).mem=true:=by
  intro i hi;have:=h.od i hi;simpa only[G2,aj,al]using this
 have hinj:∀i j,i<c.order.length→j<c.order.length→c.order.getD i 0=c.order.getD j 0→i=j:=by
  intro i j hi hj e;rcases jd i j with g|g|g
  ·exact absurd e ((hod j hj).2.1 i g)
  ·exact g
  ·exact absurd e.symm ((hod i hi).2.1 j g)
 refine⟨fun i hi=>⟨(hod i hi).1.1,by have:=(hod i hi).1;omega⟩,hinj,fun i hi=>(hod i hi).2.2,fun n hn hm=>?_,fun i j hij hj he=>?_,fun i hi=>?_,fun i hi=>?_⟩
 ·have hmem:=C7 (Q:=(List.range c.order.length).map fun i=>(c.order.getD i 0).toNat) (P:=(List.range c.harts.flatten.length).filter fun n=>(c.harts.flatten.getD n default).mem) ?_ ?_ ?_ n ?_
  ·simp only[cy,ay]at hmem;obtain⟨i,hi,e⟩:=hmem;have:=(hod i hi).1.1;exact⟨i,hi,by omega⟩
  ·rw[fw,bx];intro i j hi hj hij e;simp only[ai,List.length_range]at hi hj;simp only[List.getElem_map,List.getElem_range]at e;have h1:=(hod i hi).1.1;have h2:=(hod j hj).1.1;have:=hinj i j hi hj (by omega);omega
  ·intro x hx;simp only[cy,ay]at hx;obtain⟨i,hi,rfl⟩:=hx;rw[ct,ay];have:=(hod i hi).1;exact⟨by omega,(hod i hi).2.2⟩
  ·rw[ai,List.length_range,←Hd,h.ol];exact ak _
  ·rw[ct,ay];exact⟨hn,hm⟩
 ·obtain⟨a,x,a1,a2,a3,a4,a5,a6⟩:=hrow i (by omega);obtain⟨b,y,b1,b2,b3,b4,b5,b6⟩:=hrow j hj;have hab:a=b:=by rw[a4,b4]at he;omega
  subst hab;refine⟨by rw[a5,b5];omega,fun k k1 k2=>?_⟩;obtain⟨z,rfl⟩:∃z,k=(c.harts.take a).flatten.length+z:=⟨k - (c.harts.take a).flatten.length,by omega⟩;rw[a6 z (by omega),a4]
 ·obtain⟨a,x,a1,a2,a3,a4,a5,a6⟩:=hrow i hi;rw[a4];omega
 ·obtain⟨a,x,a1,a2,a3,a4,a5,a6⟩:=hrow i hi;rw[a5];omega
theorem Pb{es:List Ev}{od:List Int}(G:Good es od){i n:Nat}(hi:i<od.length)(e:od.getD i 0=(n:Int)):placeOf od od.length n=i:=by
 have key:∀k,i<k→k≤od.length→placeOf od k n=i:=by
  intro k
  induction k with
  |zero=>intro h;omega
  |succ k ih=>
   intro h1 h2;rw[Gg];by_cases hk:od.getD k 0=(n:Int)
   ·rw[if_pos hk];have:=G.inj i k hi (by omega) (by rw[e,hk]);omega
   ·rw[if_neg hk];refine ih ?_ (by omega);rcases bn (fh h1)with g|g
    ·subst g;exact absurd e hk
    ·exact g
 exact key _ hi (ak _)
theorem Pg{a:Int}{l:List (Int×Int)}{i j:Nat}{v:Int}(h:Kp a l i=some (j,v)):i≤j∧l[j - i]? =some (a,v):=by
 induction l generalizing i with
 |nil=>cases h
 |cons q r ih=>
  unfold Kp at h;split at h
  ·rename_i e;simp only[ab,af]at h;obtain⟨rfl,rfl⟩:=h;refine⟨ak _,?_⟩;rw[fp,e];rfl
  ·obtain⟨h1,h2⟩:=ih h;refine⟨by omega,?_⟩;rw[show j - i=(j - (i+1))+1 by omega,fb];exact h2
theorem UM(a v:Int)(l:List (Int×Int))(i:Nat)(h:Kp a l i=none):(Kp a (l++[(a,v)]) i).map (·.2)=some v:=by
 induction l generalizing i with
 |nil=>simp[Kp]
 |cons q r ih=>
  unfold Kp at h;rw[ge];unfold Kp;split at h
  ·cases h
  ·rename_i hne;rw[if_neg hne];exact ih _ h
theorem BW(a b v:Int)(hne:a≠b)(l:List (Int×Int))(i:Nat):(Kp a (l++[(b,v)]) i).map (·.2)=(Kp a l i).map (·.2):=by
 induction l generalizing i with
 |nil=>simp[Kp,hne]
 |cons q r ih=>
  rw[ge];unfold Kp;split
  ·rfl
  ·exact ih _
theorem UL(a v:Int)(l:List (Int×Int))(i j:Nat)(w:Int)(h:Kp a l i=some (j,w)):(Kp a (l.set (j - i) (a,v)) i).map (·.2)=some v:=by
 induction l generalizing i with
 |nil=>cases h
 |cons q r ih=>
  unfold Kp at h;split at h
  ·simp only[ab,af]at h;obtain⟨rfl,rfl⟩:=h;rw[fp,ja];unfold Kp;rw[if_pos rfl];rfl
  ·rename_i hne;have hle:=(Pg h).1;rw[show j - i=(j - (i+1))+1 by omega,List.set_cons_succ];unfold Kp;rw[if_neg hne];exact ih _ h
theorem BV(a b v:Int)(hne:b≠a)(l:List (Int×Int))(i j:Nat)(w:Int)(h:Kp a l i=some (j,w))(i':Nat):(Kp b (l.set (j - i) (a,v)) i').map (·.2)=(Kp b l i').map (·.2):=by
 induction l generalizing i i' with
 |nil=>cases h
 |cons q r ih=>
  unfold Kp at h;split at h
  ·rename_i e;simp only[ab,af]at h;obtain⟨rfl,rfl⟩:=h;rw[fp,ja];unfold Kp;rw[if_neg hne,if_neg (by rw[←e];exact hne)]
  ·have hle:=(Pg h).1;rw[show j - i=(j - (i+1))+1 by omega,List.set_cons_succ];unfold Kp;split
   ·rfl
   ·exact ih _ h _
theorem Hc(a v:Int)(l:List (Int×Int)):Gp a (QZ a v l)=v:=by
 unfold Gp QZ;cases h:Kp a l 0 with
 |none=>simp only;rw[UM a v l 0 h];rfl
 |some q=>obtain⟨j,w⟩:=q;simp only;have:=UL a v l 0 j w h;rw[ji]at this;rw[this];rfl
theorem Gn(a b v:Int)(hne:b≠a)(l:List (Int×Int)):Gp b (QZ a v l)=Gp b l:=by
 unfold Gp QZ;cases h:Kp a l 0 with
 |none=>simp only;rw[BW b a v hne l 0]
 |some q=>obtain⟨j,w⟩:=q;simp only;have:=BV a b v hne l 0 j w h 0;rw[ji]at this;rw[this]
def FV(es:List Ev)(pl:List Int)(n k:Nat):Prop:=
 k≠n∧(es.getD k default).writes=true∧(es.getD k default).addr=(es.getD n default).addr∧
  (((es.getD k default).hart=(es.getD n default).hart∧(es.getD k default).pos<(es.getD n default).pos)∨pl.getD k 0<pl.getD n 0)
theorem Zp(es:List Ev)(pl:List Int)(n:Nat)(k:Nat):(HF es pl n k= -1∧∀m,m<k→¬FV es pl n m)∨
  ∃s:Nat,s<k∧HF es pl n k=s∧FV es pl n s∧∀m,m<k→FV es pl n m→pl.getD m 0≤pl.getD s 0:=by
 induction k with
 |zero=>exact .inl ⟨by simp[HF],fun m h=>by omega⟩
 |succ k ih=>
  rw[Zo];unfold Zq;have hsp:∀best:Int,UE es pl n best k↔FV es pl n k∧(best<0∨pl.getD best.toNat 0<pl.getD k 0):=by
   intro best;unfold UE FV;constructor
   ·rintro⟨a,b,c,d,e⟩;exact⟨⟨a,b,c,d⟩,e⟩
   ·rintro⟨⟨a,b,c,d⟩,e⟩;exact⟨a,b,c,d,e⟩
  rcases ih with⟨h1,h2⟩|⟨s,h1,h2,h3,h4⟩
  ·rw[h1];by_cases hc:UE es pl n (-1) k
   ·rw[if_pos hc];refine .inr ⟨k,dv _,rfl,((hsp _).1 hc).1,fun m hm hcm=>?_⟩;rcases bn (fh hm)with g|g
    ·subst g;exact jz _
    ·exact absurd hcm (h2 m g)
   ·rw[if_neg hc];refine .inl ⟨rfl,fun m hm hcm=>?_⟩;rcases bn (fh hm)with g|g
    ·subst g;exact hc ((hsp _).2 ⟨hcm, .inl (by omega)⟩)
    ·exact h2 m g hcm
  ·rw[h2];by_cases hc:UE es pl n (s:Int) k
   ·rw[if_pos hc];obtain⟨c1,c2⟩:=(hsp _).1 hc;rw[au]at c2;refine .inr ⟨k,dv _,rfl,c1,fun m hm hcm=>?_⟩;rcases bn (fh hm)with g|g
    ·subst g;exact jz _
    ·have:=h4 m g hcm;omega
   ·rw[if_neg hc];refine .inr ⟨s,by omega,rfl,h3,fun m hm hcm=>?_⟩;rcases bn (fh hm)with g|g
    ·subst g;rcases Int.lt_or_le (pl.getD s 0) (pl.getD m 0)with q|q
     ·exact absurd ((hsp _).2 ⟨hcm, .inr (by rw[au];exact q)⟩) hc
     ·exact q
    ·exact h4 m g hcm
theorem Vh{e:Ev}(h:e.writes=true):e.mem=true:=by unfold Ev.mem K9;unfold Ev.writes at h;rw[h];simp
def bF(hs:List (Bool×List Ez)):Prop:=∀p∈hs,∀j (h:j<p.2.length),p.2[j].e.pos=j
theorem L9(p:Bool×List Ez)(r:List (Bool×List Ez)):Xh (p::r)=p.2++Xh r:=by simp[Xh]
theorem Oq(c:Cz):(Xh c.hs).map Ez.e=(Yr c).harts.flatten:=by
 unfold Xh Yr;simp only[gz,fu];rfl
theorem NE{c:Cz}(h:XV (Yr c)=true):bF c.hs:=by
 have CY:=Ju.of h;intro p hp j hj;obtain⟨i,hi,rfl⟩:=be hp;have e:(Yr c).harts.getD i []=c.hs[i].2.map Ez.e:=by
  unfold Yr;simp only;rw[ac,an,aa hi];rfl
 have:=CY.rows i (by unfold Yr;simpa using hi);rw[Z2,ao]at this;have:=this j (ay.2 (by rw[e,ai];exact hj));simp only[rowAt,aj,al]at this;have:=this.1.2.2;rw[e,Ja,ac,aa hj]at this;exact this
theorem AP(l:List (Bool×List Ez)):(Xh l).length=Bh l:=by
 induction l with
 |nil=>rfl
 |cons p r ih=>rw[L9,az,ih];rfl
def kL(c:Cz):Prop:=∀p∈c.hs,∀x∈p.2,(x.z1=true→x.e.da=[])∧(x.z2=true→x.e.dd=[])∧(x.z3=true→x.e.dw=[])
theorem WQ{c:Cz}(hw:kL c)(hf:DP c=true):GI c:=by
 obtain⟨f1,f2,f3,f4,f5,f6⟩:=Mb hf;refine⟨by omega,by omega,by rw[AP];omega,by omega,by omega,fun p hp x hx=>?_⟩;obtain⟨g1,g2⟩:=f6 p hp;obtain⟨q1,q2,q3⟩:=g2 x hx;obtain⟨w1,w2,w3⟩:=hw p hp x hx;exact⟨⟨w1,w2,w3,by omega,by omega,by omega⟩,by omega,by omega,by omega⟩
theorem A8{c:Cz}(h:GI c):CW c:=by
 unfold CW;rw[HP];cases hck:XV (Yr c)
 ·rw[aW hck];exact⟨by simp,fun i hi=>by simp at hi,fun i hi=>by simp at hi⟩
 ·rw[Qt hck];have CY:=Ju.of hck;have hf:=gC h;have hrow:∀n,n<(Yr c).harts.flatten.length→Xn ((Yr c).harts.flatten.getD n default)=true:=by
   intro n hn;obtain⟨i,k,h1,h2,h3,h4,h5⟩:=CY.row hn;simp only[rowAt,aj,al]at h4;rw[h3,h5 k h2];exact h4.1.1
  refine⟨hf.all,fun i hi=>?_,fun i hi=>?_⟩
  ·rw[←Oq]at hi⊢;rw[ai]at hi;rw[Ja,ac,aa hi];obtain⟨p,hp,hx⟩:=Ue (ba hi);exact(h.ev p hp _ hx).2
  ·have:=hrow i hi;unfold Xn at this;rw[aj]at this;obtain⟨-,h2⟩:=this;split at h2
   ·unfold JX at h2;have:=bo h2;omega
   ·rw[aj]at h2;have h2:=h2.2;unfold XQ at h2;rw[aj,al]at h2;have:=h2.1;omega
end Go.Proofs.YtbkpmfjfpcoehaaGreatDoor
namespace Go.Proofs.YtbkpmfjfpcoehaaGreatDoor
open Go Go.RowKit Dw
set_option maxRecDepth 100000
theorem Fg{P:Program}{n:Nat}{fn:Func}{a b c d:Code}{Q:Uy}{st:St}(hb:fn.body=some (.seq a (.seq (.seq b c) d)))(h:∀S:St→Prop,(∀st,Wp P n d Q st→S st)→Wp P n c (XW S Q) st):
  ∃a b c d,fn.body=some (.seq a (.seq (.seq b c) d))∧Wp P n c (XW (Wp P n d Q) Q) st:=⟨a,b,c,d,hb,h _ fun _ h=>h⟩
end Go.Proofs.YtbkpmfjfpcoehaaGreatDoor
namespace Go.Proofs.YtbkpmfjfpcoehaaGreatDoor
open Go Go.RowKit Dw
set_option maxRecDepth 100000
theorem AU{P:Program}{ty:TypeId→Option Ty}(C:KJ P ty){fn:Func}{v:EV}{n:Nat}{M:Nat→Prop}{w:World}{e:Exit}{a:Act}{w':World}{rs:List ResultVar}{R:Ending→World→Prop}(hR:∀w' u,Below w.heap.size w w'→XY w' (fun g=>g<w'.heap.size∧M g) noB v u→R (.returned u) w')(hrs:fn.results.toList=rs)
  (h:ZZ n w.heap.size (fun _=>False) M w (Gx ty rs (.val v)) e a w'):bodyPost P fn R e a w':=by
 subst hrs;obtain⟨st,β,hq,hd,hs,R'⟩:=h;have fin:CU ty fn.results.toList (.val v) st→∃x,(results fn a.tmps).run P w'= .ok x w'∧R (.returned x) w':=by
  intro hfin;unfold CU at hfin;split at hfin
  ·rename_i p l hl;obtain⟨hp,hfin⟩:=hfin;obtain⟨u,hu,hr⟩:=PR C R' hl hp;obtain⟨rfl,href⟩:=hfin;exact⟨u,hu,hR _ _ R'.fr.below (Iu hr href fun g hg=>hg.1)⟩
  ·exact hfin.elim
 cases e with
 |normal=>obtain⟨x,h1,h2⟩:=fin hq;exact⟨hd,x,h1,h2⟩
 |ret=>obtain⟨x,h1,h2⟩:=fin hq;exact⟨hd,x,h1,h2⟩
 |_=>exact hq.elim
theorem Th{P:Program}{A B X D:Code}{Q Q1:Exit→Act→World→Prop}{a:Act}{w:World}(h01:A.wp P (Exit.then (B.wp P Q1) fun _ _ _=>False) a w)(h2:∀e a' w',Q1 e a' w'→Exit.then (X.wp P (Exit.then (D.wp P Q) Q)) (Exit.then (D.wp P Q) Q) e a' w'):(Code.seq A (.seq (.seq B X) D)).wp P Q a w:=by
 refine wp_seq (wp_mono h01 fun e a' w' h=>?_);cases e with
 |normal=>exact wp_seq (wp_seq (wp_mono h h2))
 |_=>exact h.elim
section
section
variable {H:Type} {enc:TypeId×Value→H} {w:World} {base:Nat} {spare:Nat→Bool} {held:Bool}
abbrev InW(w:World):Nat→Prop:=fun g=>g<w.heap.size
theorem cell_lt{a:Addr}{v:Value}(h:w.cell? a=some v):a.block<w.heap.size:=by
 unfold World.cell? at h;split at h
 ·rename_i hh;exact(aw.1 hh).1
 ·cases h
theorem PJ{P:Program}{α:Type}{g:α→List Cv}{Q:α→Prop}{t e:TypeId}{esz fuel:Nat}{cs:List Value}{x:DataW H×List MemPlace}(ht:P.underlying t=some (.slice e))(hc:P.cellsOf e=esz)
  (hel:∀n cs' y,DataW.trod enc P w base spare held n e cs'=some y→cs'.length=esz→∃a,Q a∧(g a).length=esz∧Yx (XH w (InW w)) (g a) cs')
  (h:DataW.trod enc P w base spare held fuel t cs=some x):∃(z:Bool) (xs:List α) (v:Value),cs=[v]∧(z=true→xs=[])∧(∀x∈xs,Q x)∧XH w (InW w) (.sl z esz (xs.map g)) v:=by
 rcases Go.Deep.open_slice ht h with⟨rfl, -⟩|⟨a,len,cap,m,n,D,Pl,rfl, -,hl, -,hm, -,hx⟩
 ·exact⟨true,[],_,rfl,fun _=>rfl,by simp, .nil⟩
 rcases gg len with h0|h0
 ·subst h0;exact⟨false,[],_,rfl,(by intro h;cases h),by simp, .sl (fun _ _=>undef) rfl hl (fun i es h=>by simp at h) (fun i j c h=>by simp[Dw.cellAt]at h) fun i j c h=>by simp[Dw.cellAt]at h⟩
 have hlm:len≤m:=by rw[hm];split<;>omega
 have get:∀i,i<len→∃p:α×List Value,Q p.1∧(g p.1).length=esz∧Yx (XH w (InW w)) (g p.1) p.2∧∀j,j<esz→w.cell? (a.add (i*esz+j))=p.2[j]?:=by
  intro i hi;obtain⟨cs',c1,c2⟩:=hx i (by omega);obtain⟨-,c3,c4⟩:=World.cells?_some c1;rw[hc]at c3 c4;obtain⟨y,q1,q2,q3⟩:=hel n cs' _ c2 c3;refine⟨(y,cs'),q1,q2,q3,fun j hj=>?_⟩;have:=c4 j hj
  rwa[Go.Deep.add_add]at this
 obtain⟨p0, -⟩:=get 0 h0;have h1:∀i,∃p:α×List Value,i<len→Q p.1∧(g p.1).length=esz∧Yx (XH w (InW w)) (g p.1) p.2∧∀j,j<esz→w.cell? (a.add (i*esz+j))=p.2[j]?:=by
  intro i;by_cases hi:i<len
  ·obtain⟨p,hp⟩:=get i hi;exact⟨p,fun _=>hp⟩
  ·exact⟨p0,fun h=>absurd h hi⟩
 obtain⟨f,hf⟩:=Classical.axiomOfChoice h1;have hat:∀i es,(((List.range len).map fun i=>(f i).1).map g)[i]? =some es→i<len∧es=g (f i).1:=by
  intro i es h;rw[fu,an]at h;by_cases hi:i<len
  ·rw[List.getElem?_range hi]at h;simp only[bt,ab]at h;exact⟨hi,h.symm⟩
  ·rw[gf (by simpa using hi)]at h;cases h
 have hcell:∀i j c,Dw.cellAt (((List.range len).map fun i=>(f i).1).map g) i j=some c→∃v,(f i).2[j]? =some v∧XH w (InW w) c v∧w.cell? (a.add (i*esz+j))=some v:=by
  intro i j c h;unfold Dw.cellAt at h;obtain⟨es,h2,h3⟩:=Option.bind_eq_some_iff.1 h;obtain⟨hi,rfl⟩:=hat i es h2;obtain⟨q1,q2,q3,q4⟩:=hf i hi;obtain⟨v,v1,v2⟩:=q3.get h3;have hj:j<esz:=by rw[←q2];exact(ah.1 h3).1
  exact⟨v,v1,v2,by rw[q4 j hj,v1]⟩
 refine⟨false,(List.range len).map fun i=>(f i).1,_,rfl,(by intro h;cases h),fun x hx=>?_, .sl (fun i j=>((f i).2[j]?).getD undef) (by simp) hl (fun i es h=>?_) (fun i j c h=>?_) (fun i j c h=>?_)⟩
 ·obtain⟨i,hi,rfl⟩:=cy.1 hx;exact(hf i (ay.1 hi)).1
 ·obtain⟨hi,rfl⟩:=hat i es h;exact(hf i hi).2.1
 ·obtain⟨v,v1,v2,v3⟩:=hcell i j c h;have hb:=cell_lt v3;rw[add_block]at hb;exact⟨hb,by rw[v3,v1];rfl⟩
 ·obtain⟨v,v1,v2,v3⟩:=hcell i j c h;rw[v1];exact v2
theorem Gv{fuel:Nat}{cs:List Value}{x:DataW H×List MemPlace}(h:DataW.trod enc Tryz.prog w base spare held fuel 24 cs=some x):∃(z:Bool) (xs:List Int) (v:Value),cs=[v]∧(z=true→xs=[])∧XH w (InW w) (.sl z 1 (Xj xs)) v:=by
 obtain⟨z,xs,v,h1,h2, -,h3⟩:=PJ (g:=fun x:Int=>[Cv.sc (.int .i64 x)]) (Q:=fun _=>True) Tryz.underlying24 (by kernel_rfl) (fun n cs' y hy hl=>by
  obtain⟨k,rfl, -⟩:=fe Tryz.underlying3 hy;exact⟨k,trivial,rfl, .cons (.sc rfl) .nil⟩) h
 exact⟨z,xs,v,h1,h2,h3⟩
theorem fld{P:Program}{n t:Nat}{cs:List Value}{xs:List (DataW H×List MemPlace)}{i:Nat}(h:DataW.trod enc P w base spare held n t cs=xs[i]?)(hi:i<xs.length):∃y,DataW.trod enc P w base spare held n t cs=some y:=⟨_,by rw[h,aa hi]⟩
theorem Ms{fuel:Nat}{cs:List Value}{x:DataW H×List MemPlace}(h:DataW.trod enc Tryz.prog w base spare held fuel 22 cs=some x):∃(z:Bool) (xs:List (Int×Int)) (v:Value),cs=[v]∧XH w (InW w) (.sl z 2 (Y1 xs)) v:=by
 have c38:Tryz.prog.cellsOf 27=1:=by kernel_rfl
 obtain⟨z,xs,v,h1, -, -,h3⟩:=PJ (g:=fun x:Int×Int=>[Cv.sc (.int .u64 x.1),Cv.sc (.int .u64 x.2)]) (Q:=fun _=>True) (esz:=2) Tryz.underlying22 (by kernel_rfl) (fun n cs' y hy hl=>by
  obtain⟨ys,m, -, -, -,hn,hf⟩:=jr Tryz.underlying70 hy;have f0:=hf 0 _ rfl;have f1:=hf 1 _ rfl
  match cs',hl with
  |[u,v],_=>
   obtain⟨y0,e0⟩:=fld f0 (by rw[hn];decide);obtain⟨y1,e1⟩:=fld f1 (by rw[hn];decide);simp[c38]at e0 e1;obtain⟨a,ha, -⟩:=fe Tryz.underlying27 e0;obtain⟨b,hb, -⟩:=fe Tryz.underlying27 e1;simp at ha hb;subst ha;subst hb;exact⟨(a,b),trivial,rfl, .cons (.sc rfl) (.cons (.sc rfl) .nil)⟩) h
 exact⟨z,xs,v,h1,h3⟩
def Ez.W(x:Ez):Prop:=(x.z1=true→x.e.da=[])∧(x.z2=true→x.e.dd=[])∧(x.z3=true→x.e.dw=[])
theorem WM{n:Nat}{cs:List Value}{y:DataW H×List MemPlace}(hy:DataW.trod enc Tryz.prog w base spare held n 38 cs=some y)(hl:cs.length=14):∃x:Ez,x.W∧x.cv.length=14∧Yx (XH w (InW w)) x.cv cs:=by
 have c38:Tryz.prog.cellsOf 27=1:=by kernel_rfl
 have c3:Tryz.prog.cellsOf 3=1:=by kernel_rfl
 have c4:Tryz.prog.cellsOf 4=1:=by kernel_rfl
 have c24:Tryz.prog.cellsOf 24=1:=by kernel_rfl
 have c65:Tryz.prog.cellsOf 36=3:=by kernel_rfl
 obtain⟨ys,m, -, -, -,hn,hf⟩:=jr Tryz.underlying38 hy;have hn:ys.length=12:=hn
 match cs,hl with
 |[u0,u1,u2,u3,u4,u5,u6,u7,u8,u9,u10,u11,u12,u13],_=>
  obtain⟨y0,e0⟩:=fld (hf 0 _ rfl) (by omega);obtain⟨y1,e1⟩:=fld (hf 1 _ rfl) (by omega);obtain⟨y2,e2⟩:=fld (hf 2 _ rfl) (by omega);obtain⟨y3,e3⟩:=fld (hf 3 _ rfl) (by omega);obtain⟨y4,e4⟩:=fld (hf 4 _ rfl) (by omega);obtain⟨y5,e5⟩:=fld (hf 5 _ rfl) (by omega);obtain⟨y6,e6⟩:=fld (hf 6 _ rfl) (by omega);obtain⟨y7,e7⟩:=fld (hf 7 _ rfl) (by omega);obtain⟨y8,e8⟩:=fld (hf 8 _ rfl) (by omega);obtain⟨y9,e9⟩:=fld (hf 9 _ rfl) (by omega);obtain⟨y10,e10⟩:=fld (hf 10 _ rfl) (by omega);obtain⟨y11,e11⟩:=fld (hf 11 _ rfl) (by omega);simp[c38,c3,c4,c65]at e0 e1 e2 e3 e4 e5 e6 e7 e8 e9 e10 e11;obtain⟨a0,h0, -⟩:=fe Tryz.underlying3 e0;obtain⟨a1,h1, -⟩:=fe Tryz.underlying3 e1;obtain⟨a2,h2, -⟩:=fe Tryz.underlying3 e2;obtain⟨a3,h3, -⟩:=fe Tryz.underlying27 e3;obtain⟨a4,h4, -⟩:=fe Tryz.underlying27 e4;obtain⟨a5,h5, -⟩:=fe Tryz.underlying27 e5;obtain⟨a6,h6, -⟩:=DataW.trod_bool Tryz.underlying4 e6;obtain⟨a7,h7, -⟩:=DataW.trod_bool Tryz.underlying4 e7;obtain⟨a8,h8, -⟩:=fe Tryz.underlying3 e8;obtain⟨a9,h9, -⟩:=fe Tryz.underlying3 e9;obtain⟨a10,h10, -⟩:=fe Tryz.underlying3 e10;simp at h0 h1 h2 h3 h4 h5 h6 h7 h8 h9 h10;obtain⟨zs,m', -, -, -,hn',hf'⟩:=jr Tryz.underlying36 e11;have hn':zs.length=3:=hn';obtain⟨x0,d0⟩:=fld (hf' 0 _ rfl) (by omega);obtain⟨x1,d1⟩:=fld (hf' 1 _ rfl) (by omega);obtain⟨x2,d2⟩:=fld (hf' 2 _ rfl) (by omega);simp[c24]at d0 d1 d2;obtain⟨z1,l1,v1,g1,w1,r1⟩:=Gv d0;obtain⟨z2,l2,v2,g2,w2,r2⟩:=Gv d1;obtain⟨z3,l3,v3,g3,w3,r3⟩:=Gv d2;simp at g1 g2 g3;subst h0 h1 h2 h3 h4 h5 h6 h7 h8 h9 h10 g1 g2 g3;exact⟨⟨⟨a0,a1,a2,a3,a4,a5,a6,a7,a8,a9,a10,l1,l2,l3⟩,z1,z2,z3⟩,⟨w1,w2,w3⟩,rfl, .cons (.sc rfl) (.cons (.sc rfl) (.cons (.sc rfl) (.cons (.sc rfl) (.cons (.sc rfl) (.cons (.sc rfl) (.cons (.sc rfl) (.cons (.sc rfl) (.cons (.sc rfl) (.cons (.sc rfl) (.cons (.sc rfl) (.cons r1 (.cons r2 (.cons r3 .nil)))))))))))))⟩
theorem Dg{fuel:Nat}{us:Array Value}{y:DataW H×List MemPlace}(h:DataW.trod enc Tryz.prog w base spare held fuel 26 us.toList=some y):∃c:Cz,kL c∧XY w (InW w) noB (X9 c) (.agg us):=by
 have c22:Tryz.prog.cellsOf 22=1:=by kernel_rfl
 have c23:Tryz.prog.cellsOf 23=1:=by kernel_rfl
 have c24:Tryz.prog.cellsOf 24=1:=by kernel_rfl
 obtain⟨ys,m, -, -,hl,hn,hf⟩:=jr Tryz.underlying26 h;have hn:ys.length=4:=hn;have hl:us.toList.length=4:=hl.trans (by kernel_rfl);obtain⟨l⟩:=us
 match l,hl with
 |[u0,u1,u2,u3],_=>
  obtain⟨y0,e0⟩:=fld (hf 0 _ rfl) (by omega);obtain⟨y1,e1⟩:=fld (hf 1 _ rfl) (by omega);obtain⟨y2,e2⟩:=fld (hf 2 _ rfl) (by omega);obtain⟨y3,e3⟩:=fld (hf 3 _ rfl) (by omega);simp[c22,c23,c24]at e0 e1 e2 e3;obtain⟨z1,f,v1,g1,r1⟩:=Ms e0;obtain⟨z2,hs,v2,g2, -,q2,r2⟩:=PJ (g:=fun p:Bool×List Ez=>[Cv.sl p.1 14 (XS p.2)]) (Q:=fun p=>∀x∈p.2,x.W) (esz:=1) Tryz.underlying23 (by kernel_rfl) (fun n cs' y hy hl=>by
   obtain⟨z,xs,v,rfl, -,hq,hr⟩:=PJ (g:=Ez.cv) (Q:=Ez.W) (esz:=14) Tryz.underlying34 (by kernel_rfl) (fun n cs' y hy hl=>WM hy hl) hy;exact⟨(z,xs),hq,rfl, .cons hr .nil⟩) e1
  obtain⟨z3,fr,v3,g3, -,r3⟩:=Gv e2;obtain⟨z4,od,v4,g4, -,r4⟩:=Gv e3;simp at g1 g2 g3 g4;subst g1 g2 g3 g4;refine⟨⟨f,hs,fr,od,z1,z2,z3,z4⟩,fun p hp x hx=>q2 p hp x hx,?_⟩;exact .agg (.cons r1 (.cons r2 (.cons r3 (.cons r4 .nil))))
end
end
end Go.Proofs.YtbkpmfjfpcoehaaGreatDoor
namespace Go.Proofs.YtbkpmfjfpcoehaaGreatDoor
open Go Go.RowKit Dw
set_option maxRecDepth 100000
attribute [simp] jV
def mpI:Nat→List Int→List (Cv×Cv)
 |_,[]=>[]
 |i,k::r=>(.sc (.int .i64 k), .sc (.int .i64 i))::mpI (i+1) r
def V6(n:Int):Nat→List Int→Option Nat
 |_,[]=>none
 |i,k::r=>if n=k then some i else V6 n (i+1) r
theorem KH(n:Int)(K:List Int)(i j:Nat):ZE (.int .i64) (.sc (.int .i64 n)) (mpI i K) j=some ((V6 n i K).map fun q=>(j+(q - i), .sc (.int .i64 q))):=by
 induction K generalizing i j with
 |nil=>rfl
 |cons k r ih=>
  simp only[mpI,ZE,To,if_true,V6];by_cases h:n=k
  ·simp[h]
  ·simp only[bk h,if_neg h,ih];cases hq:V6 n (i+1) r with
   |none=>rfl
   |some q=>
    have:i+1≤q:=by
     clear ih
     induction r generalizing i with
     |nil=>cases hq
     |cons k' r' ih'=>
      unfold V6 at hq;split at hq
      ·injection hq with hq;omega
      ·have:=ih' (i+1) hq;omega
    simp only[bt,ab,af,and_true];omega
def mvI(K:List Int):List Int→List Int
 |[]=>[]
 |n::r=>match V6 n 0 K with|some q=>(q:Int)::mvI K r|none=>mvI K r
theorem SG(K a b:List Int):mvI K (a++b)=mvI K a++mvI K b:=by
 induction a with
 |nil=>rfl
 |cons n r ih=>simp only[ge,mvI];split<;>simp[ih]
theorem Hb(K l:List Int):(mvI K l).length≤l.length:=by
 induction l with
 |nil=>exact ak _
 |cons n r ih=>simp only[mvI];split<;>simp<;>omega
theorem LR(z:Bool)(K xs:List Int)(hn:xs.length≤1000):Xq Tryz.prog 25 [sV z 1 (Xj xs), .one (.c (.mp (mpI 0 K)))] (.row (decide ((mvI K xs).length=0)) 3 1 (Xj (mvI K xs))):=by
 refine Xk (rs:=[.tmp 4]) (Xl _) Tryz.func25 rfl Tryz.ntmps25 rfl (by simp) ?_;refine Wa Xb fun K J=>?_;simp;apply J;clear J K;refine Wa Xb fun K J=>?_;simp;apply J;clear J K;refine We fun S Y=>?_;refine Wa Xb fun K J=>?_;simp[Xg];apply J;clear J K;refine Wp.block ?_;refine Wp.loop (fun k s=>∃i:Nat,i+k=xs.length∧s=⟨[(1, .one (.c (.mp (mpI 0 K)))),(5, .one (.own 5)),(10,sV z 1 (Xj xs)),(11,iV .i64 xs.length),(12,iV .i64 i)],[(5, .row (decide ((mvI K (xs.take i)).length=0)) 3 1 (Xj (mvI K (xs.take i))))]⟩)
  xs.length (s0:=⟨[(1, .one (.c (.mp (mpI 0 K)))),(5, .one (.own 5)),(10,sV z 1 (Xj xs)),(11,iV .i64 xs.length),(12,iV .i64 (0:Nat))],[(5, .row true 3 1 [])]⟩) ?_ ⟨0,by simp,by simp[mvI,Xj]⟩ fun k s ⟨i,hik,hs⟩=>?_
 ·refine .trans (.adopt (t:=5) (b:=5) rfl rfl 3 1) ?_;apply Go1<;>simp
 subst hs;refine Wa Xb fun K J=>?_;simp;apply J;clear J K;refine We fun S Y=>?_;refine Wp.cond rfl (fun hc=>?_) (fun hc=>?_)
 ·have hi:i<xs.length:=by simpa using hc
  have hw:IntKind.i64.wrap ((i:Int)+1)=(i+1:Nat):=by rw[wrap_small]<;>omega
  have htk:=SG K (xs.take i) [xs[i]];rw[←ax hi]at htk;have hle:=Hb K (xs.take i);rw[cf]at hle;have hl1:(mvI K (xs.take i)).length+1≤maxLen:=by unfold maxLen;omega
  have hl2:((mvI K (xs.take i)).length+1)*8≤140737488355328:=by omega
  simp only[mvI]at htk;cases hp:V6 xs[i] 0 K with
  |none=>
   rw[hp]at htk;simp only[ez]at htk;refine Wp.skip ?_;apply Y;clear Y S;refine We fun S Y=>?_;refine Wp.block ?_;refine Wa Xb fun K J=>?_;simp[hi,Xg,Xf];apply J;clear J K;refine Wa Xb fun K J=>?_;simp[KH,hp];apply J;clear J K;refine Wa Xb fun K J=>?_;simp;apply J;clear J K;refine Wf (by simp) ?_;refine Wp.skip ?_;apply Y;clear Y S;refine Wb Xb fun K J=>?_;simp[hw];apply J;clear J K;refine⟨⟨[(1, .one (.c (.mp (mpI 0 K)))),(5, .one (.own 5)),(10,sV z 1 (Xj xs)),(11,iV .i64 xs.length),(12,iV .i64 (i+1:Nat))],[(5, .row (decide ((mvI K (xs.take (i+1))).length=0)) 3 1 (Xj (mvI K (xs.take (i+1)))))]⟩,k - 1,?_,by omega,i+1,by omega,rfl⟩;rw[htk];apply Go1<;>simp
  |some q=>
   rw[hp]at htk;simp only at htk;have htk2:Xj (mvI K (xs.take (i+1)))=Xj (mvI K (xs.take i))++[[.sc (.int .i64 q)]]:=by rw[htk];simp[Xj]
   have hz:decide ((mvI K (xs.take (i+1))).length=0)=false:=by rw[htk];simp
   refine Wp.skip ?_;apply Y;clear Y S;refine We fun S Y=>?_;refine Wp.block ?_;refine Wa Xb fun K J=>?_;simp[hi,Xg,Xf];apply J;clear J K;refine Wa Xb fun K J=>?_;simp[KH,hp];apply J;clear J K;refine Wa Xb fun K J=>?_;simp;apply J;clear J K;refine Wt (by simp) ?_;refine Wb Xb fun K J=>?_;simp[Xg,hl1,hl2];apply J;clear J K;apply Y;clear Y S;refine Wb Xb fun K J=>?_;simp[hw];apply J;clear J K;refine⟨⟨[(1, .one (.c (.mp (mpI 0 K)))),(5, .one (.own 5)),(10,sV z 1 (Xj xs)),(11,iV .i64 xs.length),(12,iV .i64 (i+1:Nat))],[(5, .row (decide ((mvI K (xs.take (i+1))).length=0)) 3 1 (Xj (mvI K (xs.take (i+1)))))]⟩,k - 1,?_,by omega,i+1,by omega,rfl⟩;rw[htk2,hz];apply Go1<;>simp
 ·have hi:¬i<xs.length:=by simpa using hc
  refine Wp.exit ?_;simp only[XW,XG,if_true];rw[bp (show xs.length≤i by omega)];clear Y S;apply Y;clear Y S;refine Wa Xb fun K J=>?_;simp;apply J;clear J K;refine Wp.ret ?_;simp
def rgB(f t a:Int):Bool:=decide (f≤a)&&decide (a<t)
abbrev inF(f t:Int):Cv:= .fn 20 [[.sc (.int .u64 f)],[.sc (.int .u64 t)]]
abbrev DM(f t:Int):Cv:= .fn 23 [[inF f t]]
theorem S3(f t a:Int):Xq Tryz.prog 20 [iV .u64 a, .ep 1 [[.sc (.int .u64 f)]] 0 0, .ep 1 [[.sc (.int .u64 t)]] 0 0] (.val (bV (rgB f t a))):=by
 by_cases h1:f≤a
 ·have h1':=eq_true h1;by_cases h2:a<t
  ·have h2':=eq_true h2;refine Xk (rs:=[.tmp 4]) (Xl _) Tryz.func20 rfl Tryz.ntmps20 rfl (by simp) ?_;refine Wa Xb fun K J=>?_;simp;apply J;clear J K;refine Wa Xb fun K J=>?_;simp[h1',h2'];apply J;clear J K;refine Wp.ret ?_;simp[rgB,h1',h2']
  ·have h2':=bh h2;refine Xk (rs:=[.tmp 4]) (Xl _) Tryz.func20 rfl Tryz.ntmps20 rfl (by simp) ?_;refine Wa Xb fun K J=>?_;simp;apply J;clear J K;refine Wa Xb fun K J=>?_;simp[h1',h2'];apply J;clear J K;refine Wp.ret ?_;simp[rgB,h1',h2']
 ·have h1':=bh h1;refine Xk (rs:=[.tmp 4]) (Xl _) Tryz.func20 rfl Tryz.ntmps20 rfl (by simp) ?_;refine Wa Xb fun K J=>?_;simp;apply J;clear J K;refine Wa Xb fun K J=>?_;simp[h1'];apply J;clear J K;refine Wp.ret ?_;simp[rgB,h1']
def gIn:List EV→Option (Prop×Yw)
 |[.one (.c (.sc (.int .u64 a))), .ep 1 [[.sc (.int .u64 f)]] 0 0, .ep 1 [[.sc (.int .u64 t)]] 0 0]=>some (True, .val (bV (rgB f t a)))
 |_=>none
def sa1:Dw.Spec:=Xo 20 gIn HH
theorem Ig:XA Tryz.prog sa1:=by
 refine Xp ⟨⟨_,Tryz.func20,rfl,rfl⟩⟩ (fun vs p r h hp=>?_) Xb;unfold gIn at h;split at h
 ·simp only[ab,af]at h;obtain⟨rfl,rfl⟩:=h;exact S3 _ _ _
 ·cases h
theorem NL(f t a v:Int):Xq Tryz.prog 23 [.agg [.c (.sc (.int .u64 a)), .c (.sc (.int .u64 v))], .ep 1 [[inF f t]] 0 0] (.val (bV (!rgB f t a))):=by
 refine Xk (rs:=[.tmp 3]) (Xl _) Tryz.func23 rfl Tryz.ntmps23 rfl (by simp) ?_;refine Wa Ig fun K J=>?_;simp;apply J;clear J K;refine Wa Ig fun K J=>?_;simp[sa1,Xo,gIn,ER];apply J;clear J K;refine Wp.ret ?_;simp
def bS:List EV→Option (Prop×Yw)
 |[.agg [.c (.sc (.int .u64 a)), .c (.sc (.int .u64 _v))], .ep 1 [[.fn k [[.sc (.int .u64 f)],[.sc (.int .u64 t)]]]] 0 0]=>if k=20 then some (True, .val (bV (!rgB f t a)))else none
 |_=>none
def sa2:Dw.Spec:=Xo 23 bS sa1
theorem Gc:XA Tryz.prog sa2:=by
 refine Xp ⟨⟨_,Tryz.func23,rfl,rfl⟩⟩ (fun vs p r h hp=>?_) Ig;unfold bS at h;split at h
 ·split at h
  ·rename_i hk;subst hk;simp only[ab,af]at h;obtain⟨rfl,rfl⟩:=h;exact NL _ _ _ _
  ·cases h
 ·cases h
def CG(f t:Int)(xs:List (Int×Int)):Int:=if(xs.takeWhile fun p=>rgB f t p.1).length<xs.length then((xs.takeWhile fun p=>rgB f t p.1).length:Int)else -1
theorem L5(z:Bool)(xs:List (Int×Int))(f t:Int)(hn:xs.length≤1000000):Xq Tryz.prog 52 [sV z 2 (Y1 xs), .one (.c (DM f t))] (.val (iV .i64 (CG f t xs))):=by
 generalize hR:CG f t xs=R;refine Xk (rs:=[.tmp 4]) (Xl _) Tryz.func52 rfl Tryz.ntmps52 rfl (by simp) ?_;refine Wa Gc fun K J=>?_;simp;apply J;clear J K;refine We fun S Y=>?_;refine Wa Gc fun K J=>?_;simp[XD];apply J;clear J K;refine Wp.block ?_;refine Wp.loop (fun k s=>∃i:Nat,i+k=xs.length∧(∀j (h:j<xs.length),j<i→rgB f t xs[j].1=true)∧s=⟨[(0,sV z 2 (Y1 xs)),(1, .one (.c (DM f t))),(7,iV .i64 xs.length),(8,iV .i64 i)],[]⟩)
  xs.length (s0:=⟨[(0,sV z 2 (Y1 xs)),(1, .one (.c (DM f t))),(7,iV .i64 xs.length),(8,iV .i64 (0:Nat))],[]⟩) ?_ ⟨0,by simp,fun j h hj=>by omega,rfl⟩ fun k s ⟨i,hik,hin,hs⟩=>?_
 ·apply Go1<;>simp
 subst hs;refine Wa Gc fun K J=>?_;simp;apply J;clear J K;refine We fun S Y=>?_;refine Wp.cond rfl (fun hc=>?_) (fun hc=>?_)
 ·have hi:i<xs.length:=by simpa using hc
  have hw:IntKind.i64.wrap ((i:Int)+1)=(i+1:Nat):=by rw[wrap_small]<;>omega
  cases hp:rgB f t xs[i].1 with
  |false=>
   have hR':R=i:=by
    rw[←hR];have:xs.takeWhile (fun p=>rgB f t p.1)=xs.take i:=by
     have e:xs=xs.take i++xs[i]::xs.drop (i+1):=by rw[←bj hi,fk]
     conv=>lhs;rw[e]
     rw[List.takeWhile_append_of_pos (fun p hp=>?_),List.takeWhile_cons_of_neg (by simp[hp]),ez];obtain⟨j,hj,rfl⟩:=be hp;rw[cf]at hj;rw[List.getElem_take];exact hin j (by omega) (by omega)
    unfold CG;rw[this,cf,jn (fx hi),if_pos hi]
   subst hR';refine Wp.skip ?_;apply Y;clear Y S;refine We fun S Y=>?_;refine Wp.block ?_;refine Wa Gc fun K J=>?_;simp[hi];apply J;clear J K;refine Wa Gc fun K J=>?_;simp[hi,XD,XC,sa2,Xo,bS,ER,hp];apply J;clear J K;refine Wt (by simp) ?_;refine Wa Gc fun K J=>?_;simp;apply J;clear J K;refine Wp.ret ?_;simp
  |true=>
   refine Wp.skip ?_;apply Y;clear Y S;refine We fun S Y=>?_;refine Wp.block ?_;refine Wa Gc fun K J=>?_;simp[hi];apply J;clear J K;refine Wa Gc fun K J=>?_;simp[hi,XD,XC,sa2,Xo,bS,ER,hp];apply J;clear J K;refine Wf (by simp) ?_;refine Wp.skip ?_;apply Y;clear Y S;refine Wb Gc fun K J=>?_;simp[hw];apply J;clear J K;refine⟨⟨[(0,sV z 2 (Y1 xs)),(1, .one (.c (DM f t))),(7,iV .i64 xs.length),(8,iV .i64 (i+1:Nat))],[]⟩,k - 1,?_,by omega,i+1,by omega,fun j h hj=>?_,rfl⟩
   ·apply Go1<;>simp
   ·rcases bn (fh hj)with g|g
    ·subst g;exact hp
    ·exact hin j h g
 ·have hi:¬i<xs.length:=by simpa using hc
  have hR':R= -1:=by
   rw[←hR];unfold CG;have:xs.takeWhile (fun p=>rgB f t p.1)=xs:=by
    have:=List.takeWhile_append_of_pos (l₁:=xs) (l₂:=[]) (p:=fun p=>rgB f t p.1) (fun p hp=>by
     obtain⟨j,hj,rfl⟩:=be hp;exact hin j hj (by omega))
    simpa using this
   rw[this,if_neg (by omega)]
  subst hR';refine Wp.exit ?_;simp only[XW,XG,if_true];clear Y S;apply Y;clear Y S;refine Wa Gc fun K J=>?_;simp;apply J;clear J K;refine Wp.ret ?_;simp
def kA:List EV→Option (Prop×Yw)
 |[.one (.c (.sl _z 2 els)), .one (.c (.fn k [[.fn k' [[.sc (.int .u64 f)],[.sc (.int .u64 t)]]]]))]=>if k=23∧k'=20 then(match unC els with|some xs=>some (xs.length≤1000000, .val (iV .i64 (CG f t xs)))|none=>none)else none
 |_=>none
def sa3:Dw.Spec:=Xo 52 kA sa2
theorem Ko:XA Tryz.prog sa3:=by
 refine Xp ⟨⟨_,Tryz.func52,rfl,rfl⟩⟩ (fun vs p r h hp=>?_) Gc;unfold kA at h;split at h
 ·split at h
  ·rename_i hk;obtain⟨rfl,rfl⟩:=hk;split at h
   ·rename_i xs hx;simp only[ab,af]at h;obtain⟨rfl,rfl⟩:=h;rw[G6 hx];exact L5 _ _ _ _ hp
   ·cases h
  ·cases h
 ·cases h
theorem FR(xs:List (Int×Int))(hn:xs.length≤1000000):Xq Tryz.prog 22 [sV false 2 (Y1 xs)] (.row false 70 2 (Y1 xs)):=by
 have h1:xs.length≤maxLen:=by unfold maxLen;omega
 have h2:xs.length*16≤140737488355328:=by omega
 refine Xk (rs:=[.tmp 2]) (Xl _) Tryz.func22 rfl Tryz.ntmps22 rfl (by simp) ?_;refine Wa Ko fun K J=>?_;simp;apply J;clear J K;refine We fun S Y=>?_;refine Wa Ko fun K J=>?_;simp;apply J;clear J K;refine Wf (by simp) ?_;refine Wp.skip ?_;apply Y;clear Y S;refine Wa Ko fun K J=>?_;simp[XD,h1,h2];apply J;clear J K;refine Wp.ret ?_;simp
theorem OS(ys:List (Int×Int))(i:Nat)(p:Int×Int):(Y1 ys).set i [.sc (.int .u64 p.1), .sc (.int .u64 p.2)]=Y1 (ys.set i p):=by simp[Y1]
theorem Av(f t:Int)(xs:List (Int×Int)):(CG f t xs= -1∧xs.filter (fun p=>rgB f t p.1)=xs)∨∃i:Nat,∃h:i<xs.length,CG f t xs=i∧(xs.take i).filter (fun p=>rgB f t p.1)=xs.take i∧rgB f t xs[i].1=false:=by
 unfold CG;have h1:=List.takeWhile_append_dropWhile (p:=fun p:Int×Int=>rgB f t p.1) (l:=xs);have hall:∀p∈xs.takeWhile (fun p=>rgB f t p.1),rgB f t p.1=true:=fun p hp=>by
  have:=List.all_takeWhile (l:=xs) (p:=fun p:Int×Int=>rgB f t p.1);exact(ao.1 this) p hp
 by_cases h:(xs.takeWhile fun p=>rgB f t p.1).length<xs.length
 ·right;refine⟨_,h,by rw[if_pos h],?_,?_⟩
  ·have e:xs.take (xs.takeWhile fun p=>rgB f t p.1).length=xs.takeWhile fun p=>rgB f t p.1:=by
    conv=>lhs;rw[←h1]
    rw[List.take_left'];rw[h1]
   rw[e,List.filter_eq_self];exact hall
  ·cases hd:xs.dropWhile (fun p=>rgB f t p.1)with
   |nil=>have:=ee List.length h1;rw[hd]at this;simp at this;omega
   |cons q r=>
    have e:xs[(xs.takeWhile fun p=>rgB f t p.1).length]=q:=by
     have:xs[(xs.takeWhile fun p=>rgB f t p.1).length]? =some q:=by
      generalize xs.takeWhile (fun p:Int×Int=>rgB f t p.1)=X at h1⊢;rw[←h1,hd,bz (ak _),fp];rfl
     rw[aa h]at this;injection this
    rw[e];have:=List.head?_dropWhile_not (fun p:Int×Int=>rgB f t p.1) xs;rw[hd]at this;simpa using this
 ·left;refine⟨by rw[if_neg h],?_⟩;rw[List.filter_eq_self];have:xs.dropWhile (fun p=>rgB f t p.1)=[]:=by
   have:=ee List.length h1;rw[az]at this;exact cn (by omega)
  rw[this,ez]at h1;rw[←h1];exact hall
theorem Mh(f t:Int)(xs:List (Int×Int))(hn:xs.length≤1000000):Ci Tryz.prog 21 70 2 (Y1 xs) (Y1 (xs.filter fun p=>rgB f t p.1)) [.one (.c (DM f t))]:=by
 refine Tu (rs:=[.tmp 4]) (Xl _) Tryz.func21 rfl Tryz.ntmps21 rfl (by simp) ?_;change Wp _ _ _ _ (⟨[(0, .one (.own 0)),(1, .one (.c (DM f t)))],[(0, .row false 70 2 (Y1 xs))]⟩:St);rcases Av f t xs with⟨h1,h2⟩|⟨i0,hi0,h1,h2,h3⟩
 ·rw[h2];refine Wa Ko fun K J=>?_;simp;apply J;clear J K;refine Wa Ko fun K J=>?_;simp[sa3,Xo,kA,Ya,hn,h1];apply J;clear J K;refine We fun S Y=>?_;refine Wa Ko fun K J=>?_;simp;apply J;clear J K;refine Wt (by simp) ?_;refine Wa Ko fun K J=>?_;simp;apply J;clear J K;refine Wp.ret ?_;simp
 have hne:¬((i0:Int)= -1):=by omega
 have hw0:IntKind.i64.wrap ((i0:Int)+1)=(i0+1:Nat):=by rw[wrap_small]<;>omega
 refine Wa Ko fun K J=>?_;simp;apply J;clear J K;refine Wa Ko fun K J=>?_;simp[sa3,Xo,kA,Ya,hn,h1];apply J;clear J K;refine We fun S Y=>?_;refine Wa Ko fun K J=>?_;simp[hne];apply J;clear J K;refine Wf (by simp) ?_;refine Wp.skip ?_;apply Y;clear Y S;refine We fun S Y=>?_;refine Wa Ko fun K J=>?_;simp[hw0];apply J;clear J K;refine Wp.block ?_;refine Wp.loop (fun k s=>∃(i j:Nat) (ys:List (Int×Int)),j+k=xs.length∧i<j∧ys.length=xs.length∧ys.take i=(xs.take j).filter (fun p=>rgB f t p.1)∧ys.drop j=xs.drop j∧s=⟨[(0, .one (.own 0)),(1, .one (.c (DM f t))),(5,iV .i64 i),(6,iV .i64 j)],[(0, .row false 70 2 (Y1 ys))]⟩)
  (xs.length - (i0+1)) (s0:=⟨[(0, .one (.own 0)),(1, .one (.c (DM f t))),(5,iV .i64 i0),(6,iV .i64 (i0+1:Nat))],[(0, .row false 70 2 (Y1 xs))]⟩) ?_ ⟨i0,i0+1,xs,by omega,by omega,rfl,?_,rfl,rfl⟩ fun k s ⟨i,j,ys,hjk,hij,hyl,hyt,hyd,hs⟩=>?_
 ·apply Go1<;>simp
 ·rw[ax hi0,gk,h2];simp[h3]
 subst hs;refine We fun S Y=>?_;refine Wa Ko fun K J=>?_;simp[XD];apply J;clear J K;refine Wp.cond rfl (fun hc=>?_) (fun hc=>?_)
 ·have hj:j<ys.length:=by simpa using hc
  have hjx:j<xs.length:=by omega
  have hiy:i<ys.length:=by omega
  have hge:ys[j]=xs[j]:=by
   have:(ys.drop j)[0]? =(xs.drop j)[0]?:=by rw[hyd]
   rw[cw,cw,dy,aa hj,aa hjx]at this;injection this
  have hwj:IntKind.i64.wrap ((j:Int)+1)=(j+1:Nat):=by rw[wrap_small]<;>omega
  have hwi:IntKind.i64.wrap ((i:Int)+1)=(i+1:Nat):=by rw[wrap_small]<;>omega
  have hdd:ys.drop (j+1)=xs.drop (j+1):=by rw[←List.drop_drop,←List.drop_drop,hyd]
  cases hp:rgB f t xs[j].1 with
  |true=>
   refine Wp.skip ?_;apply Y;clear Y S;refine We fun S Y=>?_;refine Wp.block ?_;refine Wa Ko fun K J=>?_;simp[hj,hge,XD,XC];apply J;clear J K;refine Wa Ko fun K J=>?_;simp[sa3,sa2,Xo,bS,ER,hp];apply J;clear J K;refine Wt (by simp) ?_;refine Wa Ko fun K J=>?_;simp[hiy,XD,XC,OS];apply J;clear J K;refine Wb Ko fun K J=>?_;simp[hwi];apply J;clear J K;apply Y;clear Y S;refine Wb Ko fun K J=>?_;simp[hwj];apply J;clear J K;refine⟨⟨[(0, .one (.own 0)),(1, .one (.c (DM f t))),(5,iV .i64 (i+1:Nat)),(6,iV .i64 (j+1:Nat))],[(0, .row false 70 2 (Y1 (ys.set i xs[j])))]⟩,k - 1,?_,by omega,i+1,j+1,ys.set i xs[j],by omega,by omega,by simpa using hyl,?_,?_,rfl⟩
   ·apply Go1<;>simp
   ·rw[ax (by simpa using hiy),List.take_set_of_le (ak _),hyt,List.getElem_set_self,ax hjx,gk];simp[hp]
   ·rw[List.drop_set_of_lt (by omega)];exact hdd
  |false=>
   refine Wp.skip ?_;apply Y;clear Y S;refine We fun S Y=>?_;refine Wp.block ?_;refine Wa Ko fun K J=>?_;simp[hj,hge,XD,XC];apply J;clear J K;refine Wa Ko fun K J=>?_;simp[sa3,sa2,Xo,bS,ER,hp];apply J;clear J K;refine Wf (by simp) ?_;refine Wp.skip ?_;apply Y;clear Y S;refine Wb Ko fun K J=>?_;simp[hwj];apply J;clear J K;refine⟨⟨[(0, .one (.own 0)),(1, .one (.c (DM f t))),(5,iV .i64 i),(6,iV .i64 (j+1:Nat))],[(0, .row false 70 2 (Y1 ys))]⟩,k - 1,?_,by omega,i,j+1,ys,by omega,by omega,hyl,?_,hdd,rfl⟩
   ·apply Go1<;>simp
   ·rw[hyt,ax hjx,gk];simp[hp]
 ·have hj:¬j<ys.length:=by simpa using hc
  refine Wp.exit ?_;simp only[XW,XG,if_true];have hj0:j=xs.length:=by omega
  have hyt':ys.take i=xs.filter (fun p=>rgB f t p.1):=by rw[hyt,bp (by omega)]
  have hfi:(xs.filter fun p=>rgB f t p.1).length=i:=by rw[←hyt',cf];omega
  clear Y S;apply Y;clear Y S;refine Wp.seq (Wp.clearTail (b:=0) (i:=i) (Xl _) (els:=Y1 ys) (Te:=⟨D Tryz.prog 70,2,16,[.sc (.int .u64 0), .sc (.int .u64 0)],true,true⟩) rfl rfl rfl rfl rfl rfl rfl rfl rfl rfl rfl rfl (by decide) (by decide) (by decide) (by decide) (by decide) rfl rfl rfl jO (by simp) (by rw[XD];omega) ?_);simp only[XW,Dw.put];obtain⟨zs,hz⟩:∃zs,(Y1 ys).take i++List.replicate ((Y1 ys).length - i) [Cv.sc (.int .u64 0), .sc (.int .u64 0)]=zs:=⟨_,rfl⟩;have hzl:(i:Int)≤zs.length:=by rw[←hz];simp[XD];omega
  have hzt:zs.take i=Y1 (xs.filter fun p=>rgB f t p.1):=by
   rw[←hz,List.take_left' (by rw[cf,XD];omega),←hyt'];simp[Y1,List.map_take]
  refine Wp.gh (s':=⟨[(0, .one (.own 0)),(5,iV .i64 i)],[(0, .row false 70 2 zs)]⟩) ?_ ?_
  ·apply Go1<;>simp[hz]
  clear hz;refine Wa Ko fun K J=>?_;simp[hzl,hzt];apply J;clear J K;refine Wp.ret ?_;simp
end Go.Proofs.YtbkpmfjfpcoehaaGreatDoor
