/- What is computed, as data, and laws of it. No condition. -/
import Derived.Test.YtbkpmfjfpcoehaaGreatDoorWf
import Derived.Test.YtbkpmfjfpcoehaaGreatDoorWh
set_option maxHeartbeats 16000000
namespace Go.Proofs.YtbkpmfjfpcoehaaGreatDoor
open Go Go.RowKit Dw
set_option maxRecDepth 100000
theorem Mt{xs:List (Int×Int)}(h:KI xs=true):Cj xs:=by
 have h1:∀i,i<xs.length→0<i→(xs.getD (i - 1) (0,0)).1<(xs.getD i (0,0)).1:=by
  intro i hi h0;have:=(ao.1 h) i (ay.2 hi);exact(bo this).2 h0
 intro i j hij hj
 induction j with
 |zero=>omega
 |succ j ih=>
  have:=h1 (j+1) hj (by omega);simp only[Nat.add_sub_cancel]at this;rcases cp i j with g|g
  ·have:=ih g (by omega);omega
  ·obtain rfl:i=j:=by omega
   exact this
theorem VD(c:Cz):Cw [.sl c.z1 2 (Y1 c.f), .sl c.z2 1 (Xw c.hs), .sl c.z3 1 (Xj c.fr), .sl c.z4 1 (Xj c.od)]=some c:=C3 c
def Jk:List (Bool×List Ez)→Nat→Bool
 |[],_=>true
 |p::r,i=>VF i p.2 0 (-1) p.2&&Jk r (i+1)
theorem Bv{l:List (Bool×List Ez)}{i:Nat}(h:i<l.length):Jk (l.drop i) i=(VF i l[i].2 0 (-1) l[i].2&&Jk (l.drop (i+1)) (i+1)):=by
 rw[bj h];rfl
def YC(c:Cz):Bool:=KI c.f&&(decide (1≤c.hs.length∧c.hs.length≤8)&&(Jk c.hs 0&&(decide (c.fr.length=(Xh c.hs).length)&&
 (((List.range (Xh c.hs).length).all fun n=>Ve c.f c.fr ((Xh c.hs).map Ez.e) n)&&JC (Xh c.hs) c.od))))
structure GI(c:Cz):Prop where
 f:c.f.length≤1000
 hs:c.hs.length≤1000
 all:(Xh c.hs).length≤1000
 fr:c.fr.length≤1000
 od:c.od.length≤1000
 ev:∀p∈c.hs,∀x∈p.2,x.Wf∧VR x.e
theorem FT(c:Cz)(hc0:GI c):Xq Tryz.prog 19 [X9 c] (.val (iV .i64 (Yh (YC c)))):=by
 have b1:=hc0.f;have b2:=hc0.hs;have b3:=hc0.all;have b4:=hc0.fr;have b5:=hc0.od;have b6:=hc0.ev;have b1':c.f.length≤1000000:=by omega
 have b3':(Xh c.hs).length≤100000:=by omega
 have b3'':(Xh c.hs).length≤10000:=by omega
 have b5':c.od.length≤10000:=by omega
 generalize hR:Yh (YC c)=R;unfold X9;refine Xk (rs:=[.tmp 2]) (Xl _) Tryz.func19 rfl Tryz.ntmps19 rfl (by simp) ?_;refine We fun S Y=>?_
 first|refine Wa YK fun K J=>?_|refine Wb YK fun K J=>?_|refine Wc YK [] fun K J=>?_|refine Wd YK [] fun K J=>?_
 simp;apply J;clear J K;apply Y;clear Y S;refine Wp.frzBox (b:=1) (cs:=c.cv) rfl rfl ?_;change Wp _ _ _ _ (⟨[(0,X9 c),(1,cA c),(2,iV .i64 0)],[]⟩:St);cases e1:KI c.f
 ·refine We fun S Y=>?_;refine Wa YK fun K J=>?_;simp[sy,Xo,Po,Ya,b1',e1];apply J;clear J K;refine Wt (by simp) ?_;refine Wa YK fun K J=>?_;simp;apply J;clear J K;refine Wp.ret ?_;simp;rw[←hR,YC,e1];rfl
 have hrise:=Mt e1;by_cases e2:c.hs.length<1
 ·have e2':(c.hs.length:Int)<1:=by omega
  refine We fun S Y=>?_;refine Wa YK fun K J=>?_;simp[sy,Xo,Po,Ya,Xm,b1',e1,e2'];apply J;clear J K;refine Wt (by simp) ?_;refine Wa YK fun K J=>?_;simp;apply J;clear J K;refine Wp.ret ?_;simp;rw[←hR,YC,e1,bk (show ¬(1≤c.hs.length∧c.hs.length≤8) by omega)];rfl
 have e2':¬(c.hs.length:Int)<1:=by omega
 by_cases e3:8<c.hs.length
 ·have e3':(8:Int)<c.hs.length:=by omega
  refine We fun S Y=>?_;refine Wa YK fun K J=>?_;simp[sy,Xo,Po,Ya,Xm,b1',e1,e2',e3'];apply J;clear J K;refine Wt (by simp) ?_;refine Wa YK fun K J=>?_;simp;apply J;clear J K;refine Wp.ret ?_;simp;rw[←hR,YC,e1,bk (show ¬(1≤c.hs.length∧c.hs.length≤8) by omega)];rfl
 have e3':¬(8:Int)<c.hs.length:=by omega
 rw[YC,e1,ck (show 1≤c.hs.length∧c.hs.length≤8 by omega),ce,ce]at hR;refine We fun S Y=>?_;refine Wa YK fun K J=>?_;simp[sy,Xo,Po,Ya,Xm,b1',e1,e2',e3'];apply J;clear J K;refine Wf (by simp) ?_;refine Wp.skip ?_;apply Y;clear Y S;refine Wa YK fun K J=>?_;simp;apply J;clear J K;refine We fun S Y=>?_;refine Wa YK fun K J=>?_;simp[Xm];apply J;clear J K;refine Wp.block ?_;refine Wp.loop (fun k s=>∃i:Nat,i+k=c.hs.length∧Jk (c.hs.drop i) i=Jk c.hs 0∧s=⟨[(1,cA c),(2,iV .i64 0),(3,iV .i64 (Xh (c.hs.take i)).length),(25,sV c.z2 1 (Xw c.hs)),(26,iV .i64 c.hs.length),(27,iV .i64 i)],[]⟩)
  c.hs.length (s0:=⟨[(1,cA c),(2,iV .i64 0),(3,iV .i64 (0:Nat)),(25,sV c.z2 1 (Xw c.hs)),(26,iV .i64 c.hs.length),(27,iV .i64 (0:Nat))],[]⟩) ?_ ⟨0,by simp,by simp,by simp[Xh]⟩ fun k s ⟨i,hik,hr,hs⟩=>?_
 ·apply Go1<;>simp
 subst hs;refine Wa YK fun K J=>?_;simp;apply J;clear J K;refine We fun S Y=>?_;refine Wp.cond rfl (fun hc=>?_) (fun hc=>?_)
 ·have hi:i<c.hs.length:=by simpa using hc
  have hw:IntKind.i64.wrap ((i:Int)+1)=(i+1:Nat):=by rw[wrap_small]<;>omega
  have hf:=ee List.length (Yy hi);rw[az]at hf;have hle:=Jb c.hs (i+1);have hws:IntKind.i64.wrap (((Xh (c.hs.take i)).length:Int)+c.hs[i].2.length)=(Xh (c.hs.take (i+1))).length:=by rw[wrap_small]<;>omega
  have hbig:¬(4096:Int)<(Xh (c.hs.take (i+1))).length:=by omega
  have hl1000:c.hs[i].2.length≤1000:=by omega
  have hev:∀x∈c.hs[i].2,VR x.e:=fun x hx=>(b6 _ (ba hi) x hx).2;rw[Bv hi]at hr;cases hrow:VF i c.hs[i].2 0 (-1) c.hs[i].2
  ·have hev':=eq_true hev;refine Wp.skip ?_;apply Y;clear Y S;refine We fun S Y=>?_;refine Wp.block ?_;refine Wa YK fun K J=>?_;simp[hi,Xm,Xs];apply J;clear J K;refine Wa YK fun K J=>?_;simp[hws,Xe];apply J;clear J K;refine Wa YK fun K J=>?_;simp[hbig,sy,Xo,jZ,X4,hl1000,hev',hrow,Mc];apply J;clear J K;refine Wt (by simp) ?_;refine Wa YK fun K J=>?_;simp;apply J;clear J K;refine Wp.ret ?_;simp;rw[hrow]at hr;rw[←hR,←hr];rfl
  ·rw[hrow,ce]at hr;have hev':=eq_true hev;refine Wp.skip ?_;apply Y;clear Y S;refine We fun S Y=>?_;refine Wp.block ?_;refine Wa YK fun K J=>?_;simp[hi,Xm,Xs];apply J;clear J K;refine Wa YK fun K J=>?_;simp[hws,Xe];apply J;clear J K;refine Wa YK fun K J=>?_;simp[hbig,sy,Xo,jZ,X4,hl1000,hev',hrow,Mc];apply J;clear J K;refine Wf (by simp) ?_;refine Wp.skip ?_;apply Y;clear Y S;refine Wb YK fun K J=>?_;simp[hw];apply J;clear J K;refine⟨⟨[(1,cA c),(2,iV .i64 0),(3,iV .i64 (Xh (c.hs.take (i+1))).length),(25,sV c.z2 1 (Xw c.hs)),(26,iV .i64 c.hs.length),(27,iV .i64 (i+1:Nat))],[]⟩,k - 1,?_,by omega,i+1,by omega,hr,rfl⟩;apply Go1<;>simp
 ·have hi:¬i<c.hs.length:=by simpa using hc
  refine Wp.exit ?_;simp only[XW,XG,if_true];rw[bp (show c.hs.length≤i by omega)];rw[cg (by omega)]at hr;rw[←hr]at hR;simp only[Jk,ce]at hR;clear hc hi hik hr;by_cases e4:c.fr.length=(Xh c.hs).length
  case neg=>
   have e4':¬((c.fr.length:Int)=(Xh c.hs).length):=by omega
   clear Y S;apply Y;clear Y S;refine Wa YK fun K J=>?_;simp[sy,Xo,AL,VD,b2,b3'];apply J;clear J K;refine We fun S Y=>?_;refine Wa YK fun K J=>?_;simp[Xg,e4'];apply J;clear J K;refine Wt (by simp) ?_;refine Wa YK fun K J=>?_;simp;apply J;clear J K;refine Wp.ret ?_;simp;rw[←hR,bk e4];rfl
  rw[ck e4,ce]at hR;have e4':((c.fr.length:Int)=(Xh c.hs).length):=by omega
  clear Y S;apply Y;clear Y S;refine Wa YK fun K J=>?_;simp[sy,Xo,AL,VD,b2,b3'];apply J;clear J K;refine We fun S Y=>?_;refine Wa YK fun K J=>?_;simp[Xg,e4'];apply J;clear J K;refine Wf (by simp) ?_;refine Wp.skip ?_;apply Y;clear Y S;refine We fun S Y=>?_;refine Wa YK fun K J=>?_;simp[Xe];apply J;clear J K;refine Wp.block ?_;obtain⟨zz,hzz⟩:∃zz:Bool,zz=decide (Xh c.hs=[]):=⟨_,rfl⟩;generalize hall:Xh c.hs=all at*
  refine Wp.loop (fun k s=>∃i:Nat,i+k=all.length∧(∀j,j<i→Ve c.f c.fr (all.map Ez.e) j=true)∧s=⟨[(1,cA c),(2,iV .i64 0),(6,sV (decide (all=[])) 14 (XS all)),(52,iV .i64 all.length),(53,iV .i64 i)],[]⟩)
   all.length (s0:=⟨[(1,cA c),(2,iV .i64 0),(6,sV (decide (all=[])) 14 (XS all)),(52,iV .i64 all.length),(53,iV .i64 (0:Nat))],[]⟩) ?_ ⟨0,by simp,by simp,rfl⟩ fun k s ⟨i,hik,hr,hs⟩=>?_
  ·apply Go1<;>simp
  subst hs;refine Wa YK fun K J=>?_;simp;apply J;clear J K;refine We fun S Y=>?_;refine Wp.cond rfl (fun hc=>?_) (fun hc=>?_)
  ·have hi:i<all.length:=by simpa using hc
   have hw:IntKind.i64.wrap ((i:Int)+1)=(i+1:Nat):=by rw[wrap_small]<;>omega
   have hfl:c.fr.length=all.length:=e4;cases hf:Ve c.f c.fr (all.map Ez.e) i
   ·refine Wp.skip ?_;apply Y;clear Y S;refine We fun S Y=>?_;refine Wp.block ?_;refine Wa YK fun K J=>?_;simp[hi];apply J;clear J K;refine Wa YK fun K J=>?_;simp[hi,sy,Xo,Om,VD,X4,hfl,b3,b1',hrise,hf];apply J;clear J K;refine Wt (by simp) ?_;refine Wa YK fun K J=>?_;simp;apply J;clear J K;refine Wp.ret ?_;simp;have:((List.range all.length).all fun n=>Ve c.f c.fr (all.map Ez.e) n)=false:=by
     rw[List.all_eq_false];exact⟨i,ay.2 hi,by simp[hf]⟩
    rw[←hR,this];rfl
   ·refine Wp.skip ?_;apply Y;clear Y S;refine We fun S Y=>?_;refine Wp.block ?_;refine Wa YK fun K J=>?_;simp[hi];apply J;clear J K;refine Wa YK fun K J=>?_;simp[hi,sy,Xo,Om,VD,X4,hfl,b3,b1',hrise,hf];apply J;clear J K;refine Wf (by simp) ?_;refine Wp.skip ?_;apply Y;clear Y S;refine Wb YK fun K J=>?_;simp[hw];apply J;clear J K;refine⟨⟨[(1,cA c),(2,iV .i64 0),(6,sV (decide (all=[])) 14 (XS all)),(52,iV .i64 all.length),(53,iV .i64 (i+1:Nat))],[]⟩,k - 1,?_,by omega,i+1,by omega,fun j hj=>?_,rfl⟩
    ·apply Go1<;>simp
    rcases cp j i with g|g
    ·exact hr j g
    ·obtain rfl:j=i:=by omega
     exact hf
  ·have hi:¬i<all.length:=by simpa using hc
   refine Wp.exit ?_;simp only[XW,XG,if_true];have hall':((List.range all.length).all fun n=>Ve c.f c.fr (all.map Ez.e) n)=true:=by
    rw[ao];exact fun j hj=>hr j (by have:=ay.1 hj;omega)
   rw[hall',ce]at hR;cases ho:JC all c.od
   ·rw[ho]at hR;clear Y S;apply Y;clear Y S;refine We fun S Y=>?_;refine Wa YK fun K J=>?_;simp[sy,Xo,Ql,VD,X4,b3'',b5',ho];apply J;clear J K;refine Wt (by simp) ?_;refine Wa YK fun K J=>?_;simp;apply J;clear J K;refine Wp.ret ?_;simp;exact hR
   ·rw[ho]at hR;clear Y S;apply Y;clear Y S;refine We fun S Y=>?_;refine Wa YK fun K J=>?_;simp[sy,Xo,Ql,VD,X4,b3'',b5',ho];apply J;clear J K;refine Wf (by simp) ?_;refine Wp.skip ?_;apply Y;clear Y S;refine Wa YK fun K J=>?_;simp;apply J;clear J K;refine Wp.ret ?_;simp;exact hR
def Kn:EV→Option Cz
 | .agg [.c (.sl z1 2 l1), .c (.sl z2 1 l2), .c (.sl z3 1 l3), .c (.sl z4 1 l4)]=>(match unC l1,Cu l2,unI l3,unI l4 with
  |some f,some hs,some fr,some od=>some ⟨f,hs,fr,od,z1,z2,z3,z4⟩
  |_,_,_,_=>none)
 |_=>none
theorem Yf{v:EV}{c:Cz}(h:Kn v=some c):v=X9 c:=by
 unfold Kn at h;split at h
 ·split at h
  ·rename_i f hs fr od h1 h2 h3 h4;injection h with h;subst h;simp only[X9,←G6 h1,←EZ h2,←Yz h3,←Yz h4]
  ·cases h
 ·cases h
theorem Xu(c:Cz):Kn (.agg [.c (.sl c.z1 2 (Y1 c.f)), .c (.sl c.z2 1 (Xw c.hs)), .c (.sl c.z3 1 (Xj c.fr)), .c (.sl c.z4 1 (Xj c.od))])=some c:=by
 simp[Kn,Ya,Hj,Xa]
def Hv:List EV→Option (Prop×Yw)
 |[v]=>(match Kn v with|some c=>some (GI c, .val (iV .i64 (Yh (YC c))))|none=>none)
 |_=>none
def sz1:Dw.Spec:=Xo 19 Hv sy
theorem JR:XA Tryz.prog sz1:=by
 refine Xp ⟨⟨_,Tryz.func19,rfl,rfl⟩⟩ (fun vs p r h hp=>?_) YK;unfold Hv at h;split at h
 ·split at h
  ·rename_i c hc;simp only[ab,af]at h;obtain⟨rfl,rfl⟩:=h;rw[Yf hc];exact FT c hp
  ·cases h
 ·cases h
theorem Ue{hs:List (Bool×List Ez)}{x:Ez}(h:x∈Xh hs):∃p∈hs,x∈p.2:=by
 unfold Xh at h;rw[List.mem_flatten]at h;obtain⟨l,hl,hx⟩:=h;rw[cy]at hl;obtain⟨p,hp,rfl⟩:=hl;exact⟨p,hp,hx⟩
theorem aV(c:Cz)(hc0:GI c)(hck:YC c=true):Xq Tryz.prog 32 [X9 c] (.row (decide ((Xh c.hs).length=0)) 38 14 (XS (Xh c.hs))):=by
 have b2:=hc0.hs;have b3:=hc0.all;have b3':(Xh c.hs).length≤100000:=by omega
 have bok:=eq_true hc0;have bev:∀x∈Xh c.hs,x.Wf:=fun x hx=>by obtain⟨p,hp,hx'⟩:=Ue hx;exact(hc0.ev p hp x hx').1
 obtain⟨zz,hzz⟩:∃zz:Bool,zz=decide ((Xh c.hs).length=0):=⟨_,rfl⟩;rw[←hzz];unfold X9;refine Xk (rs:=[.tmp 2]) (Xl _) Tryz.func32 rfl Tryz.ntmps32 rfl (by simp) ?_;refine We fun S Y=>?_
 first|refine Wa JR fun K J=>?_|refine Wb JR fun K J=>?_|refine Wc JR [] fun K J=>?_|refine Wd JR [] fun K J=>?_
 simp;apply J;clear J K;apply Y;clear Y S;refine Wp.frzBox (b:=1) (cs:=c.cv) rfl rfl ?_;change Wp _ _ _ _ (⟨[(0,X9 c),(1,cA c),(2,sV true 0 [])],[]⟩:St);refine We fun S Y=>?_;refine Wa JR fun K J=>?_;simp[sz1,Xo,Hv,Xu,bok,hck,Yh];apply J;clear J K;refine Wf (by simp) ?_;refine Wp.skip ?_;apply Y;clear Y S;refine Wa JR fun K J=>?_;simp;apply J;clear J K;refine We fun S Y=>?_;refine Wa JR fun K J=>?_;simp[sz1,sy,Xo,AL,VD,b2,b3',Xe];apply J;clear J K;refine Wp.block ?_;generalize hall:Xh c.hs=all at*
 refine Wp.loop (fun k s=>∃i:Nat,i+k=all.length∧s=⟨[(2,sV true 0 []),(3, .one (.own 3)),(9,sV (decide (all=[])) 14 (XS all)),(10,iV .i64 all.length),(11,iV .i64 i)],[(3, .row (decide (i=0)) 38 14 (XS (all.take i)))]⟩)
  all.length (s0:=⟨[(2,sV true 0 []),(3, .one (.own 3)),(9,sV (decide (all=[])) 14 (XS all)),(10,iV .i64 all.length),(11,iV .i64 (0:Nat))],[(3, .row true 38 14 [])]⟩) ?_ ⟨0,by simp,by simp[XS]⟩ fun k s ⟨i,hik,hs⟩=>?_
 ·refine .trans (.adopt (t:=3) (b:=3) rfl rfl 38 14) ?_;apply Go1<;>simp
 subst hs;refine Wa JR fun K J=>?_;simp;apply J;clear J K;refine We fun S Y=>?_;refine Wp.cond rfl (fun hc=>?_) (fun hc=>?_)
 ·have hi:i<all.length:=by simpa using hc
  have hw:IntKind.i64.wrap ((i:Int)+1)=(i+1:Nat):=by rw[wrap_small]<;>omega
  have hwf:=eq_true (bev _ (ba hi));have hl:(min i all.length)+1≤maxLen:=by unfold maxLen;omega
  have hl2:(min i all.length+1)*152≤140737488355328:=by omega
  have htk:XS (all.take (i+1))=XS (all.take i)++[all[i].cv]:=by rw[ax hi];unfold XS;rw[dx];rfl
  refine Wp.skip ?_;apply Y;clear Y S;refine We fun S Y=>?_;refine Wp.block ?_;refine Wa JR fun K J=>?_;simp[hi,Xe,Xd,Ez.cv];apply J;clear J K;refine Wb JR fun K J=>?_;simp[Xe,sz1,sy,sw2,Xo,mB,X2,unS,Xa,Ev.eta,hwf,evV,hl,hl2];apply J;clear J K;apply Y;clear Y S;refine Wb JR fun K J=>?_;simp[hw];apply J;clear J K;refine⟨⟨[(2,sV true 0 []),(3, .one (.own 3)),(9,sV (decide (all=[])) 14 (XS all)),(10,iV .i64 all.length),(11,iV .i64 (i+1:Nat))],[(3, .row (decide (i+1=0)) 38 14 (XS (all.take (i+1))))]⟩,k - 1,?_,by omega,i+1,by omega,rfl⟩;rw[htk];apply Go1<;>simp[Ez.cv]
 ·have hi:¬i<all.length:=by simpa using hc
  refine Wp.exit ?_;simp only[XW,XG,if_true];rw[bp (show all.length≤i by omega)];clear Y S;apply Y;clear Y S;refine Wa JR fun K J=>?_;simp;apply J;clear J K;refine Wp.ret ?_;simp;rw[hzz,decide_eq_decide];omega
theorem O7(c:Cz)(hc0:GI c)(hck:YC c=true):Xq Tryz.prog 32 [X9 c] (.val (sV (decide ((Xh c.hs).length=0)) 14 (XS (Xh c.hs)))):=KC (aV c hc0 hck)
def Qy(c:Cz)(z:Bool)(l:List Ez):EV:= .agg (cV c z l)
def G5:EV→Option (Cz×Bool×List Ez)
 | .agg [v1,v2,v3,v4, .c (.sl z 14 els)]=>(match Kn (.agg [v1,v2,v3,v4]),F9 els with
  |some c,some l=>some (c,z,l)
  |_,_=>none)
 |_=>none
theorem V7{v:EV}{c:Cz}{z:Bool}{l:List Ez}(h:G5 v=some (c,z,l)):v=Qy c z l:=by
 unfold G5 at h;split at h
 ·rename_i v1 v2 v3 v4 z' els;split at h
  ·rename_i c' l' h1 h2;simp only[ab,af]at h;obtain⟨rfl,rfl,rfl⟩:=h;have:=Yf h1;simp only[X9,EV.agg.injEq,List.cons.injEq,and_true]at this;obtain⟨rfl,rfl,rfl,rfl⟩:=this;rw[VC h2];rfl
  ·cases h
 ·cases h
theorem YY(c:Cz)(z:Bool)(l:List Ez):G5 (.agg (cV c z l))=some (c,z,l):=by
 simp[G5,Xu,X4]
theorem RB{l:List Ez}{i:Nat}(h:i<l.length):(l.map Ez.e).getD i default=l[i].e:=by simp[aa h]
theorem Fm(c:Cz)(z:Bool)(l:List Ez)(a b:Nat)(ha:a<l.length)(hb:b<l.length):
  Xq Tryz.prog 156 [Qy c z l,iV .i64 a,iV .i64 b] (.val (bV (Zj (l.map Ez.e) a b))):=by
 have qa:(l.length≤a)=False:=bh (by omega);have qb:(l.length≤b)=False:=bh (by omega);have na:((a:Int)<0)=False:=bh (by omega);have nb:((b:Int)<0)=False:=bh (by omega);obtain⟨x,hx⟩:∃x,l[a]=x:=⟨_,rfl⟩;obtain⟨y,hy⟩:∃y,l[b]=y:=⟨_,rfl⟩;have hv:Zj (l.map Ez.e) a b=(decide (x.e.hart=y.e.hart∧x.e.pos<y.e.pos)&&(x.e.mem&&y.e.mem)):=by
  unfold Zj;simp only[au,RB ha,RB hb,hx,hy,ai];rw[ck (by omega:(0:Int)≤a∧(0:Int)≤b∧(a:Int)<l.length∧(b:Int)<l.length),ce]
 rw[hv];clear hv;unfold Qy;refine Xk (rs:=[.tmp 6]) (Xl _) Tryz.func156 rfl Tryz.ntmps156 rfl (by simp) ?_;refine Wa Gb fun K J=>?_;simp;apply J;clear J K;refine We fun S Y=>?_;refine Wa Gb fun K J=>?_;simp[Xe,qa,qb,na,nb];apply J;clear J K;refine Wf (by simp) ?_;refine Wp.skip ?_;apply Y;clear Y S;refine We fun S Y=>?_
 ((first|refine Wa Gb fun K J=>?_|refine Wb Gb fun K J=>?_|refine Wc Gb [7,8] fun K J=>?_|refine Wd Gb [7,8] fun K J=>?_);simp[ha,hb,Xe,Xd,Ez.cv,hx,hy];apply And.intro;(·kernel_rfl);with_reducible refine J _ ?_;clear J K)
 by_cases h1:x.e.hart=y.e.hart
 ·have e1:=eq_true h1;by_cases h2:x.e.pos<y.e.pos
  ·have e2:=eq_true h2;clear h1 h2;cases h3:x.e.mem
   ·apply Y;clear Y S;refine Wa Gb fun K J=>?_;simp[se2,Xo,Kb,X2,unS,Xa,Ev.eta',e1,e2,h3];apply J;clear J K;refine Wp.ret ?_;simp[e1,e2,h3]
   ·apply Y;clear Y S;refine Wa Gb fun K J=>?_;simp[se2,Xo,Kb,X2,unS,Xa,Ev.eta',e1,e2,h3];apply J;clear J K;refine Wp.ret ?_;simp[e1,e2,h3]
  ·have e2:=bh h2;clear h1 h2;apply Y;clear Y S;refine Wa Gb fun K J=>?_;simp[e1,e2];apply J;clear J K;refine Wp.ret ?_;simp[e1,e2]
 ·have e1:=bh h1;clear h1;apply Y;clear Y S;refine Wa Gb fun K J=>?_;simp[e1];apply J;clear J K;refine Wp.ret ?_;simp[e1]
def RG:List EV→Option (Prop×Yw)
 |[v, .one (.c (.sc (.int .i64 a))), .one (.c (.sc (.int .i64 b)))]=>(match G5 v with
  |some (_,_,l)=>some (0≤a∧a<l.length∧0≤b∧b<l.length, .val (bV (Zj (l.map Ez.e) a b)))
  |none=>none)
 |_=>none
def se3:Dw.Spec:=Xo 156 RG se2
theorem Xi:XA Tryz.prog se3:=by
 refine Xp ⟨⟨_,Tryz.func156,rfl,rfl⟩⟩ (fun vs p r h hp=>?_) Gb;unfold RG at h;split at h
 ·split at h
  ·rename_i a b _ c z l hv;simp only[ab,af]at h;obtain⟨rfl,rfl⟩:=h;obtain⟨a,rfl⟩:∃m:Nat,a=m:=⟨a.toNat,by omega⟩;obtain⟨b,rfl⟩:∃m:Nat,b=m:=⟨b.toNat,by omega⟩;rw[V7 hv];exact Fm c z l a b (by omega) (by omega)
  ·cases h
 ·cases h
theorem UA{l:List Int}{i:Nat}(h:i<l.length):l.getD i 0=l[i]:=by rw[ac,aa h];rfl
theorem AW{l:List Ez}(ok:R9 (l.map Ez.e)){i:Nat}(h:i<l.length):l[i].e.da.length≤1000000∧l[i].e.dd.length≤1000000∧l[i].e.dw.length≤1000000:=by
 have:=ok.few i (by simpa using h);rw[RB h]at this;obtain⟨h1,h2,h3⟩:=this;exact⟨by omega,by omega,by omega⟩
abbrev hSt(c:Cz)(z:Bool)(l:List Ez)(x y:Ez)(es:List (Nat×EV)):St:=
 ⟨es,[(4, .box (cV c z l)),(9, .box (x.cv.map .c)),(10, .box (y.cv.map .c))]⟩
theorem qd(c:Cz)(z:Bool)(l:List Ez)(a b:Nat)(r:Int)(h1:1≤r)(h13:r≤13)(hab:a<b)(hb:b<l.length)(ok:R9 (l.map Ez.e))(hl:c.fr.length=l.length):
  Xq Tryz.prog 123 [Qy c z l,iV .i64 a,iV .i64 b,iV .i64 r] (.val (bV (KR (l.map Ez.e) c.fr a b r))):=by
 have ha:a<l.length:=by omega
 have hn:=ok.n;rw[ai]at hn;have hfa:a<c.fr.length:=by omega
 have hfb:b<c.fr.length:=by omega
 obtain⟨x,hx⟩:∃x,l[a]=x:=⟨_,rfl⟩;obtain⟨y,hy⟩:∃y,l[b]=y:=⟨_,rfl⟩;obtain⟨n1,n2,n3⟩:=AW ok hb;rw[hy]at n1 n2 n3;obtain⟨R,hR⟩:∃R,KR (l.map Ez.e) c.fr a b r=R:=⟨_,rfl⟩;rw[hR];unfold KR at hR;have na:((a:Int)<0)=False:=bh (by omega);have nb:((b:Int)<0)=False:=bh (by omega);unfold Qy;refine Xk (rs:=[.tmp 8]) (Xl _) Tryz.func123 rfl Tryz.ntmps123 rfl (by simp) ?_;cases hd:Zj (l.map Ez.e) a b
 ·rw[hd]at hR;refine Wa Xi fun K J=>?_;simp;apply J;clear J K;refine We fun S Y=>?_;refine Wa Xi fun K J=>?_;simp[se3,Xo,RG,YY,ha,hb,hd];apply J;clear J K;refine Wt (by simp) ?_;refine Wa Xi fun K J=>?_;simp;apply J;clear J K;refine Wp.ret ?_;simp;simpa using hR
 rw[hd,ce]at hR;refine Wa Xi fun K J=>?_;simp;apply J;clear J K;refine We fun S Y=>?_;refine Wa Xi fun K J=>?_;simp[se3,Xo,RG,YY,ha,hb,hd];apply J;clear J K;refine Wf (by simp) ?_;refine Wp.skip ?_;apply Y;clear Y S;refine We fun S Y=>?_
 ((first|refine Wa Xi fun K J=>?_|refine Wb Xi fun K J=>?_|refine Wc Xi [9,10] fun K J=>?_|refine Wd Xi [9,10] fun K J=>?_);simp[ha,hb,Xe,Xd,Ez.cv,hx,hy];apply And.intro;(·kernel_rfl);with_reducible refine J _ ?_;clear J K)
 have hwa:IntKind.i64.wrap ((a:Int)+1)=(a+1:Nat):=by rw[wrap_small]<;>omega
 have hr:r=1∨r=2∨r=3∨r=4∨r=5∨r=6∨r=7∨r=8∨r=9∨r=10∨r=11∨r=12∨r=13:=by omega
 rcases hr with rfl|rfl|rfl|rfl|rfl|rfl|rfl|rfl|rfl|rfl|rfl|rfl|rfl
 all_goals simp only[Si,RB ha,RB hb,hx,hy,UA hfa,UA hfb]at hR
 ·cases e1:y.e.writes
  ·apply Y;clear Y S;refine We fun S Y=>?_;refine Wa Xi fun K J=>?_;simp;apply J;clear J K;refine Wp.block ?_;refine Wa Xi fun K J=>?_;simp;apply J;clear J K;refine Wt (by simp) ?_;refine Wa Xi fun K J=>?_;simp[se3,se2,se1,Xo,Kb,X2,unS,Xa,Ev.eta',e1];apply J;clear J K;refine Wp.ret ?_;simp;rw[←hR];simp[e1]
  ·obtain⟨v,hv⟩:∃v,decide (x.e.addr=y.e.addr)=v:=⟨_,rfl⟩;apply Y;clear Y S;refine We fun S Y=>?_;refine Wa Xi fun K J=>?_;simp;apply J;clear J K;refine Wp.block ?_;refine Wa Xi fun K J=>?_;simp;apply J;clear J K;refine Wt (by simp) ?_;refine Wa Xi fun K J=>?_;simp[se3,se2,se1,Xo,Kb,X2,unS,Xa,Ev.eta',e1,hv];apply J;clear J K;refine Wp.ret ?_;simp;rw[←hR];simp[e1,hv]
 ·apply Y;clear Y S;refine We fun S Y=>?_;refine Wa Xi fun K J=>?_;simp;apply J;clear J K;refine Wp.block ?_;refine Wa Xi fun K J=>?_;simp;apply J;clear J K;refine Wf (by simp) ?_;refine Wa Xi fun K J=>?_;simp;apply J;clear J K;refine Wt (by simp) ?_;refine We fun S Y=>?_;refine Wa Xi fun K J=>?_;simp[hwa];apply J;clear J K;refine Wp.block ?_;refine Wp.loop (fun k s=>∃m:Nat,m+k=b∧a<m∧(∀i,a<i→i<m→p2 (l.map Ez.e) x.e.addr i=false)∧s=hSt c z l x y [(1,iV .i64 a),(2,iV .i64 b),(4, .one (.ptr 4 0)),(9, .one (.ptr 9 0)),(10, .one (.ptr 10 0)),(11,iV .i64 m)])
   (b - (a+1)) (s0:=hSt c z l x y [(1,iV .i64 a),(2,iV .i64 b),(4, .one (.ptr 4 0)),(9, .one (.ptr 9 0)),(10, .one (.ptr 10 0)),(11,iV .i64 (a+1:Nat))]) ?_ ⟨a+1,by omega,by omega,fun i h1 h2=>(by omega),rfl⟩ fun k s ⟨m,hmk,ham,hno,hs⟩=>?_
  ·apply Go1<;>simp[Ez.cv]
  subst hs;refine We fun S Y=>?_;refine Wa Xi fun K J=>?_;simp;apply J;clear J K;refine Wp.cond rfl (fun hc=>?_) (fun hc=>?_)
  ·have hm:m<b:=by simpa using hc
   have hml:m<l.length:=by omega
   have hwm:IntKind.i64.wrap ((m:Int)+1)=(m+1:Nat):=by rw[wrap_small]<;>omega
   obtain⟨v,hv⟩:∃v,l[m]=v:=⟨_,rfl⟩;have hge:(l.map Ez.e).getD m default=v.e:=by rw[RB hml,hv]
   clear hc;by_cases h:v.e.writes=true∧v.e.addr=x.e.addr
   ·obtain⟨h1,h2⟩:=h;have e2:=eq_true h2;refine Wp.skip ?_;apply Y;clear Y S;refine We fun S Y=>?_;refine Wp.block ?_;refine We fun S Y=>?_
    ((first|refine Wa Xi fun K J=>?_|refine Wb Xi fun K J=>?_|refine Wc Xi [] fun K J=>?_|refine Wd Xi [] fun K J=>?_);simp[se3,se2,se1,Xo,Kb,X2,unS,Xa,Ev.eta',hml,Xe,Xd,Ez.cv,hv,h1,e2];apply And.intro;(·kernel_rfl);with_reducible refine J _ ?_;clear J K)
    apply Y;clear Y S;refine Wt (by simp) ?_;refine Wa Xi fun K J=>?_;simp;apply J;clear J K;refine Wp.ret ?_;simp;rw[←hR,Ul ham hm (by unfold p2;rw[hge];simp[h1,h2])];rfl
   ·cases h1:v.e.writes
    ·refine Wp.skip ?_;apply Y;clear Y S;refine We fun S Y=>?_;refine Wp.block ?_;refine We fun S Y=>?_
     ((first|refine Wa Xi fun K J=>?_|refine Wb Xi fun K J=>?_|refine Wc Xi [] fun K J=>?_|refine Wd Xi [] fun K J=>?_);simp[se3,se2,se1,Xo,Kb,X2,unS,Xa,Ev.eta',hml,Xe,Xd,Ez.cv,hv,h1];apply And.intro;(·kernel_rfl);with_reducible refine J _ ?_;clear J K)
     apply Y;clear Y S;refine Wf (by simp) ?_;refine Wp.skip ?_;apply Y;clear Y S;refine Wb Xi fun K J=>?_;simp[hwm];apply J;clear J K;refine⟨hSt c z l x y [(1,iV .i64 a),(2,iV .i64 b),(4, .one (.ptr 4 0)),(9, .one (.ptr 9 0)),(10, .one (.ptr 10 0)),(11,iV .i64 (m+1:Nat))],k - 1,?_,by omega,m+1,by omega,by omega,YS hno (by unfold p2;rw[hge];simp[h1]),rfl⟩;apply Go1<;>simp[Ez.cv]
    ·have h2:¬v.e.addr=x.e.addr:=fun q=>h ⟨h1,q⟩;have e2:=bh h2;refine Wp.skip ?_;apply Y;clear Y S;refine We fun S Y=>?_;refine Wp.block ?_;refine We fun S Y=>?_
     ((first|refine Wa Xi fun K J=>?_|refine Wb Xi fun K J=>?_|refine Wc Xi [] fun K J=>?_|refine Wd Xi [] fun K J=>?_);simp[se3,se2,se1,Xo,Kb,X2,unS,Xa,Ev.eta',hml,Xe,Xd,Ez.cv,hv,h1,e2];apply And.intro;(·kernel_rfl);with_reducible refine J _ ?_;clear J K)
     apply Y;clear Y S;refine Wf (by simp) ?_;refine Wp.skip ?_;apply Y;clear Y S;refine Wb Xi fun K J=>?_;simp[hwm];apply J;clear J K;refine⟨hSt c z l x y [(1,iV .i64 a),(2,iV .i64 b),(4, .one (.ptr 4 0)),(9, .one (.ptr 9 0)),(10, .one (.ptr 10 0)),(11,iV .i64 (m+1:Nat))],k - 1,?_,by omega,m+1,by omega,by omega,YS hno (by unfold p2;rw[hge];simp[h2]),rfl⟩;apply Go1<;>simp[Ez.cv]
  ·have hm:¬m<b:=by simpa using hc
   obtain rfl:m=b:=by omega
   rw[IV hno]at hR;refine Wp.exit ?_;simp only[XW,XG,if_true];cases e1:x.e.reads
   ·clear Y S;apply Y;clear Y S;refine We fun S Y=>?_
    ((first|refine Wa Xi fun K J=>?_|refine Wb Xi fun K J=>?_|refine Wc Xi [] fun K J=>?_|refine Wd Xi [] fun K J=>?_);simp[se3,se2,se1,Xo,Kb,X2,unS,Xa,Ev.eta',Ez.cv,e1];apply And.intro;(·kernel_rfl);with_reducible refine J _ ?_;clear J K)
    apply Y;clear Y S;refine Wp.ret ?_;simp;rw[←hR];simp[e1]
   cases e2:y.e.reads
   ·clear Y S;apply Y;clear Y S;refine We fun S Y=>?_
    ((first|refine Wa Xi fun K J=>?_|refine Wb Xi fun K J=>?_|refine Wc Xi [] fun K J=>?_|refine Wd Xi [] fun K J=>?_);simp[se3,se2,se1,Xo,Kb,X2,unS,Xa,Ev.eta',Ez.cv,e1,e2];apply And.intro;(·kernel_rfl);with_reducible refine J _ ?_;clear J K)
    apply Y;clear Y S;refine Wp.ret ?_;simp;rw[←hR];simp[e1,e2]
   by_cases h3:x.e.addr=y.e.addr
   ·have e3:=eq_true h3;clear Y S;apply Y;clear Y S;refine We fun S Y=>?_
    ((first|refine Wa Xi fun K J=>?_|refine Wb Xi fun K J=>?_|refine Wc Xi [] fun K J=>?_|refine Wd Xi [] fun K J=>?_);simp[se3,se2,se1,Xo,Kb,X2,unS,Xa,Ev.eta',Ez.cv,e1,e2,e3,hfa,hfb,Xg,Xf];apply And.intro;(·kernel_rfl);with_reducible refine J _ ?_;clear J K)
    apply Y;clear Y S;refine Wp.ret ?_;simp;rw[←hR];simp[e1,e2,h3]
   ·have e3:=bh h3;clear Y S;apply Y;clear Y S;refine We fun S Y=>?_
    ((first|refine Wa Xi fun K J=>?_|refine Wb Xi fun K J=>?_|refine Wc Xi [] fun K J=>?_|refine Wd Xi [] fun K J=>?_);simp[se3,se2,se1,Xo,Kb,X2,unS,Xa,Ev.eta',Ez.cv,e1,e2,e3];apply And.intro;(·kernel_rfl);with_reducible refine J _ ?_;clear J K)
    apply Y;clear Y S;refine Wp.ret ?_;simp;rw[←hR];simp[e1,e2,h3]
 ·cases e1:y.e.reads<;>by_cases h2:x.e.kind=4<;>by_cases h3:x.e.kind=5
  all_goals
   repeat(first|((first|refine Wa Xi fun K J=>?_|refine Wb Xi fun K J=>?_|refine Wc Xi [] fun K J=>?_|refine Wd Xi [] fun K J=>?_);simp[se3,se2,se1,Xo,Kb,X2,unS,Xa,Ev.eta',hfb,Xg,Xf,e1,h2,h3];first|done|(with_reducible refine J _ ?_;clear J K)|(apply And.intro;(·kernel_rfl);with_reducible refine J _ ?_;clear J K))|refine We fun S Y=>?_|refine Wp.block ?_|refine Wp.skip ?_|(apply Wt;· (simp;done))|(apply Wf;· (simp;done))|(apply Y;clear Y S)|(clear Y S;apply Y;clear Y S))
   refine Wp.ret ?_;simp;rw[←hR];simp[e1,h2,h3]
 ·repeat(first|((first|refine Wa Xi fun K J=>?_|refine Wb Xi fun K J=>?_|refine Wc Xi [] fun K J=>?_|refine Wd Xi [] fun K J=>?_);simp[hwa];first|done|(with_reducible refine J _ ?_;clear J K)|(apply And.intro;(·kernel_rfl);with_reducible refine J _ ?_;clear J K))|refine We fun S Y=>?_|refine Wp.block ?_|refine Wp.skip ?_|(apply Wt;· (simp;done))|(apply Wf;· (simp;done))|(apply Y;clear Y S)|(clear Y S;apply Y;clear Y S))
  refine Wp.loop (fun k s=>∃m:Nat,m+k=b∧a<m∧(∀i,a<i→i<m→p4 (l.map Ez.e) x.e.kind y.e.kind i=false)∧s=hSt c z l x y [(1,iV .i64 a),(2,iV .i64 b),(4, .one (.ptr 4 0)),(9, .one (.ptr 9 0)),(10, .one (.ptr 10 0)),(12,iV .i64 m)])
   (b - (a+1)) (s0:=hSt c z l x y [(1,iV .i64 a),(2,iV .i64 b),(4, .one (.ptr 4 0)),(9, .one (.ptr 9 0)),(10, .one (.ptr 10 0)),(12,iV .i64 (a+1:Nat))]) ?_ ⟨a+1,by omega,by omega,fun i h1 h2=>(by omega),rfl⟩ fun k s ⟨m,hmk,ham,hno,hs⟩=>?_
  ·apply Go1<;>simp[Ez.cv]
  subst hs;refine We fun S Y=>?_;refine Wa Xi fun K J=>?_;simp;apply J;clear J K;refine Wp.cond rfl (fun hc=>?_) (fun hc=>?_)
  ·have hm:m<b:=by simpa using hc
   have hml:m<l.length:=by omega
   have hwm:IntKind.i64.wrap ((m:Int)+1)=(m+1:Nat):=by rw[wrap_small]<;>omega
   obtain⟨v,hv⟩:∃v,l[m]=v:=⟨_,rfl⟩;have hge:(l.map Ez.e).getD m default=v.e:=by rw[RB hml,hv]
   clear hc;obtain⟨s1,s2,s3,s4⟩:=ok.sides m (by simpa using hml);rw[RB hml,hv]at s1 s2 s3 s4;by_cases h1:v.e.kind=6
   ·have e1:=eq_true h1;cases e2:E5 v.e.pred x.e.kind
    ·refine Wp.skip ?_;apply Y;clear Y S;refine We fun S Y=>?_;refine Wp.block ?_;refine Wa Xi fun K J=>?_;simp[hml,Xe,Xd,Ez.cv,hv];apply J;clear J K;refine Wa Xi fun K J=>?_;simp[se3,se2,Xo,Ej,X2,unS,Xa,Ev.eta',e1,e2,s1,s2];apply J;clear J K;refine Wf (by simp) ?_;refine Wp.skip ?_;apply Y;clear Y S;refine Wb Xi fun K J=>?_;simp[hwm];apply J;clear J K;refine⟨hSt c z l x y [(1,iV .i64 a),(2,iV .i64 b),(4, .one (.ptr 4 0)),(9, .one (.ptr 9 0)),(10, .one (.ptr 10 0)),(12,iV .i64 (m+1:Nat))],k - 1,?_,by omega,m+1,by omega,by omega,YS hno (by unfold p4;rw[hge];simp[e2]),rfl⟩;apply Go1<;>simp[Ez.cv]
    cases e3:E5 v.e.succ y.e.kind
    ·refine Wp.skip ?_;apply Y;clear Y S;refine We fun S Y=>?_;refine Wp.block ?_;refine Wa Xi fun K J=>?_;simp[hml,Xe,Xd,Ez.cv,hv];apply J;clear J K;refine Wa Xi fun K J=>?_;simp[se3,se2,Xo,Ej,X2,unS,Xa,Ev.eta',e1,e2,e3,s1,s2,s3,s4];apply J;clear J K;refine Wf (by simp) ?_;refine Wp.skip ?_;apply Y;clear Y S;refine Wb Xi fun K J=>?_;simp[hwm];apply J;clear J K;refine⟨hSt c z l x y [(1,iV .i64 a),(2,iV .i64 b),(4, .one (.ptr 4 0)),(9, .one (.ptr 9 0)),(10, .one (.ptr 10 0)),(12,iV .i64 (m+1:Nat))],k - 1,?_,by omega,m+1,by omega,by omega,YS hno (by unfold p4;rw[hge];simp[e3]),rfl⟩;apply Go1<;>simp[Ez.cv]
    ·refine Wp.skip ?_;apply Y;clear Y S;refine We fun S Y=>?_;refine Wp.block ?_;refine Wa Xi fun K J=>?_;simp[hml,Xe,Xd,Ez.cv,hv];apply J;clear J K;refine Wa Xi fun K J=>?_;simp[se3,se2,Xo,Ej,X2,unS,Xa,Ev.eta',e1,e2,e3,s1,s2,s3,s4];apply J;clear J K;refine Wt (by simp) ?_;refine Wa Xi fun K J=>?_;simp;apply J;clear J K;refine Wp.ret ?_;simp;rw[←hR,Ul ham hm (by unfold p4;rw[hge];simp[h1,e2,e3])]
   ·have e1:=bh h1;refine Wp.skip ?_;apply Y;clear Y S;refine We fun S Y=>?_;refine Wp.block ?_;refine Wa Xi fun K J=>?_;simp[hml,Xe,Xd,Ez.cv,hv];apply J;clear J K;refine Wa Xi fun K J=>?_;simp[e1];apply J;clear J K;refine Wf (by simp) ?_;refine Wp.skip ?_;apply Y;clear Y S;refine Wb Xi fun K J=>?_;simp[hwm];apply J;clear J K;refine⟨hSt c z l x y [(1,iV .i64 a),(2,iV .i64 b),(4, .one (.ptr 4 0)),(9, .one (.ptr 9 0)),(10, .one (.ptr 10 0)),(12,iV .i64 (m+1:Nat))],k - 1,?_,by omega,m+1,by omega,by omega,YS hno (by unfold p4;rw[hge];simp[h1]),rfl⟩;apply Go1<;>simp[Ez.cv]
  ·have hm:¬m<b:=by simpa using hc
   obtain rfl:m=b:=by omega
   rw[IV hno]at hR;refine Wp.exit ?_;simp only[XW,XG,if_true];clear Y S;apply Y;clear Y S;refine Wa Xi fun K J=>?_;simp;apply J;clear J K;refine Wp.ret ?_;simp;exact hR.symm
 ·repeat(first|((first|refine Wa Xi fun K J=>?_|refine Wb Xi fun K J=>?_|refine Wc Xi [] fun K J=>?_|refine Wd Xi [] fun K J=>?_);simp;first|done|(with_reducible refine J _ ?_;clear J K)|(apply And.intro;(·kernel_rfl);with_reducible refine J _ ?_;clear J K))|refine We fun S Y=>?_|refine Wp.block ?_|refine Wp.skip ?_|(apply Wt;· (simp;done))|(apply Wf;· (simp;done))|(apply Y;clear Y S)|(clear Y S;apply Y;clear Y S))
  refine Wp.ret ?_;simp;exact hR
 ·repeat(first|((first|refine Wa Xi fun K J=>?_|refine Wb Xi fun K J=>?_|refine Wc Xi [] fun K J=>?_|refine Wd Xi [] fun K J=>?_);simp;first|done|(with_reducible refine J _ ?_;clear J K)|(apply And.intro;(·kernel_rfl);with_reducible refine J _ ?_;clear J K))|refine We fun S Y=>?_|refine Wp.block ?_|refine Wp.skip ?_|(apply Wt;· (simp;done))|(apply Wf;· (simp;done))|(apply Y;clear Y S)|(clear Y S;apply Y;clear Y S))
  refine Wp.ret ?_;simp;exact hR
 ·cases e1:x.e.aq<;>cases e2:x.e.rl<;>cases e3:y.e.aq
  all_goals
   repeat(first|((first|refine Wa Xi fun K J=>?_|refine Wb Xi fun K J=>?_|refine Wc Xi [] fun K J=>?_|refine Wd Xi [] fun K J=>?_);simp;first|done|(with_reducible refine J _ ?_;clear J K)|(apply And.intro;(·kernel_rfl);with_reducible refine J _ ?_;clear J K))|refine We fun S Y=>?_|refine Wp.block ?_|refine Wp.skip ?_|(apply Wt;· (simp;done))|(apply Wf;· (simp;done))|(apply Y;clear Y S)|(clear Y S;apply Y;clear Y S))
   refine Wp.ret ?_;simp;rw[←hR];simp[e1,e2,e3]
 ·by_cases h1:y.e.kind=4
  ·repeat(first|((first|refine Wa Xi fun K J=>?_|refine Wb Xi fun K J=>?_|refine Wc Xi [] fun K J=>?_|refine Wd Xi [] fun K J=>?_);simp[h1];first|done|(with_reducible refine J _ ?_;clear J K)|(apply And.intro;(·kernel_rfl);with_reducible refine J _ ?_;clear J K))|refine We fun S Y=>?_|refine Wp.block ?_|refine Wp.skip ?_|(apply Wt;· (simp;done))|(apply Wf;· (simp;done))|(apply Y;clear Y S)|(clear Y S;apply Y;clear Y S))
   refine Wp.ret ?_;simp;rw[←hR];simp[h1]
  ·repeat(first|((first|refine Wa Xi fun K J=>?_|refine Wb Xi fun K J=>?_|refine Wc Xi [] fun K J=>?_|refine Wd Xi [] fun K J=>?_);simp[h1];first|done|(with_reducible refine J _ ?_;clear J K)|(apply And.intro;(·kernel_rfl);with_reducible refine J _ ?_;clear J K))|refine We fun S Y=>?_|refine Wp.block ?_|refine Wp.skip ?_|(apply Wt;· (simp;done))|(apply Wf;· (simp;done))|(apply Y;clear Y S)|(clear Y S;apply Y;clear Y S))
   refine Wp.ret ?_;simp;rw[←hR];simp[h1]
 ·repeat(first|((first|refine Wa Xi fun K J=>?_|refine Wb Xi fun K J=>?_|refine Wc Xi [] fun K J=>?_|refine Wd Xi [] fun K J=>?_);simp[se3,se2,Xo,DN,Xa,n1];first|done|(with_reducible refine J _ ?_;clear J K)|(apply And.intro;(·kernel_rfl);with_reducible refine J _ ?_;clear J K))|refine We fun S Y=>?_|refine Wp.block ?_|refine Wp.skip ?_|(apply Wt;· (simp;done))|(apply Wf;· (simp;done))|(apply Y;clear Y S)|(clear Y S;apply Y;clear Y S))
  refine Wp.ret ?_;simp;exact hR
 ·repeat(first|((first|refine Wa Xi fun K J=>?_|refine Wb Xi fun K J=>?_|refine Wc Xi [] fun K J=>?_|refine Wd Xi [] fun K J=>?_);simp[se3,se2,Xo,DN,Xa,n2];first|done|(with_reducible refine J _ ?_;clear J K)|(apply And.intro;(·kernel_rfl);with_reducible refine J _ ?_;clear J K))|refine We fun S Y=>?_|refine Wp.block ?_|refine Wp.skip ?_|(apply Wt;· (simp;done))|(apply Wf;· (simp;done))|(apply Y;clear Y S)|(clear Y S;apply Y;clear Y S))
  refine Wp.ret ?_;simp;exact hR
 ·cases e1:y.e.writes
  ·repeat(first|((first|refine Wa Xi fun K J=>?_|refine Wb Xi fun K J=>?_|refine Wc Xi [] fun K J=>?_|refine Wd Xi [] fun K J=>?_);simp[se3,se2,se1,Xo,Kb,X2,unS,Xa,Ev.eta',e1];first|done|(with_reducible refine J _ ?_;clear J K)|(apply And.intro;(·kernel_rfl);with_reducible refine J _ ?_;clear J K))|refine We fun S Y=>?_|refine Wp.block ?_|refine Wp.skip ?_|(apply Wt;· (simp;done))|(apply Wf;· (simp;done))|(apply Y;clear Y S)|(clear Y S;apply Y;clear Y S))
   refine Wp.ret ?_;simp;rw[←hR];simp[e1]
  ·repeat(first|((first|refine Wa Xi fun K J=>?_|refine Wb Xi fun K J=>?_|refine Wc Xi [] fun K J=>?_|refine Wd Xi [] fun K J=>?_);simp[se3,se2,se1,Xo,Kb,DN,X2,unS,Xa,Ev.eta',e1,n3];first|done|(with_reducible refine J _ ?_;clear J K)|(apply And.intro;(·kernel_rfl);with_reducible refine J _ ?_;clear J K))|refine We fun S Y=>?_|refine Wp.block ?_|refine Wp.skip ?_|(apply Wt;· (simp;done))|(apply Wf;· (simp;done))|(apply Y;clear Y S)|(clear Y S;apply Y;clear Y S))
   refine Wp.ret ?_;simp;rw[←hR];simp[e1]
 ·repeat(first|((first|refine Wa Xi fun K J=>?_|refine Wb Xi fun K J=>?_|refine Wc Xi [] fun K J=>?_|refine Wd Xi [] fun K J=>?_);simp[hwa];first|done|(with_reducible refine J _ ?_;clear J K)|(apply And.intro;(·kernel_rfl);with_reducible refine J _ ?_;clear J K))|refine We fun S Y=>?_|refine Wp.block ?_|refine Wp.skip ?_|(apply Wt;· (simp;done))|(apply Wf;· (simp;done))|(apply Y;clear Y S)|(clear Y S;apply Y;clear Y S))
  refine Wp.loop (fun k s=>∃m:Nat,m+k=b∧a<m∧(∀i,a<i→i<m→p12 (l.map Ez.e) y.e.kind c.fr[b] x.e.pos i=false)∧s=hSt c z l x y [(1,iV .i64 a),(2,iV .i64 b),(4, .one (.ptr 4 0)),(9, .one (.ptr 9 0)),(10, .one (.ptr 10 0)),(14,iV .i64 m)])
   (b - (a+1)) (s0:=hSt c z l x y [(1,iV .i64 a),(2,iV .i64 b),(4, .one (.ptr 4 0)),(9, .one (.ptr 9 0)),(10, .one (.ptr 10 0)),(14,iV .i64 (a+1:Nat))]) ?_ ⟨a+1,by omega,by omega,fun i h1 h2=>(by omega),rfl⟩ fun k s ⟨m,hmk,ham,hno,hs⟩=>?_
  ·apply Go1<;>simp[Ez.cv]
  subst hs;refine We fun S Y=>?_;refine Wa Xi fun K J=>?_;simp;apply J;clear J K;refine Wp.cond rfl (fun hc=>?_) (fun hc=>?_)
  ·have hm:m<b:=by simpa using hc
   have hml:m<l.length:=by omega
   have hwm:IntKind.i64.wrap ((m:Int)+1)=(m+1:Nat):=by rw[wrap_small]<;>omega
   obtain⟨v,hv⟩:∃v,l[m]=v:=⟨_,rfl⟩;have hge:(l.map Ez.e).getD m default=v.e:=by rw[RB hml,hv]
   clear hc;obtain⟨m1,m2,m3⟩:=AW ok hml;rw[hv]at m1 m2 m3;cases e1:y.e.reads
   ·refine Wp.skip ?_;apply Y;clear Y S;refine We fun S Y=>?_;refine Wp.block ?_;refine Wa Xi fun K J=>?_;simp[hml,Xe,Xd,Ez.cv,hv];apply J;clear J K;refine Wa Xi fun K J=>?_;simp[se3,se2,se1,Xo,Kb,X2,unS,Xa,Ev.eta',e1];apply J;clear J K;refine Wf (by simp) ?_;refine Wp.skip ?_;apply Y;clear Y S;refine Wb Xi fun K J=>?_;simp[hwm];apply J;clear J K;refine⟨hSt c z l x y [(1,iV .i64 a),(2,iV .i64 b),(4, .one (.ptr 4 0)),(9, .one (.ptr 9 0)),(10, .one (.ptr 10 0)),(14,iV .i64 (m+1:Nat))],k - 1,?_,by omega,m+1,by omega,by omega,YS hno (by unfold p12;rw[hge];simp[show XE y.e.kind=false from e1]),rfl⟩;apply Go1<;>simp[Ez.cv]
   by_cases h2:c.fr[b]=(m:Int)
   case neg=>
    have e2:=bh h2;refine Wp.skip ?_;apply Y;clear Y S;refine We fun S Y=>?_;refine Wp.block ?_;refine Wa Xi fun K J=>?_;simp[hml,Xe,Xd,Ez.cv,hv];apply J;clear J K;refine Wa Xi fun K J=>?_;simp[se3,se2,se1,Xo,Kb,X2,unS,Xa,Ev.eta',Xg,Xf,hfb,e1,e2];apply J;clear J K;refine Wf (by simp) ?_;refine Wp.skip ?_;apply Y;clear Y S;refine Wb Xi fun K J=>?_;simp[hwm];apply J;clear J K;refine⟨hSt c z l x y [(1,iV .i64 a),(2,iV .i64 b),(4, .one (.ptr 4 0)),(9, .one (.ptr 9 0)),(10, .one (.ptr 10 0)),(14,iV .i64 (m+1:Nat))],k - 1,?_,by omega,m+1,by omega,by omega,YS hno (by unfold p12;rw[hge];simp[h2]),rfl⟩;apply Go1<;>simp[Ez.cv]
   have e2:=eq_true h2;cases e3:v.e.writes
   ·refine Wp.skip ?_;apply Y;clear Y S;refine We fun S Y=>?_;refine Wp.block ?_;refine Wa Xi fun K J=>?_;simp[hml,Xe,Xd,Ez.cv,hv];apply J;clear J K;refine Wa Xi fun K J=>?_;simp[se3,se2,se1,Xo,Kb,X2,unS,Xa,Ev.eta',Xg,Xf,hfb,e1,e2,e3];apply J;clear J K;refine Wf (by simp) ?_;refine Wp.skip ?_;apply Y;clear Y S;refine Wb Xi fun K J=>?_;simp[hwm];apply J;clear J K;refine⟨hSt c z l x y [(1,iV .i64 a),(2,iV .i64 b),(4, .one (.ptr 4 0)),(9, .one (.ptr 9 0)),(10, .one (.ptr 10 0)),(14,iV .i64 (m+1:Nat))],k - 1,?_,by omega,m+1,by omega,by omega,YS hno (by unfold p12;rw[hge];simp[e3]),rfl⟩;apply Go1<;>simp[Ez.cv]
   cases e4:inB v.e.da x.e.pos
   ·cases e5:inB v.e.dd x.e.pos
    ·refine Wp.skip ?_;apply Y;clear Y S;refine We fun S Y=>?_;refine Wp.block ?_;refine Wa Xi fun K J=>?_;simp[hml,Xe,Xd,Ez.cv,hv];apply J;clear J K;refine Wa Xi fun K J=>?_;simp[se3,se2,se1,Xo,Kb,DN,X2,unS,Xa,Ev.eta',Xg,Xf,hfb,m1,m2,e1,e2,e3,e4,e5];apply J;clear J K;refine Wf (by simp) ?_;refine Wp.skip ?_;apply Y;clear Y S;refine Wb Xi fun K J=>?_;simp[hwm];apply J;clear J K;refine⟨hSt c z l x y [(1,iV .i64 a),(2,iV .i64 b),(4, .one (.ptr 4 0)),(9, .one (.ptr 9 0)),(10, .one (.ptr 10 0)),(14,iV .i64 (m+1:Nat))],k - 1,?_,by omega,m+1,by omega,by omega,YS hno (by unfold p12;rw[hge];simp[e4,e5]),rfl⟩;apply Go1<;>simp[Ez.cv]
    ·refine Wp.skip ?_;apply Y;clear Y S;refine We fun S Y=>?_;refine Wp.block ?_;refine Wa Xi fun K J=>?_;simp[hml,Xe,Xd,Ez.cv,hv];apply J;clear J K;refine Wa Xi fun K J=>?_;simp[se3,se2,se1,Xo,Kb,DN,X2,unS,Xa,Ev.eta',Xg,Xf,hfb,m1,m2,e1,e2,e3,e4,e5];apply J;clear J K;refine Wt (by simp) ?_;refine Wa Xi fun K J=>?_;simp;apply J;clear J K;refine Wp.ret ?_;simp;rw[←hR,Ul ham hm (by unfold p12;rw[hge];simp[show XE y.e.kind=true from e1,h2,e3,e5])]
   ·refine Wp.skip ?_;apply Y;clear Y S;refine We fun S Y=>?_;refine Wp.block ?_;refine Wa Xi fun K J=>?_;simp[hml,Xe,Xd,Ez.cv,hv];apply J;clear J K;refine Wa Xi fun K J=>?_;simp[se3,se2,se1,Xo,Kb,DN,X2,unS,Xa,Ev.eta',Xg,Xf,hfb,m1,e1,e2,e3,e4];apply J;clear J K;refine Wt (by simp) ?_;refine Wa Xi fun K J=>?_;simp;apply J;clear J K;refine Wp.ret ?_;simp;rw[←hR,Ul ham hm (by unfold p12;rw[hge];simp[show XE y.e.kind=true from e1,h2,e3,e4])]
  ·have hm:¬m<b:=by simpa using hc
   obtain rfl:m=b:=by omega
   rw[IV hno]at hR;refine Wp.exit ?_;simp only[XW,XG,if_true];clear Y S;apply Y;clear Y S;refine Wa Xi fun K J=>?_;simp;apply J;clear J K;refine Wp.ret ?_;simp;exact hR.symm
 ·repeat(first|((first|refine Wa Xi fun K J=>?_|refine Wb Xi fun K J=>?_|refine Wc Xi [] fun K J=>?_|refine Wd Xi [] fun K J=>?_);simp[hwa];first|done|(with_reducible refine J _ ?_;clear J K)|(apply And.intro;(·kernel_rfl);with_reducible refine J _ ?_;clear J K))|refine We fun S Y=>?_|refine Wp.block ?_|refine Wp.skip ?_|(apply Wt;· (simp;done))|(apply Wf;· (simp;done))|(apply Y;clear Y S)|(clear Y S;apply Y;clear Y S))
  refine Wp.loop (fun k s=>∃m:Nat,m+k=b∧a<m∧(∀i,a<i→i<m→p13 (l.map Ez.e) y.e.kind x.e.pos i=false)∧s=hSt c z l x y [(1,iV .i64 a),(2,iV .i64 b),(4, .one (.ptr 4 0)),(9, .one (.ptr 9 0)),(10, .one (.ptr 10 0)),(16,iV .i64 m)])
   (b - (a+1)) (s0:=hSt c z l x y [(1,iV .i64 a),(2,iV .i64 b),(4, .one (.ptr 4 0)),(9, .one (.ptr 9 0)),(10, .one (.ptr 10 0)),(16,iV .i64 (a+1:Nat))]) ?_ ⟨a+1,by omega,by omega,fun i h1 h2=>(by omega),rfl⟩ fun k s ⟨m,hmk,ham,hno,hs⟩=>?_
  ·apply Go1<;>simp[Ez.cv]
  subst hs;refine We fun S Y=>?_;refine Wa Xi fun K J=>?_;simp;apply J;clear J K;refine Wp.cond rfl (fun hc=>?_) (fun hc=>?_)
  ·have hm:m<b:=by simpa using hc
   have hml:m<l.length:=by omega
   have hwm:IntKind.i64.wrap ((m:Int)+1)=(m+1:Nat):=by rw[wrap_small]<;>omega
   obtain⟨v,hv⟩:∃v,l[m]=v:=⟨_,rfl⟩;have hge:(l.map Ez.e).getD m default=v.e:=by rw[RB hml,hv]
   clear hc;obtain⟨m1,m2,m3⟩:=AW ok hml;rw[hv]at m1 m2 m3;cases e1:y.e.writes
   ·refine Wp.skip ?_;apply Y;clear Y S;refine We fun S Y=>?_;refine Wp.block ?_;refine Wa Xi fun K J=>?_;simp[hml,Xe,Xd,Ez.cv,hv];apply J;clear J K;refine Wa Xi fun K J=>?_;simp[se3,se2,se1,Xo,Kb,X2,unS,Xa,Ev.eta',e1];apply J;clear J K;refine Wf (by simp) ?_;refine Wp.skip ?_;apply Y;clear Y S;refine Wb Xi fun K J=>?_;simp[hwm];apply J;clear J K;refine⟨hSt c z l x y [(1,iV .i64 a),(2,iV .i64 b),(4, .one (.ptr 4 0)),(9, .one (.ptr 9 0)),(10, .one (.ptr 10 0)),(16,iV .i64 (m+1:Nat))],k - 1,?_,by omega,m+1,by omega,by omega,YS hno (by unfold p13;rw[hge];simp[show Xt y.e.kind=false from e1]),rfl⟩;apply Go1<;>simp[Ez.cv]
   cases e3:v.e.mem
   ·refine Wp.skip ?_;apply Y;clear Y S;refine We fun S Y=>?_;refine Wp.block ?_;refine Wa Xi fun K J=>?_;simp[hml,Xe,Xd,Ez.cv,hv];apply J;clear J K;refine Wa Xi fun K J=>?_;simp[se3,se2,se1,Xo,Kb,X2,unS,Xa,Ev.eta',e1,e3];apply J;clear J K;refine Wf (by simp) ?_;refine Wp.skip ?_;apply Y;clear Y S;refine Wb Xi fun K J=>?_;simp[hwm];apply J;clear J K;refine⟨hSt c z l x y [(1,iV .i64 a),(2,iV .i64 b),(4, .one (.ptr 4 0)),(9, .one (.ptr 9 0)),(10, .one (.ptr 10 0)),(16,iV .i64 (m+1:Nat))],k - 1,?_,by omega,m+1,by omega,by omega,YS hno (by unfold p13;rw[hge];simp[e3]),rfl⟩;apply Go1<;>simp[Ez.cv]
   cases e4:inB v.e.da x.e.pos
   ·refine Wp.skip ?_;apply Y;clear Y S;refine We fun S Y=>?_;refine Wp.block ?_;refine Wa Xi fun K J=>?_;simp[hml,Xe,Xd,Ez.cv,hv];apply J;clear J K;refine Wa Xi fun K J=>?_;simp[se3,se2,se1,Xo,Kb,DN,X2,unS,Xa,Ev.eta',m1,e1,e3,e4];apply J;clear J K;refine Wf (by simp) ?_;refine Wp.skip ?_;apply Y;clear Y S;refine Wb Xi fun K J=>?_;simp[hwm];apply J;clear J K;refine⟨hSt c z l x y [(1,iV .i64 a),(2,iV .i64 b),(4, .one (.ptr 4 0)),(9, .one (.ptr 9 0)),(10, .one (.ptr 10 0)),(16,iV .i64 (m+1:Nat))],k - 1,?_,by omega,m+1,by omega,by omega,YS hno (by unfold p13;rw[hge];simp[e4]),rfl⟩;apply Go1<;>simp[Ez.cv]
   ·refine Wp.skip ?_;apply Y;clear Y S;refine We fun S Y=>?_;refine Wp.block ?_;refine Wa Xi fun K J=>?_;simp[hml,Xe,Xd,Ez.cv,hv];apply J;clear J K;refine Wa Xi fun K J=>?_;simp[se3,se2,se1,Xo,Kb,DN,X2,unS,Xa,Ev.eta',m1,e1,e3,e4];apply J;clear J K;refine Wt (by simp) ?_;refine Wa Xi fun K J=>?_;simp;apply J;clear J K;refine Wp.ret ?_;simp;rw[←hR,Ul ham hm (by unfold p13;rw[hge];simp[show Xt y.e.kind=true from e1,e3,e4])]
  ·have hm:¬m<b:=by simpa using hc
   obtain rfl:m=b:=by omega
   rw[IV hno]at hR;refine Wp.exit ?_;simp only[XW,XG,if_true];clear Y S;apply Y;clear Y S;refine Wa Xi fun K J=>?_;simp;apply J;clear J K;refine Wp.ret ?_;simp;exact hR.symm
def VQ:List EV→Option (Prop×Yw)
 |[v]=>(match X2 v with|some x=>some (VR x.e, .val (iV .i64 (Yh (Xn x.e))))|none=>none)
 |_=>none
def sb3:Dw.Spec:=Xo 44 VQ HH
theorem XX:XA Tryz.prog sb3:=by
 refine Xp ⟨⟨_,Tryz.func44,rfl,rfl⟩⟩ (fun vs p r h hp=>?_) Xb;unfold VQ at h;split at h
 ·split at h
  ·rename_i x hx;simp only[ab,af]at h;obtain⟨rfl,rfl⟩:=h;exact Yp (.cons (Kd hx) .nil) (Ff _ hp)
  ·cases h
 ·cases h
theorem Ts(h:Int)(z:Bool)(l:List Ez)(hn:l.length≤1000)(hf:∀x∈l,VR x.e):Xq Tryz.prog 16 [iV .i64 h,sV z 14 (XS l)] (.val (iV .i64 (Mc (Z2 h (l.map Ez.e))))):=by
 refine Xk (rs:=[.tmp 4]) (Xl _) Tryz.func16 rfl Tryz.ntmps16 rfl (by simp) ?_;refine Wa XX fun K J=>?_;simp;apply J;clear J K;refine We fun S Y=>?_;refine Wa XX fun K J=>?_;simp;apply J;clear J K;refine Wp.block ?_;refine Wp.loop (fun k s=>∃i:Nat,i+k=l.length∧(∀j,j<i→rowAt h (l.map Ez.e) j=true)∧s=⟨[(0,iV .i64 h),(1,sV z 14 (XS l)),(5,iV .i64 i)],[]⟩)
  l.length (s0:=⟨[(0,iV .i64 h),(1,sV z 14 (XS l)),(5,iV .i64 (0:Nat))],[]⟩) ?_ ⟨0,by simp,by simp,rfl⟩ fun k s ⟨i,hik,hr,hs⟩=>?_
 ·apply Go1<;>simp
 subst hs;by_cases hi:i<l.length
 ·have hw:IntKind.i64.wrap ((i:Int)+1)=(i+1:Nat):=by rw[wrap_small]<;>omega
  have hfe:=hf l[i] (ba hi);obtain⟨x,hx⟩:∃x,l[i]=x:=⟨_,rfl⟩;have hgx:(l.map Ez.e).getD i default=x.e:=by rw[RB hi,hx]
  rw[hx]at hfe;have no:rowAt h (l.map Ez.e) i=false→Z2 h (l.map Ez.e)=false:=fun q=>all_false (by simpa using hi) q;have hrow:rowAt h (l.map Ez.e) i=((Xn x.e&&(decide (x.e.hart=h)&&decide (x.e.pos=i)))&&(decide (x.e.kind≠4)||Ie (l.map Ez.e) i)):=by unfold rowAt;rw[hgx]
  refine We fun S Y=>?_;refine Wa XX fun K J=>?_;simp[hi,Xe];apply J;clear J K;refine Wt (by simp) ?_;refine Wp.skip ?_;apply Y;clear Y S;refine We fun S Y=>?_;refine Wp.block ?_;refine Wa XX fun K J=>?_;simp[hi,Xe,Xd,Ez.cv,hx];apply J;clear J K;refine We fun S Y=>?_;refine We fun S Y=>?_;cases he:Xn x.e
  ·refine Wb XX fun K J=>?_;simp[sb3,Xo,VQ,X2,unS,Xa,Ev.eta',hfe,he,Yh];apply J;clear J K;apply Y;clear Y S;refine Wt (by simp) ?_;refine Wa XX fun K J=>?_;simp;apply J;clear J K;refine Wp.ret ?_;simp;rw[no (by rw[hrow,he];rfl)];rfl
  by_cases hh:x.e.hart=h
  case neg=>
   have qhh:=bh hh;refine Wb XX fun K J=>?_;simp[sb3,Xo,VQ,X2,unS,Xa,Ev.eta',hfe,he,Yh,qhh];apply J;clear J K;apply Y;clear Y S;refine Wt (by simp) ?_;refine Wa XX fun K J=>?_;simp;apply J;clear J K;refine Wp.ret ?_;simp;rw[no (by rw[hrow,bk hh];simp)];rfl
  have qhh:=eq_true hh;by_cases hp:x.e.pos=(i:Int)
  case neg=>
   have qhp:=bh hp;refine Wb XX fun K J=>?_;simp[sb3,Xo,VQ,X2,unS,Xa,Ev.eta',hfe,he,Yh,qhh,qhp];apply J;clear J K;apply Y;clear Y S;refine Wt (by simp) ?_;refine Wa XX fun K J=>?_;simp;apply J;clear J K;refine Wp.ret ?_;simp;rw[no (by rw[hrow,bk hp];simp)];rfl
  have qhp:=eq_true hp;rw[he,ck hh,ck hp]at hrow;by_cases k4:x.e.kind=4
  case neg=>
   have qk4:=bh k4;have hok:rowAt h (l.map Ez.e) i=true:=by rw[hrow,ck k4];rfl
   refine Wb XX fun K J=>?_;simp[sb3,Xo,VQ,X2,unS,Xa,Ev.eta',hfe,he,Yh,qhh,qhp];apply J;clear J K;apply Y;clear Y S;refine Wf (by simp) ?_;refine Wp.skip ?_;apply Y;clear Y S;refine We fun S Y=>?_;refine Wa XX fun K J=>?_;simp[qk4];apply J;clear J K;refine Wt (by simp) ?_;refine Wp.exit ?_;simp only[XW,XG,if_true];clear Y S;apply Y;clear Y S;refine Wb XX fun K J=>?_;simp[hw];apply J;clear J K;refine⟨⟨[(0,iV .i64 h),(1,sV z 14 (XS l)),(5,iV .i64 (i+1:Nat))],[]⟩,k - 1,?_,by omega,i+1,by omega,YR hr hok,rfl⟩;apply Go1<;>simp
  have qk4:=eq_true k4;have hsc:rowAt h (l.map Ez.e) i=Ie (l.map Ez.e) i:=by rw[hrow,bk (fun q=>q k4)];rfl
  obtain⟨p0,p1⟩:=Vz he k4;obtain⟨j,hj⟩:∃j:Nat,x.e.pair=j:=⟨x.e.pair.toNat,by omega⟩;have hji:j<i:=by omega
  have hjl:j<l.length:=by omega
  obtain⟨y,hy⟩:∃y,l[j]=y:=⟨_,rfl⟩;have hgy:(l.map Ez.e).getD j default=y.e:=by rw[RB hjl,hy]
  have hwj:IntKind.i64.wrap ((j:Int)+1)=(j+1:Nat):=by rw[wrap_small]<;>omega
  by_cases y3:y.e.kind=3
  case neg=>
   have q3:=bh y3;refine Wb XX fun K J=>?_;simp[sb3,Xo,VQ,X2,unS,Xa,Ev.eta',hfe,he,Yh,qhh,qhp];apply J;clear J K;apply Y;clear Y S;refine Wf (by simp) ?_;refine Wp.skip ?_;apply Y;clear Y S;refine We fun S Y=>?_;refine Wa XX fun K J=>?_;simp[qk4];apply J;clear J K;refine Wf (by simp) ?_;refine Wp.skip ?_;apply Y;clear Y S;refine We fun S Y=>?_;refine We fun S Y=>?_
   skip
   ((first|refine Wa XX fun K J=>?_|refine Wb XX fun K J=>?_|refine Wc XX [] fun K J=>?_|refine Wd XX [] fun K J=>?_);simp[hj,hjl,Xe,Xd,Ez.cv,hy,q3];apply And.intro;(·kernel_rfl);with_reducible refine J _ ?_;clear J K)
   apply Y;clear Y S;refine Wt (by simp) ?_;refine Wa XX fun K J=>?_;simp;apply J;clear J K;refine Wp.ret ?_;simp;rw[no (by rw[hsc,Ie,hgx,hj];simp only[au,hgy];simp[y3])];rfl
  have q3:=eq_true y3;by_cases ya:y.e.addr=x.e.addr
  case neg=>
   have qa:=bh ya;refine Wb XX fun K J=>?_;simp[sb3,Xo,VQ,X2,unS,Xa,Ev.eta',hfe,he,Yh,qhh,qhp];apply J;clear J K;apply Y;clear Y S;refine Wf (by simp) ?_;refine Wp.skip ?_;apply Y;clear Y S;refine We fun S Y=>?_;refine Wa XX fun K J=>?_;simp[qk4];apply J;clear J K;refine Wf (by simp) ?_;refine Wp.skip ?_;apply Y;clear Y S;refine We fun S Y=>?_;refine We fun S Y=>?_
   skip
   ((first|refine Wa XX fun K J=>?_|refine Wb XX fun K J=>?_|refine Wc XX [] fun K J=>?_|refine Wd XX [] fun K J=>?_);simp[hj,hjl,Xe,Xd,Ez.cv,hy,q3,qa];apply And.intro;(·kernel_rfl);with_reducible refine J _ ?_;clear J K)
   apply Y;clear Y S;refine Wt (by simp) ?_;refine Wa XX fun K J=>?_;simp;apply J;clear J K;refine Wp.ret ?_;simp;rw[no (by rw[hsc,Ie,hgx,hj];simp only[au,hgy];simp[ya])];rfl
  have qa:=eq_true ya;refine Wb XX fun K J=>?_;simp[sb3,Xo,VQ,X2,unS,Xa,Ev.eta',hfe,he,Yh,qhh,qhp];apply J;clear J K;apply Y;clear Y S;refine Wf (by simp) ?_;refine Wp.skip ?_;apply Y;clear Y S;refine We fun S Y=>?_;refine Wa XX fun K J=>?_;simp[qk4];apply J;clear J K;refine Wf (by simp) ?_;refine Wp.skip ?_;apply Y;clear Y S;refine We fun S Y=>?_;refine We fun S Y=>?_
  skip
  ((first|refine Wa XX fun K J=>?_|refine Wb XX fun K J=>?_|refine Wc XX [] fun K J=>?_|refine Wd XX [] fun K J=>?_);simp[hj,hjl,Xe,Xd,Ez.cv,hy,q3,qa];apply And.intro;(·kernel_rfl);with_reducible refine J _ ?_;clear J K)
  apply Y;clear Y S;refine Wf (by simp) ?_;refine Wp.skip ?_;apply Y;clear Y S;refine Wa XX fun K J=>?_;simp[hwj];apply J;clear J K;refine Wp.block ?_;refine Wp.loop (fun k s=>∃m:Nat,m+k=i∧j<m∧(∀a,j<a→a<m→lH (l.map Ez.e) a)∧s=⟨[(0,iV .i64 h),(1,sV z 14 (XS l)),(5,iV .i64 i),(7,iV .i64 m)],[]⟩)
   (i - (j+1)) (s0:=⟨[(0,iV .i64 h),(1,sV z 14 (XS l)),(5,iV .i64 i),(7,iV .i64 (j+1:Nat))],[]⟩) ?_ ⟨j+1,by omega,by omega,fun a h1 h2=>by omega,rfl⟩ fun k2 s ⟨m,hmk,hjm,hm2,hs⟩=>?_
  ·apply Go1<;>simp
  subst hs;by_cases hm:m<i
  ·have hml:m<l.length:=by omega
   have hwm:IntKind.i64.wrap ((m:Int)+1)=(m+1:Nat):=by rw[wrap_small]<;>omega
   obtain⟨v,hv⟩:∃v,l[m]=v:=⟨_,rfl⟩;have hgv:(l.map Ez.e).getD m default=v.e:=by rw[RB hml,hv]
   by_cases v3:v.e.kind=3
   ·refine We fun S Y=>?_;refine Wa XX fun K J=>?_;simp[hm];apply J;clear J K;refine Wt (by simp) ?_;refine Wp.skip ?_;apply Y;clear Y S;refine We fun S Y=>?_;refine Wp.block ?_;refine Wa XX fun K J=>?_;simp[hml,Xe,Xd,Ez.cv,hv,v3];apply J;clear J K;refine Wt (by simp) ?_;refine Wa XX fun K J=>?_;simp;apply J;clear J K;refine Wp.ret ?_;simp;rw[no (by rw[hsc];exact qh hj hgx hjm hm (fun q=>q.1 (by rw[hgv];exact v3)))];rfl
   by_cases v4:v.e.kind=4
   ·refine We fun S Y=>?_;refine Wa XX fun K J=>?_;simp[hm];apply J;clear J K;refine Wt (by simp) ?_;refine Wp.skip ?_;apply Y;clear Y S;refine We fun S Y=>?_;refine Wp.block ?_;refine Wa XX fun K J=>?_;simp[hml,Xe,Xd,Ez.cv,hv,v4];apply J;clear J K;refine Wt (by simp) ?_;refine Wa XX fun K J=>?_;simp;apply J;clear J K;refine Wp.ret ?_;simp;rw[no (by rw[hsc];exact qh hj hgx hjm hm (fun q=>q.2 (by rw[hgv];exact v4)))];rfl
   refine We fun S Y=>?_;refine Wa XX fun K J=>?_;simp[hm];apply J;clear J K;refine Wt (by simp) ?_;refine Wp.skip ?_;apply Y;clear Y S;refine We fun S Y=>?_;refine Wp.block ?_;refine Wa XX fun K J=>?_;simp[hml,Xe,Xd,Ez.cv,hv,v3,v4];apply J;clear J K;refine Wf (by simp) ?_;refine Wp.skip ?_;apply Y;clear Y S;refine Wb XX fun K J=>?_;simp[hwm];apply J;clear J K;refine⟨⟨[(0,iV .i64 h),(1,sV z 14 (XS l)),(5,iV .i64 i),(7,iV .i64 (m+1:Nat))],[]⟩,k2 - 1,?_,by omega,m+1,by omega,by omega,fun a h1 h2=>?_,rfl⟩
   ·apply Go1<;>simp
   rcases cp a m with g|g
   ·exact hm2 a h1 g
   ·obtain rfl:a=m:=by omega
    unfold lH;rw[hgv];exact⟨v3,v4⟩
  ·obtain rfl:m=i:=by omega
   have hok:rowAt h (l.map Ez.e) m=true:=by
    rw[hsc,Ie,hgx,hj];simp only[au,hgy,y3,ya,and_self,decide_true,ce];rw[ao];intro a ha;have ha:=ay.1 ha;rw[al];rcases cp j a with g|g
    ·exact .inr (hm2 a g ha)
    ·exact .inl (by omega)
   refine We fun S Y=>?_;refine Wa XX fun K J=>?_;simp;apply J;clear J K;refine Wf (by simp) ?_;refine Wp.exit ?_;simp only[XW,XG,if_true];clear Y S;apply Y;clear Y S;refine Wb XX fun K J=>?_;simp[hw];apply J;clear J K;refine⟨⟨[(0,iV .i64 h),(1,sV z 14 (XS l)),(5,iV .i64 (m+1:Nat))],[]⟩,k - 1,?_,by omega,m+1,by omega,YR hr hok,rfl⟩;apply Go1<;>simp
 ·refine We fun S Y=>?_;refine Wa XX fun K J=>?_;simp[hi,Xe];apply J;clear J K;refine Wf (by simp) ?_;refine Wp.exit ?_;simp only[XW,XG,if_true];clear Y S;apply Y;clear Y S;refine Wa XX fun K J=>?_;simp;apply J;clear J K;refine Wp.ret ?_;simp;have:Z2 h (l.map Ez.e)=true:=all_true fun j hj=>hr j (by rw[ai]at hj;omega);rw[this];rfl
theorem Fk(z:Bool)(xs:List (Int×Int))(hn:xs.length≤1000000):Xq Tryz.prog 15 [sV z 2 (Y1 xs)] (.val (bV (KI xs))):=by
 refine Xk (rs:=[.tmp 2]) (Xl _) Tryz.func15 rfl Tryz.ntmps15 rfl (by simp) ?_;refine Wa Xb fun K J=>?_;simp;apply J;clear J K;refine We fun S Y=>?_;refine Wa Xb fun K J=>?_;simp;apply J;clear J K;refine Wp.block ?_;refine Wp.loop (fun k s=>∃(i:Nat),i+k=xs.length∧i≤xs.length∧s=⟨[(0,sV z 2 (Y1 xs)),(3,iV .i64 i)],[]⟩∧∀j,j<i→cellAt xs j=true)
  xs.length (s0:=⟨[(0,sV z 2 (Y1 xs)),(3,iV .i64 (0:Nat))],[]⟩) ?_ ⟨0,by simp,by simp,rfl,by simp⟩ fun k s ⟨i,hik,hil,hs,hr⟩=>?_
 ·apply Go1<;>simp
 subst hs;refine We fun S Y=>?_;refine Wa Xb fun K J=>?_;simp[XD];apply J;clear J K;refine Wp.cond rfl (fun hc=>?_) (fun hc=>?_)
 ·have hi:i<xs.length:=by simpa using hc
  have hw:IntKind.i64.wrap ((i:Int)+1)=(i+1:Nat):=by rw[wrap_small]<;>omega
  have hgi:xs.getD i (0,0)=xs[i]:=by simp[aa hi]
  have no:¬cellAt xs i=true→KI xs=false:=fun h=>all_false hi (by simpa using h);by_cases h8:(xs[i].1).tmod 8=0
  case neg=>
   refine Wp.skip ?_;apply Y;clear Y S;refine We fun S Y=>?_;refine Wp.block ?_;refine We fun S Y=>?_
   ((first|refine Wa Xb fun K J=>?_|refine Wb Xb fun K J=>?_|refine Wc Xb [] fun K J=>?_|refine Wd Xb [] fun K J=>?_);simp[hi,XD,XC,h8];apply And.intro;(·kernel_rfl);with_reducible refine J _ ?_;clear J K)
   apply Y;clear Y S;refine Wt (by simp) ?_;refine Wa Xb fun K J=>?_;simp;apply J;clear J K;refine Wp.ret ?_;simp;exact no (by simp[cellAt,hi,h8])
  by_cases h0:0<i
  case neg=>
   obtain rfl:i=0:=by omega
   refine Wp.skip ?_;apply Y;clear Y S;refine We fun S Y=>?_;refine Wp.block ?_;refine We fun S Y=>?_
   ((first|refine Wa Xb fun K J=>?_|refine Wb Xb fun K J=>?_|refine Wc Xb [] fun K J=>?_|refine Wd Xb [] fun K J=>?_);simp[hi,XD,XC,h8];apply And.intro;(·kernel_rfl);with_reducible refine J _ ?_;clear J K)
   apply Y;clear Y S;refine Wf (by simp) ?_;refine Wp.skip ?_;apply Y;clear Y S;refine Wb Xb fun K J=>?_;simp;apply J;clear J K;refine⟨⟨[(0,sV z 2 (Y1 xs)),(3,iV .i64 (0+1:Nat))],[]⟩,k - 1,?_,by omega,0+1,by omega,by omega,rfl,YR hr ?_⟩
   ·apply Go1<;>simp[IntKind.wrap,IntKind.bits,IntKind.signed]
   simp[cellAt,hi,h8]
  have hj:i - 1<xs.length:=by omega
  have hw1:IntKind.i64.wrap ((i:Int) - 1)=((i - 1:Nat):Int):=by rw[wrap_small]<;>omega
  by_cases hlt:xs[i - 1].1<xs[i].1
  case neg=>
   have hle:xs[i].1≤xs[i - 1].1:=by omega
   refine Wp.skip ?_;apply Y;clear Y S;refine We fun S Y=>?_;refine Wp.block ?_;refine We fun S Y=>?_
   ((first|refine Wa Xb fun K J=>?_|refine Wb Xb fun K J=>?_|refine Wc Xb [] fun K J=>?_|refine Wd Xb [] fun K J=>?_);simp[hi,XD,XC,h8,h0,hw1,hj,hle];apply And.intro;(·kernel_rfl);with_reducible refine J _ ?_;clear J K)
   apply Y;clear Y S;refine Wt (by simp) ?_;refine Wa Xb fun K J=>?_;simp;apply J;clear J K;refine Wp.ret ?_;simp;exact no (by simp[cellAt,hi,hj,h8,h0,hlt])
  ·have hle:¬xs[i].1≤xs[i - 1].1:=by omega
   refine Wp.skip ?_;apply Y;clear Y S;refine We fun S Y=>?_;refine Wp.block ?_;refine We fun S Y=>?_
   ((first|refine Wa Xb fun K J=>?_|refine Wb Xb fun K J=>?_|refine Wc Xb [] fun K J=>?_|refine Wd Xb [] fun K J=>?_);simp[hi,XD,XC,h8,h0,hw1,hj,hle];apply And.intro;(·kernel_rfl);with_reducible refine J _ ?_;clear J K)
   apply Y;clear Y S;refine Wf (by simp) ?_;refine Wp.skip ?_;apply Y;clear Y S;refine Wb Xb fun K J=>?_;simp[hw];apply J;clear J K;refine⟨⟨[(0,sV z 2 (Y1 xs)),(3,iV .i64 (i+1:Nat))],[]⟩,k - 1,?_,by omega,i+1,by omega,by omega,rfl,YR hr ?_⟩
   ·apply Go1<;>simp
   simp[cellAt,hi,hj,h8,hlt]
 ·have hi:¬i<xs.length:=by simpa using hc
  have hv:KI xs=true:=all_true fun j hj=>hr j (by omega);refine Wp.exit ?_;simp only[XW,XG,if_true];clear Y S;apply Y;clear Y S;refine Wa Xb fun K J=>?_;simp;apply J;clear J K;refine Wp.ret ?_;simp;exact hv
theorem Fe(z:Bool)(xs:List (Int×Int))(a:Int)(hn:xs.length≤1000000):Xq Tryz.prog 46 [sV z 2 (Y1 xs),iV .u64 a] (.val (iV .u64 (Ks xs a))):=by
 obtain⟨R,hR⟩:∃R,Ks xs a=R:=⟨_,rfl⟩;rw[hR];refine Xk (rs:=[.tmp 4]) (Xl _) Tryz.func46 rfl Tryz.ntmps46 rfl (by simp) ?_;refine Wa Xb fun K J=>?_;simp;apply J;clear J K;refine We fun S Y=>?_;refine Wa Xb fun K J=>?_;simp;apply J;clear J K;refine Wp.block ?_;refine Wp.loop (fun k s=>∃i:Nat,i+k=xs.length∧Ks (xs.drop i) a=R∧s=⟨[(0,sV z 2 (Y1 xs)),(1,iV .u64 a),(5,iV .i64 i)],[]⟩)
  xs.length (s0:=⟨[(0,sV z 2 (Y1 xs)),(1,iV .u64 a),(5,iV .i64 (0:Nat))],[]⟩) ?_ ⟨0,by simp,by simpa using hR,rfl⟩ fun k s ⟨i,hik,hr,hs⟩=>?_
 ·apply Go1<;>simp
 subst hs;refine We fun S Y=>?_;refine Wa Xb fun K J=>?_;simp[XD];apply J;clear J K;refine Wp.cond rfl (fun hc=>?_) (fun hc=>?_)
 ·have hi:i<xs.length:=by simpa using hc
  have hw:IntKind.i64.wrap ((i:Int)+1)=(i+1:Nat):=by rw[wrap_small]<;>omega
  rw[bj hi]at hr;by_cases hx:xs[i].1=a
  ·refine Wp.skip ?_;apply Y;clear Y S;refine We fun S Y=>?_;refine Wp.block ?_;refine Wa Xb fun K J=>?_;simp[hi,XD,XC,hx];apply J;clear J K;refine Wt (by simp) ?_;refine Wa Xb fun K J=>?_;simp[hi,XD,XC,hx];apply J;clear J K;refine Wp.ret ?_;simp;rw[←hr,Ks,ko (by simpa using hx)];rfl
  ·refine Wp.skip ?_;apply Y;clear Y S;refine We fun S Y=>?_;refine Wp.block ?_;refine Wa Xb fun K J=>?_;simp[hi,XD,XC,hx];apply J;clear J K;refine Wf (by simp) ?_;refine Wp.skip ?_;apply Y;clear Y S;refine Wb Xb fun K J=>?_;simp[hw];apply J;clear J K;refine⟨⟨[(0,sV z 2 (Y1 xs)),(1,iV .u64 a),(5,iV .i64 (i+1:Nat))],[]⟩,k - 1,?_,by omega,i+1,by omega,?_,rfl⟩
   ·apply Go1<;>simp
   rw[←hr,Ks,Ks,kq (by simpa using hx)]
 ·have hi:¬i<xs.length:=by simpa using hc
  rw[cg (by omega)]at hr;refine Wp.exit ?_;simp only[XW,XG,if_true];clear Y S;apply Y;clear Y S;refine Wa Xb fun K J=>?_;simp;apply J;clear J K;refine Wp.ret ?_;simp;rw[←hr];rfl
def FD:List EV→Option (Prop×Yw)
 |[.one (.c (.sl _z 2 els)), .one (.c (.sc (.int .u64 a)))]=>(match unC els with|some xs=>some (xs.length≤1000000, .val (iV .u64 (Ks xs a)))|none=>none)
 |_=>none
def sd1:Dw.Spec:=Xo 46 FD se1
theorem Yl:XA Tryz.prog sd1:=by
 refine Xp ⟨⟨_,Tryz.func46,rfl,rfl⟩⟩ (fun vs p r h hp=>?_) Xv;unfold FD at h;split at h
 ·split at h
  ·rename_i xs hx;simp only[ab,af]at h;obtain⟨rfl,rfl⟩:=h;rw[G6 hx];exact Fe _ _ _ hp
  ·cases h
 ·cases h
theorem Lm(c:Cz)(z:Bool)(all:List Ez)(n:Nat)(hn:n<all.length)(hl:c.fr.length=all.length)(_h1:all.length≤1000)(h2:c.f.length≤1000000):
  Xq Tryz.prog 18 [X9 c,sV z 14 (XS all),iV .i64 n] (.val (bV (Ve c.f c.fr (all.map Ez.e) n))):=by
 have hge:(all.map Ez.e).getD n default=all[n].e:=by simp[aa hn]
 have hfn:n<c.fr.length:=by omega
 have hgf:c.fr.getD n 0=c.fr[n]:=by simp[aa hfn]
 unfold X9;refine Xk (rs:=[.tmp 6]) (Xl _) Tryz.func18 rfl Tryz.ntmps18 rfl (by simp) ?_;refine Wa Yl fun K J=>?_;simp;apply J;clear J K;refine We fun S Y=>?_
 ((first|refine Wa Yl fun K J=>?_|refine Wb Yl fun K J=>?_|refine Wc Yl [7] fun K J=>?_|refine Wd Yl [7] fun K J=>?_);simp[hn,hfn,Xe,Xd,Xg,Xf,Ez.cv];apply And.intro;(·kernel_rfl);with_reducible refine J _ ?_;clear J K)
 have hd:Ve c.f c.fr (all.map Ez.e) n=(if all[n].e.reads=false then decide (c.fr[n]= -1)else if c.fr[n]= -1 then decide (all[n].e.load=Ks c.f all[n].e.addr)
   else decide (0≤c.fr[n]∧c.fr[n]<all.length∧c.fr[n]≠n)&&(((all.map Ez.e).getD (c.fr[n]).toNat default).writes&&decide (((all.map Ez.e).getD (c.fr[n]).toNat default).addr=all[n].e.addr∧((all.map Ez.e).getD (c.fr[n]).toNat default).store=all[n].e.load))):=by
  unfold Ve;rw[hge,hgf];simp only[ai]
 cases hrd:all[n].e.reads
 ·apply Y;clear Y S;refine We fun S Y=>?_;refine Wp.block ?_;refine Wa Yl fun K J=>?_;simp[sd1,se1,Xo,Kb,X2,unS,Xa,Ev.eta',hrd];apply J;clear J K;refine Wt (by simp) ?_;refine Wa Yl fun K J=>?_;simp;apply J;clear J K;refine Wp.ret ?_;simp;rw[hd];simp[hrd]
 by_cases hv:c.fr[n]= -1
 ·have qv:=eq_true hv;apply Y;clear Y S;refine We fun S Y=>?_;refine Wp.block ?_;refine Wa Yl fun K J=>?_;simp[sd1,se1,Xo,Kb,X2,unS,Xa,Ev.eta',hrd];apply J;clear J K;refine Wf (by simp) ?_;refine Wa Yl fun K J=>?_;simp[qv];apply J;clear J K;refine Wt (by simp) ?_;refine Wc Yl [] fun K J=>?_;simp[sd1,Xo,FD,Ya,h2];apply And.intro;(·kernel_rfl);apply J;clear J K;refine Wp.ret ?_;simp;rw[hd];simp[hrd,hv]
 have qv:=bh hv;by_cases h0:c.fr[n]<0
 ·have q0:=eq_true h0;apply Y;clear Y S;refine We fun S Y=>?_;refine Wp.block ?_;refine Wa Yl fun K J=>?_;simp[sd1,se1,Xo,Kb,X2,unS,Xa,Ev.eta',hrd];apply J;clear J K;refine Wf (by simp) ?_;refine Wa Yl fun K J=>?_;simp[qv];apply J;clear J K;refine Wf (by simp) ?_;refine Wa Yl fun K J=>?_;simp[q0];apply J;clear J K;refine Wt (by simp) ?_;refine Wa Yl fun K J=>?_;simp;apply J;clear J K;refine Wp.ret ?_;simp;rw[hd];simp[hrd,hv];omega
 have q0:=bh h0;by_cases hg:(all.length:Int)≤c.fr[n]
 ·have qg:=eq_true hg;apply Y;clear Y S;refine We fun S Y=>?_;refine Wp.block ?_;refine Wa Yl fun K J=>?_;simp[sd1,se1,Xo,Kb,X2,unS,Xa,Ev.eta',hrd];apply J;clear J K;refine Wf (by simp) ?_;refine Wa Yl fun K J=>?_;simp[qv];apply J;clear J K;refine Wf (by simp) ?_;refine Wa Yl fun K J=>?_;simp[Xe,q0,qg];apply J;clear J K;refine Wt (by simp) ?_;refine Wa Yl fun K J=>?_;simp;apply J;clear J K;refine Wp.ret ?_;simp;rw[hd];simp[hrd,hv];omega
 have qg:=bh hg;by_cases he:c.fr[n]=(n:Int)
 ·have qe:=eq_true he;apply Y;clear Y S;refine We fun S Y=>?_;refine Wp.block ?_;refine Wa Yl fun K J=>?_;simp[sd1,se1,Xo,Kb,X2,unS,Xa,Ev.eta',hrd];apply J;clear J K;refine Wf (by simp) ?_;refine Wa Yl fun K J=>?_;simp[qv];apply J;clear J K;refine Wf (by simp) ?_;refine Wa Yl fun K J=>?_;simp[Xe,q0,qg,qe];apply J;clear J K;refine Wt (by simp) ?_;refine Wa Yl fun K J=>?_;simp;apply J;clear J K;refine Wp.ret ?_;simp;rw[hd];simp[hrd,he]
 have qe:=bh he;have k0:0≤c.fr[n]:=by omega
 have k1:c.fr[n]<(all.length:Int):=by omega
 have k2:(c.fr[n]).toNat<all.length:=by omega
 have hgv:(all.map Ez.e).getD (c.fr[n]).toNat default=all[(c.fr[n]).toNat].e:=by simp[aa k2]
 rw[hgv]at hd;cases hwr:all[(c.fr[n]).toNat].e.writes
 ·apply Y;clear Y S;refine We fun S Y=>?_;refine Wp.block ?_;refine Wa Yl fun K J=>?_;simp[sd1,se1,Xo,Kb,X2,unS,Xa,Ev.eta',hrd];apply J;clear J K;refine Wf (by simp) ?_;refine Wa Yl fun K J=>?_;simp[qv];apply J;clear J K;refine Wf (by simp) ?_;refine Wa Yl fun K J=>?_;simp[Xe,q0,qg,qe];apply J;clear J K;refine Wf (by simp) ?_;refine Wp.skip ?_;apply Y;clear Y S;refine Wc Yl [] fun K J=>?_;simp[sd1,se1,Xo,Kb,X2,unS,Xa,Ev.eta',Xe,Xd,Ez.cv,k0,k1,k2,hwr];apply And.intro;(·kernel_rfl);apply J;clear J K;refine Wp.ret ?_;simp;rw[hd];simp[hrd,hv,hwr]
 by_cases ha:all[(c.fr[n]).toNat].e.addr=all[n].e.addr
 case neg=>
  have qa:=bh ha;apply Y;clear Y S;refine We fun S Y=>?_;refine Wp.block ?_;refine Wa Yl fun K J=>?_;simp[sd1,se1,Xo,Kb,X2,unS,Xa,Ev.eta',hrd];apply J;clear J K;refine Wf (by simp) ?_;refine Wa Yl fun K J=>?_;simp[qv];apply J;clear J K;refine Wf (by simp) ?_;refine Wa Yl fun K J=>?_;simp[Xe,q0,qg,qe];apply J;clear J K;refine Wf (by simp) ?_;refine Wp.skip ?_;apply Y;clear Y S;refine Wc Yl [] fun K J=>?_;simp[sd1,se1,Xo,Kb,X2,unS,Xa,Ev.eta',Xe,Xd,Ez.cv,k0,k1,k2,hwr,qa];apply And.intro;(·kernel_rfl);apply J;clear J K;refine Wp.ret ?_;simp;rw[hd];simp[hrd,hv,hwr,ha]
 have qa:=eq_true ha;apply Y;clear Y S;refine We fun S Y=>?_;refine Wp.block ?_;refine Wa Yl fun K J=>?_;simp[sd1,se1,Xo,Kb,X2,unS,Xa,Ev.eta',hrd];apply J;clear J K;refine Wf (by simp) ?_;refine Wa Yl fun K J=>?_;simp[qv];apply J;clear J K;refine Wf (by simp) ?_;refine Wa Yl fun K J=>?_;simp[Xe,q0,qg,qe];apply J;clear J K;refine Wf (by simp) ?_;refine Wp.skip ?_;apply Y;clear Y S;refine Wc Yl [] fun K J=>?_;simp[sd1,se1,Xo,Kb,X2,unS,Xa,Ev.eta',Xe,Xd,Ez.cv,k0,k1,k2,hwr,qa];apply And.intro;(·kernel_rfl);apply J;clear J K;refine Wp.ret ?_;simp;rw[hd];simp[hrd,hv,hwr,ha,k0,k1,he]
theorem LQ(n:Nat)(hn:n≤8):Xq Tryz.prog 91 [iV .u64 1,iV .u64 n] (.val (.tup [iV .u64 0,iV .u64 n])):=by
 have:n=0∨n=1∨n=2∨n=3∨n=4∨n=5∨n=6∨n=7∨n=8:=by omega
 refine Xk (rs:=[.tmp 4, .tmp 5]) (Xl _) Tryz.func91 rfl Tryz.ntmps91 rfl (by simp) ?_;rcases this with rfl|rfl|rfl|rfl|rfl|rfl|rfl|rfl|rfl
 all_goals
  repeat(first|((first|refine Wa Xb fun K J=>?_|refine Wb Xb fun K J=>?_|refine Wc Xb [] fun K J=>?_|refine Wd Xb [] fun K J=>?_);simp[IntKind.wrap,IntKind.bits,IntKind.signed];done)|((first|refine Wa Xb fun K J=>?_|refine Wb Xb fun K J=>?_|refine Wc Xb [] fun K J=>?_|refine Wd Xb [] fun K J=>?_);simp[IntKind.wrap,IntKind.bits,IntKind.signed];with_reducible refine J _ ?_;clear J K)|((first|refine Wa Xb fun K J=>?_|refine Wb Xb fun K J=>?_|refine Wc Xb [] fun K J=>?_|refine Wd Xb [] fun K J=>?_);simp[IntKind.wrap,IntKind.bits,IntKind.signed];apply And.intro;(·kernel_rfl);with_reducible refine J _ ?_;clear J K)|(refine We fun S Y=>?_)|(refine Wp.block ?_)|(refine Wp.skip ?_)|(apply Wp.condT; · (simp[IntKind.wrap,IntKind.bits,IntKind.signed];done))|(apply Wp.condF; · (simp[IntKind.wrap,IntKind.bits,IntKind.signed];done))|(apply Y;clear Y S)|(clear Y S;apply Y;clear Y S)|(clear Y S;clear Y S;apply Y;clear Y S)|(clear Y S;clear Y S;clear Y S;apply Y;clear Y S))
  refine Wp.ret ?_;simp
def AI:List EV→Option (Prop×Yw)
 |[.one (.c (.sc (.int .u64 1))), .one (.c (.sc (.int .u64 n)))]=>some (0≤n∧n≤8, .val (.tup [iV .u64 0,iV .u64 n]))
 |_=>none
def sm1:Dw.Spec:=Xo 91 AI HH
theorem Tc:XA Tryz.prog sm1:=by
 refine Xp ⟨⟨_,Tryz.func91,rfl,rfl⟩⟩ (fun vs p r h hp=>?_) Xb;unfold AI at h;split at h
 ·rename_i n;simp only[ab,af]at h;obtain⟨rfl,rfl⟩:=h;obtain⟨m,rfl⟩:∃m:Nat,n=m:=⟨n.toNat,by omega⟩;exact LQ m (by omega)
 ·cases h
theorem NW(n:Nat)(hn:n≤8):Xq Tryz.prog 61 [iV .u64 1,iV .u64 n] (.val (.tup [iV .u64 0,iV .u64 n])):=by
 have h8:(n:Int)≤8:=by omega
 refine Xk (rs:=[.tmp 4, .tmp 5]) (Xl _) Tryz.func61 rfl Tryz.ntmps61 rfl (by simp) ?_;refine Wa Tc fun K J=>?_;simp;apply J;clear J K;refine We fun S Y=>?_;refine Wf (by simp) ?_;refine Wp.skip ?_;apply Y;clear Y S;refine Wa Tc fun K J=>?_;simp[sm1,Xo,AI,h8];apply J;clear J K;refine Wa Tc fun K J=>?_;simp;apply J;clear J K;refine Wp.ret ?_;simp
end Go.Proofs.YtbkpmfjfpcoehaaGreatDoor
