/- What is computed, as data, and laws of it. No condition. -/
import Derived.Laws.Rows
import Derived.Maps.OwnOps
import Derived.Maps.Views
import Derived.WideMake
import Derived.Test.YtbkpmfjfpcoehaaGreatDoorWj
set_option maxHeartbeats 16000000
namespace Go.Proofs.YtbkpmfjfpcoehaaGreatDoor
open Go Go.RowKit Dw
set_option maxRecDepth 100000
theorem Mx{P:Program}{f:FuncId}{vs:List EV}{e e':Nat}(h:Xq P f vs (.val (sV true e []))):Xq P f vs (.val (sV true e' [])):=by
 intro M w us hM hu;refine(h M w us hM hu).mono ?_;rintro r w' ⟨u,rfl,hb,hr⟩;refine⟨u,rfl,hb,?_⟩;have hr:XY w' _ noB (sV true e []) u:=hr;cases hr with|one hr=>
 have hr':XH w' _ (.sl true e []) u:=hr;cases hr';exact .one (.nil (esz:=e'))
def JS(c:Cz):List Ez:=if XV (Yr c)=true then KM c.hs else []
def AF:List EV→Option (Prop×Yw)
 |[v]=>(match Kn v with|some c=>some (GI c, .val (sV (decide ((Xh c.hs).length=0)) 14 (XS (KM c.hs))))|none=>none)
 |_=>none
def sk1:Dw.Spec:=Xo 17 AF sj
theorem QA:XA Tryz.prog sk1:=by
 refine Xp ⟨⟨_,Tryz.func17,rfl,rfl⟩⟩ (fun vs p r h hp=>?_) V9;unfold AF at h;split at h
 ·split at h
  ·rename_i c hc;simp only[ab,af]at h;obtain⟨rfl,rfl⟩:=h;rw[Yf hc];exact KC (U8 c hp)
  ·cases h
 ·cases h
theorem TA(c:Cz)(hc0:GI c):Xq Tryz.prog 87 [X9 c] (.val (sV (decide ((JS c).length=0)) 14 (XS (JS c)))):=by
 have bok:=eq_true hc0;cases hck:XV (Yr c)
 ·have e:JS c=[]:=by simp[JS,hck]
  rw[e];refine Mx (e:=0) ?_;unfold X9;refine Xk (rs:=[.tmp 2]) (Xl _) Tryz.func87 rfl Tryz.ntmps87 rfl (by simp) ?_;refine Wa QA fun K J=>?_;simp;apply J;clear J K;refine We fun S Y=>?_;refine Wa QA fun K J=>?_;simp[sk1,sj,Xo,Vc,Xu,bok,hck,Yh];apply J;clear J K;refine Wt (by simp) ?_;refine Wa QA fun K J=>?_;simp;apply J;clear J K;refine Wp.ret ?_;simp
 ·have e:JS c=KM c.hs:=by simp[JS,hck]
  have el:(KM c.hs).length=(Xh c.hs).length:=by simp[KM]
  rw[e,el];unfold X9;refine Xk (rs:=[.tmp 2]) (Xl _) Tryz.func87 rfl Tryz.ntmps87 rfl (by simp) ?_;refine Wa QA fun K J=>?_;simp;apply J;clear J K;refine We fun S Y=>?_;refine Wa QA fun K J=>?_;simp[sk1,sj,Xo,Vc,Xu,bok,hck,Yh];apply J;clear J K;refine Wf (by simp) ?_;refine Wp.skip ?_;apply Y;clear Y S;refine Wa QA fun K J=>?_;simp[sk1,Xo,AF,Xu,bok];apply J;clear J K;refine Wp.ret ?_;simp
def Oi:List EV→Option (Prop×Yw)
 |[v]=>(match Kn v with|some c=>some (GI c, .val (sV (decide ((JS c).length=0)) 14 (XS (JS c))))|none=>none)
 |_=>none
def sk2:Dw.Spec:=Xo 87 Oi sk1
theorem Vl:XA Tryz.prog sk2:=by
 refine Xp ⟨⟨_,Tryz.func87,rfl,rfl⟩⟩ (fun vs p r h hp=>?_) QA;unfold Oi at h;split at h
 ·split at h
  ·rename_i c hc;simp only[ab,af]at h;obtain⟨rfl,rfl⟩:=h;rw[Yf hc];exact TA c hp
  ·cases h
 ·cases h
def I6(c:Cz)(l:List Ez):EV:= .agg [.c (.sl c.z1 2 (Y1 c.f)), .c (.sl c.z2 1 (Xw c.hs)), .c (.sl c.z3 1 (Xj c.fr)), .c (.sl c.z4 1 (Xj c.od)), .c (.sl (decide (l.length=0)) 14 (XS l))]
theorem Np(c:Cz)(hc0:GI c):Xq Tryz.prog 54 [X9 c] (.val (.tup [I6 c (JS c),bV (XV (Yr c))])):=by
 have bok:=eq_true hc0;unfold X9 I6;refine Xk (rs:=[.cell 2 116, .tmp 3]) (Xl _) Tryz.func54 rfl Tryz.ntmps54 rfl (by simp) ?_;refine We fun S Y=>?_
 first|refine Wa Vl fun K J=>?_|refine Wb Vl fun K J=>?_|refine Wc Vl [] fun K J=>?_|refine Wd Vl [] fun K J=>?_
 simp;apply J;clear J K;apply Y;clear Y S;refine We fun S Y=>?_;refine Wp.frzBox (b:=1) (cs:=c.cv) rfl rfl ?_;change Wp _ _ _ _ (⟨[(0,X9 c),(1,cA c),(2, .one (.ptr 2 0)),(3,bV false)],[(2, .box [.c (.sl true 0 []), .c (.sl true 0 []), .c (.sl true 0 []), .c (.sl true 0 []), .c (.sl true 0 [])])]⟩:St);cases hck:XV (Yr c)
 ·((first|refine Wa Vl fun K J=>?_|refine Wb Vl fun K J=>?_|refine Wc Vl [2] fun K J=>?_|refine Wd Vl [2] fun K J=>?_);simp[sk2,sk1,sj,Xo,Vc,Oi,Xu,bok,hck,Yh];apply And.intro;(·kernel_rfl);with_reducible refine J _ ?_;clear J K)
  apply Y;clear Y S;refine Wp.ret ?_;simp;exact hck
 ·((first|refine Wa Vl fun K J=>?_|refine Wb Vl fun K J=>?_|refine Wc Vl [2] fun K J=>?_|refine Wd Vl [2] fun K J=>?_);simp[sk2,sk1,sj,Xo,Vc,Oi,Xu,bok,hck,Yh];apply And.intro;(·kernel_rfl);with_reducible refine J _ ?_;clear J K)
  apply Y;clear Y S;refine Wp.ret ?_;simp;exact hck
end Go.Proofs.YtbkpmfjfpcoehaaGreatDoor
namespace Go.Proofs.YtbkpmfjfpcoehaaGreatDoor
open Go Go.RowKit
set_option maxRecDepth 100000
def placeOf(od:List Int)(k j:Nat):Int:=(List.range k).foldl (fun a i=>if od.getD i 0=(j:Int)then(i:Int)else a) (-1)
def X5(n:Nat)(od:List Int):List Int:=(List.range n).map (placeOf od od.length)
theorem Gg(od:List Int)(k j:Nat):placeOf od (k+1) j=if od.getD k 0=(j:Int)then(k:Int)else placeOf od k j:=by
 simp[placeOf,List.range_succ]
theorem G9(n:Nat)(od:List Int):(X5 n od).length=n:=by simp[X5]
theorem Zt{n:Nat}{od:List Int}{j:Nat}(hj:j<n):(X5 n od).getD j 0=placeOf od od.length j:=by
 simp[X5,hj]
end Go.Proofs.YtbkpmfjfpcoehaaGreatDoor
namespace Go.Proofs.YtbkpmfjfpcoehaaGreatDoor
open Go Go.RowKit Dw
set_option maxRecDepth 100000
theorem Pk(l:List Int)(i:Nat)(v:Int):(Xj l).set i [.sc (.int .i64 v)]=Xj (l.set i v):=by simp[Xj]
theorem Ar(n:Nat):List.replicate n [Cv.sc (.int .i64 0)]=Xj (List.replicate n 0):=by simp[Xj]
def Ac(n i:Nat):List Int:=List.replicate i (-1)++List.replicate (n - i) 0
theorem NY{n i:Nat}(h:i≤n):(Ac n i).length=n:=by simp[Ac];omega
theorem NX{n i:Nat}(h:i<n):(Ac n i).set i (-1)=Ac n (i+1):=by
 unfold Ac;rw[List.set_append_right _ _ (by simp),fj,fp,show n - i=(n - (i+1))+1 by omega,kb,ja,List.replicate_succ' (n:=i),fg];rfl
theorem Ab(n:Nat):Ac n 0=List.replicate n 0:=by simp[Ac]
theorem NZ(n:Nat):Ac n n=List.replicate n (-1):=by simp[Ac]
def plU(n:Nat)(od:List Int)(k:Nat):List Int:=(List.range n).map (placeOf od k)
theorem NG(n:Nat)(od:List Int):plU n od 0=List.replicate n (-1):=by
 unfold plU;apply jw (by simp);intro i h1 h2;simp[placeOf]
theorem Su(n:Nat)(od:List Int)(k:Nat):(plU n od k).length=n:=by simp[plU]
theorem Ss{n:Nat}{od:List Int}{k:Nat}(hk:k<od.length)(h0:0≤od[k]):(plU n od k).set (od[k]).toNat k=plU n od (k+1):=by
 unfold plU;apply jw (by simp);intro i h1 h2;have hg:od.getD k 0=od[k]:=by rw[ac,aa hk];rfl
 rw[List.getElem_set];simp only[List.getElem_map,List.getElem_range];rw[Gg,hg];by_cases hi:(od[k]).toNat=i
 ·rw[if_pos hi,if_pos (by omega)]
 ·rw[if_neg hi,if_neg (by omega)]
theorem Bu(c:Cz)(hc0:GI c)(hck:XV (Yr c)=true)(hod:∀i (h:i<c.od.length),0≤c.od[i]∧c.od[i]<c.fr.length):
  Xq Tryz.prog 56 [X9 c] (.row false 3 1 (Xj (X5 c.fr.length c.od))):=by
 have bok:=eq_true hc0;have b4:=hc0.fr;have b5:=hc0.od;have n1:(c.fr.length:Int)≤1000000:=by omega
 have n2:8*(c.fr.length:Int)≤281474976710656:=by omega
 have hpl:X5 c.fr.length c.od=plU c.fr.length c.od c.od.length:=rfl;rw[hpl];unfold X9;refine Xk (rs:=[.tmp 2]) (Xl _) Tryz.func56 rfl Tryz.ntmps56 rfl (by simp) ?_;refine We fun S Y=>?_
 first|refine Wa V9 fun K J=>?_|refine Wb V9 fun K J=>?_|refine Wc V9 [] fun K J=>?_|refine Wd V9 [] fun K J=>?_
 simp;apply J;clear J K;apply Y;clear Y S;refine Wp.frzBox (b:=1) (cs:=c.cv) rfl rfl ?_;change Wp _ _ _ _ (⟨[(0,X9 c),(1,cA c),(2,sV true 0 [])],[]⟩:St);refine We fun S Y=>?_;refine Wa V9 fun K J=>?_;simp[sj,Xo,Vc,Xu,bok,hck,Yh];apply J;clear J K;refine Wf (by simp) ?_;refine Wp.skip ?_;apply Y;clear Y S;refine Wa V9 fun K J=>?_;simp[Xg,n1,n2,Ar];apply J;clear J K;refine We fun S Y=>?_;refine Wa V9 fun K J=>?_;simp;apply J;clear J K;refine Wp.block ?_;refine Wp.loop (fun k s=>∃i:Nat,i+k=c.fr.length∧s=⟨[(1,cA c),(2,sV true 0 []),(3, .one (.own 12)),(4,iV .i64 i)],[(12, .row false 3 1 (Xj (Ac c.fr.length i)))]⟩)
  c.fr.length (s0:=⟨[(1,cA c),(2,sV true 0 []),(3, .one (.own 12)),(4,iV .i64 (0:Nat))],[(12, .row false 3 1 (Xj (List.replicate c.fr.length 0)))]⟩) ?_ ⟨0,by simp,by rw[Ab]⟩ fun k s ⟨i,hik,hs⟩=>?_
 ·apply Go1<;>simp
 subst hs;have hml:=NY (n:=c.fr.length) (i:=i) (by omega);refine We fun S Y=>?_;refine Wa V9 fun K J=>?_;simp[Xg,hml];apply J;clear J K;refine Wp.cond rfl (fun hc=>?_) (fun hc=>?_)
 ·have hi:i<c.fr.length:=by simpa using hc
  have hw:IntKind.i64.wrap ((i:Int)+1)=(i+1:Nat):=by rw[wrap_small]<;>omega
  refine Wp.skip ?_;apply Y;clear Y S;refine We fun S Y=>?_;refine Wp.block ?_;refine Wb V9 fun K J=>?_;simp[hi,Xg,hml,Xf];apply J;clear J K;apply Y;clear Y S;refine Wb V9 fun K J=>?_;simp[hw];apply J;clear J K;refine⟨⟨[(1,cA c),(2,sV true 0 []),(3, .one (.own 12)),(4,iV .i64 (i+1:Nat))],[(12, .row false 3 1 (Xj (Ac c.fr.length (i+1))))]⟩,k - 1,?_,by omega,i+1,by omega,rfl⟩;rw[←NX hi];apply Go1<;>simp[Pk]
 ·have hi:¬i<c.fr.length:=by simpa using hc
  obtain rfl:i=c.fr.length:=by omega
  refine Wp.exit ?_;simp only[XW,XG,if_true];rw[NZ,←NG c.fr.length c.od];clear hc hi hik hml;clear Y S;apply Y;clear Y S;refine We fun S Y=>?_;refine Wa V9 fun K J=>?_;simp;apply J;clear J K;refine Wp.block ?_;refine Wp.loop (fun k s=>∃i:Nat,i+k=c.od.length∧s=⟨[(1,cA c),(2,sV true 0 []),(3, .one (.own 12)),(5,iV .i64 i)],[(12, .row false 3 1 (Xj (plU c.fr.length c.od i)))]⟩)
   c.od.length (s0:=⟨[(1,cA c),(2,sV true 0 []),(3, .one (.own 12)),(5,iV .i64 (0:Nat))],[(12, .row false 3 1 (Xj (plU c.fr.length c.od 0)))]⟩) ?_ ⟨0,by simp,rfl⟩ fun k s ⟨i,hik,hs⟩=>?_
  ·apply Go1<;>simp
  subst hs;have hplen:=Su c.fr.length c.od i;refine We fun S Y=>?_;refine Wa V9 fun K J=>?_;simp[Xg];apply J;clear J K;refine Wp.cond rfl (fun hc=>?_) (fun hc=>?_)
  ·have hi:i<c.od.length:=by simpa using hc
   have hw:IntKind.i64.wrap ((i:Int)+1)=(i+1:Nat):=by rw[wrap_small]<;>omega
   obtain⟨o1,o2⟩:=hod i hi;have o3:(c.od[i]).toNat<c.fr.length:=by omega
   refine Wp.skip ?_;apply Y;clear Y S;refine We fun S Y=>?_;refine Wp.block ?_;refine Wb V9 fun K J=>?_;simp[hi,Xg,Xf,hplen,o1,o2,o3];apply J;clear J K;apply Y;clear Y S;refine Wb V9 fun K J=>?_;simp[hw];apply J;clear J K;refine⟨⟨[(1,cA c),(2,sV true 0 []),(3, .one (.own 12)),(5,iV .i64 (i+1:Nat))],[(12, .row false 3 1 (Xj (plU c.fr.length c.od (i+1))))]⟩,k - 1,?_,by omega,i+1,by omega,rfl⟩;rw[←Ss hi o1];apply Go1<;>simp[Pk]
  ·have hi:¬i<c.od.length:=by simpa using hc
   obtain rfl:i=c.od.length:=by omega
   refine Wp.exit ?_;simp only[XW,XG,if_true];clear Y S;apply Y;clear Y S;refine Wa V9 fun K J=>?_;simp;apply J;clear J K;refine Wp.ret ?_;simp
end Go.Proofs.YtbkpmfjfpcoehaaGreatDoor
namespace Go.Proofs.YtbkpmfjfpcoehaaGreatDoor
open Go Go.RowKit
set_option maxRecDepth 100000
section
def allB(c:Cd):List Ev:=if XV c=true then c.harts.flatten else []
theorem Qt{c:Cd}(h:XV c=true):allB c=c.harts.flatten:=by simp[allB,h]
theorem aW{c:Cd}(h:XV c=false):allB c=[]:=by simp[allB,h]
section
variable {w w1 w2:World} {c:Cd} {A1 A2 A3 A4:Option Addr} {c1 c2 c3 c4:Nat}
end
end
def HK(es:List Ev)(fr:List Int)(a b:Nat):Int:=(((List.range 13).find? fun r:Nat=>KR es fr a b ((r:Int)+1)).map fun r:Nat=>(r:Int)+1).getD 0
theorem Ni{es:List Ev}{fr:List Int}{a b k:Nat}(h1:1≤k)(h13:k≤13)(h:KR es fr a b k=true)(hn:∀r:Nat,1≤r→r<k→KR es fr a b r=false):HK es fr a b=k:=by
 obtain⟨j,rfl⟩:∃j,k=j+1:=⟨k - 1,by omega⟩;have:(List.range 13).find? (fun r:Nat=>KR es fr a b ((r:Int)+1))=some j:=by
  rw[jp];refine⟨by simpa using h,j,by simp;omega,by simp,fun i hi=>?_⟩;have:=hn (i+1) (by omega) (by omega);simpa using this
 simp[HK,this]
theorem Nh{es:List Ev}{fr:List Int}{a b:Nat}(hn:∀r:Nat,1≤r→r<14→KR es fr a b r=false):HK es fr a b=0:=by
 have:(List.range 13).find? (fun r:Nat=>KR es fr a b ((r:Int)+1))=none:=by
  rw[jo];intro i hi;have:=hn (i+1) (by omega) (by have:=ay.1 hi;omega);simpa using this
 simp[HK,this]
theorem Br{es:List Ev}{fr:List Int}{a b:Nat}:0<HK es fr a b↔∃r:Nat,1≤r∧r≤13∧KR es fr a b r=true:=by
 unfold HK;cases h:(List.range 13).find? (fun r:Nat=>KR es fr a b ((r:Int)+1))with
 |none=>
  rw[jo]at h;simp only[Option.map_none,Option.getD_none,Int.lt_irrefl,false_iff];rintro⟨r,h1,h2,h3⟩;refine h (r - 1) (ay.2 (by omega)) ?_;rw[show((r - 1:Nat):Int)+1=(r:Int) by omega];exact h3
 |some j=>
  have h1:=List.find?_some h;have h2:=ay.1 (List.mem_of_find?_eq_some h);simp only[bt,ec];exact⟨fun _=>⟨j+1,by omega,by omega,by simpa using h1⟩,fun _=>by omega⟩
def UE(es:List Ev)(pl:List Int)(n:Nat)(best:Int)(k:Nat):Prop:=
 k≠n∧(es.getD k default).writes=true∧(es.getD k default).addr=(es.getD n default).addr∧
  (((es.getD k default).hart=(es.getD n default).hart∧(es.getD k default).pos<(es.getD n default).pos)∨pl.getD k 0<pl.getD n 0)∧(best<0∨pl.getD best.toNat 0<pl.getD k 0)
instance (es:List Ev)(pl:List Int)(n:Nat)(best:Int)(k:Nat):Decidable (UE es pl n best k):=by unfold UE;infer_instance
def Zq(es:List Ev)(pl:List Int)(n:Nat)(best:Int)(k:Nat):Int:=if UE es pl n best k then(k:Int)else best
def HF(es:List Ev)(pl:List Int)(n k:Nat):Int:=(List.range k).foldl (Zq es pl n) (-1)
def Jz(es:List Ev)(pl:List Int)(n:Nat):Int:=HF es pl n es.length
theorem Zo(es:List Ev)(pl:List Int)(n k:Nat):HF es pl n (k+1)=Zq es pl n (HF es pl n k) k:=by simp[HF,List.range_succ]
theorem D2(es:List Ev)(pl:List Int)(n k:Nat): -1≤HF es pl n k∧HF es pl n k<k:=by
 induction k with
 |zero=>simp[HF]
 |succ k ih=>
  rw[Zo];unfold Zq;split
  ·omega
  ·omega
def JT(es:List Ev)(od:List Int)(n i:Nat):Bool:=
 decide ((es.getD (od.getD i 0).toNat default).hart≠(es.getD n default).hart)&&((es.getD (od.getD i 0).toNat default).writes&&decide ((es.getD (od.getD i 0).toNat default).addr=(es.getD n default).addr))
def UF(es:List Ev)(n:Nat):Nat:=((n:Int) - ((es.getD n default).pos - (es.getD n default).pair)).toNat
def Gi(es:List Ev)(od:List Int)(n a m:Nat):Int:=(((List.range m).find? fun i=>decide (a≤i)&&JT es od n i).map fun i=>od.getD i 0).getD (-1)
def Z4(es:List Ev)(fr od pl:List Int)(n:Nat):Int:=
 let s:=fr.getD (UF es n) 0
 if 0≤s then(if pl.getD n 0≤pl.getD s.toNat 0 then s else Gi es od n (pl.getD s.toNat 0+1).toNat (pl.getD n 0).toNat)
 else Gi es od n 0 (pl.getD n 0).toNat
theorem TQ{es:List Ev}{od:List Int}{n a m k:Nat}(h1:a≤k)(h2:k<m)(h:JT es od n k=true)(hn:∀i,a≤i→i<k→JT es od n i=false):Gi es od n a m=od.getD k 0:=by
 have:(List.range m).find? (fun i=>decide (a≤i)&&JT es od n i)=some k:=by
  rw[jp];refine⟨by simp[h1,h],k,by simp;omega,by simp,fun i hi=>?_⟩;by_cases g:a≤i
  ·simp[g,hn i g hi]
  ·simp[g]
 simp[Gi,this]
theorem QK{es:List Ev}{od:List Int}{n a m:Nat}(hn:∀i,a≤i→i<m→JT es od n i=false):Gi es od n a m= -1:=by
 have:(List.range m).find? (fun i=>decide (a≤i)&&JT es od n i)=none:=by
  rw[jo];intro i hi;by_cases g:a≤i
  ·simp[g,hn i g (ay.1 hi)]
  ·simp[g]
 simp[Gi,this]
structure I5(es:List Ev)(fr od pl:List Int)(n:Nat):Prop where
 lt:n<es.length
 few:es.length≤1000
 ofew:od.length≤1000
 fl:fr.length=es.length
 pll:pl.length=es.length
 pos:0≤(es.getD n default).pos∧(es.getD n default).pos≤1000∧0≤(es.getD n default).pair∧(es.getD n default).pair≤1000
 rb:0≤(n:Int) - ((es.getD n default).pos - (es.getD n default).pair)∧(n:Int) - ((es.getD n default).pos - (es.getD n default).pair)<es.length
 frb:∀i,i<es.length→-1≤fr.getD i 0∧fr.getD i 0<es.length
 plb:∀i,i<es.length→-1≤pl.getD i 0∧pl.getD i 0<od.length
 odb:∀i,i<od.length→0≤od.getD i 0∧od.getD i 0<es.length
def DG(es:List Ev)(fr:List Int)(x y:Nat):Prop:=
 x<y∧y<es.length∧(∀m,x<m→m≤y→(es.getD m default).hart=(es.getD x default).hart)∧0<HK es fr x y
inductive Led(es:List Ev)(fr:List Int)(a:Nat):Nat→Prop
 |here:Led es fr a a
 |step {m n:Nat}:Led es fr a m→m<n→0<HK es fr m n→Led es fr a n
open Classical in
noncomputable def cM(es:List Ev)(fr:List Int)(a b:Nat):Bool:=Zj es a b&&decide (Led es fr a b)
end Go.Proofs.YtbkpmfjfpcoehaaGreatDoor
namespace Go.Proofs.YtbkpmfjfpcoehaaGreatDoor
open Go Go.RowKit Dw
set_option maxRecDepth 100000
def RF:List EV→Option (Prop×Yw)
 |[v, .one (.c (.sc (.int .i64 a))), .one (.c (.sc (.int .i64 b))), .one (.c (.sc (.int .i64 r)))]=>(match G5 v with
  |some (c,_,l)=>some (0≤a∧a<b∧b<l.length∧1≤r∧r≤13∧R9 (l.map Ez.e)∧c.fr.length=l.length, .val (bV (KR (l.map Ez.e) c.fr a.toNat b.toNat r)))
  |none=>none)
 |_=>none
def se4:Dw.Spec:=Xo 123 RF se3
theorem ZO:XA Tryz.prog se4:=by
 refine Xp ⟨⟨_,Tryz.func123,rfl,rfl⟩⟩ (fun vs p r h hp=>?_) Xi;unfold RF at h;split at h
 ·split at h
  ·rename_i a b q _ c z l hv;simp only[ab,af]at h;obtain⟨rfl,rfl⟩:=h;obtain⟨h1,h2,h3,h4,h5,h6,h7⟩:=hp;obtain⟨a,rfl⟩:∃m:Nat,a=m:=⟨a.toNat,by omega⟩;obtain⟨b,rfl⟩:∃m:Nat,b=m:=⟨b.toNat,by omega⟩;rw[V7 hv];exact qd c z l a b q h4 h5 (by omega) (by omega) h6 h7
  ·cases h
 ·cases h
theorem Ld(c:Cz)(z:Bool)(l:List Ez)(a b:Nat)(hab:a<b)(hb:b<l.length)(ok:R9 (l.map Ez.e))(hl:c.fr.length=l.length):
  Xq Tryz.prog 88 [Qy c z l,iV .i64 a,iV .i64 b] (.val (iV .i64 (HK (l.map Ez.e) c.fr a b))):=by
 have bok:=eq_true ok;have bl:=eq_true hl;unfold Qy;refine Xk (rs:=[.tmp 6]) (Xl _) Tryz.func88 rfl Tryz.ntmps88 rfl (by simp) ?_;refine Wa ZO fun K J=>?_;simp;apply J;clear J K;refine We fun S Y=>?_;refine Wa ZO fun K J=>?_;simp;apply J;clear J K;refine Wp.block ?_;refine Wp.loop (fun k s=>∃r:Nat,r+k=14∧1≤r∧(∀i:Nat,1≤i→i<r→KR (l.map Ez.e) c.fr a b i=false)∧s=⟨[(1,iV .i64 a),(2,iV .i64 b),(3, .one (.ptr 3 0)),(7,iV .i64 r)],[(3, .box (cV c z l))]⟩)
  13 (s0:=⟨[(1,iV .i64 a),(2,iV .i64 b),(3, .one (.ptr 3 0)),(7,iV .i64 (1:Nat))],[(3, .box (cV c z l))]⟩) ?_ ⟨1,by omega,by omega,fun i h1 h2=>(by omega),rfl⟩ fun k s ⟨r,hrk,hr1,hno,hs⟩=>?_
 ·apply Go1<;>simp
 subst hs;refine We fun S Y=>?_;refine Wa ZO fun K J=>?_;simp;apply J;clear J K;refine Wp.cond rfl (fun hc=>?_) (fun hc=>?_)
 ·have hr:r≤13:=by have:=bo hc;omega
  have hrI:(r:Int)≤13:=by omega
  have hr1I:(1:Int)≤r:=by omega
  have hw:IntKind.i64.wrap ((r:Int)+1)=(r+1:Nat):=by rw[wrap_small]<;>omega
  clear hc;cases hh:KR (l.map Ez.e) c.fr a b r
  ·refine Wp.skip ?_;apply Y;clear Y S;refine We fun S Y=>?_;refine Wp.block ?_;refine Wa ZO fun K J=>?_;simp[se4,Xo,RF,YY,hab,hb,bok,bl,hrI,hr1I,hh];apply J;clear J K;refine Wf (by simp) ?_;refine Wp.skip ?_;apply Y;clear Y S;refine Wb ZO fun K J=>?_;simp[hw];apply J;clear J K;refine⟨⟨[(1,iV .i64 a),(2,iV .i64 b),(3, .one (.ptr 3 0)),(7,iV .i64 (r+1:Nat))],[(3, .box (cV c z l))]⟩,k - 1,?_,by omega,r+1,by omega,by omega,fun i h1 h2=>?_,rfl⟩
   ·apply Go1<;>simp
   rcases cp i r with g|g
   ·exact hno i h1 g
   ·obtain rfl:i=r:=by omega
    exact hh
  ·refine Wp.skip ?_;apply Y;clear Y S;refine We fun S Y=>?_;refine Wp.block ?_;refine Wa ZO fun K J=>?_;simp[se4,Xo,RF,YY,hab,hb,bok,bl,hrI,hr1I,hh];apply J;clear J K;refine Wt (by simp) ?_;refine Wa ZO fun K J=>?_;simp;apply J;clear J K;refine Wp.ret ?_;simp;exact(Ni hr1 hr hh hno).symm
 ·have hr:13<r:=by have:=of_decide_eq_false hc;omega
  refine Wp.exit ?_;simp only[XW,XG,if_true];clear Y S;apply Y;clear Y S;refine Wa ZO fun K J=>?_;simp;apply J;clear J K;refine Wp.ret ?_;simp;exact(Nh fun i h1 h2=>hno i h1 (by omega)).symm
def IH:List EV→Option (Prop×Yw)
 |[v, .one (.c (.sc (.int .i64 a))), .one (.c (.sc (.int .i64 b)))]=>(match G5 v with
  |some (c,_,l)=>some (0≤a∧a<b∧b<l.length∧R9 (l.map Ez.e)∧c.fr.length=l.length, .val (iV .i64 (HK (l.map Ez.e) c.fr a.toNat b.toNat)))
  |none=>none)
 |_=>none
abbrev oSt(c:Cz)(z:Bool)(l:List Ez)(e:Ez)(es:List (Nat×EV)):St:=
 ⟨es,[(3, .box (cV c z l)),(7, .box (e.cv.map .c))]⟩
theorem Bs(c:Cz)(zl:Bool)(l:List Ez)(z:Bool)(pl:List Int)(n:Nat)(hn:n<l.length)(hpl:pl.length=l.length)(h1:l.length≤1000):
  Xq Tryz.prog 58 [Qy c zl l,sV z 1 (Xj pl),iV .i64 n] (.val (iV .i64 (Jz (l.map Ez.e) pl n))):=by
 obtain⟨e,he⟩:∃e,l[n]=e:=⟨_,rfl⟩;have hge:(l.map Ez.e).getD n default=e.e:=by rw[RB hn,he]
 have hpn:n<pl.length:=by omega
 have hgpn:=UA hpn;obtain⟨R,hR⟩:∃R,Jz (l.map Ez.e) pl n=R:=⟨_,rfl⟩;rw[hR];unfold Jz at hR;rw[ai]at hR;unfold Qy;refine Xk (rs:=[.tmp 6]) (Xl _) Tryz.func58 rfl Tryz.ntmps58 rfl (by simp) ?_;refine Wa Xv fun K J=>?_;simp;apply J;clear J K;refine Wa Xv fun K J=>?_;simp[hn,Xe,Xd,Ez.cv,he];apply J;clear J K;refine We fun S Y=>?_;refine Wa Xv fun K J=>?_;simp;apply J;clear J K;refine Wp.block ?_;refine Wp.loop (fun k s=>∃(m:Nat) (best:Int),m+k=l.length∧HF (l.map Ez.e) pl n m=best∧s=oSt c zl l e [(1,sV z 1 (Xj pl)),(2,iV .i64 n),(3, .one (.ptr 3 0)),(7, .one (.ptr 7 0)),(8,iV .i64 best),(9,iV .i64 m)])
  l.length (s0:=oSt c zl l e [(1,sV z 1 (Xj pl)),(2,iV .i64 n),(3, .one (.ptr 3 0)),(7, .one (.ptr 7 0)),(8,iV .i64 (-1)),(9,iV .i64 (0:Nat))]) ?_ ⟨0, -1,by simp,by simp[HF],rfl⟩ fun k s ⟨m,best,hmk,hbe,hs⟩=>?_
 ·apply Go1<;>simp[Ez.cv]
 subst hs;by_cases hi:m<l.length
 ·have hwm:IntKind.i64.wrap ((m:Int)+1)=(m+1:Nat):=by rw[wrap_small]<;>omega
  obtain⟨v,hv⟩:∃v,l[m]=v:=⟨_,rfl⟩;have hgv:(l.map Ez.e).getD m default=v.e:=by rw[RB hi,hv]
  have hpm:m<pl.length:=by omega
  have hgpm:=UA hpm;have hlt:=D2 (l.map Ez.e) pl n m;have hst:=Zo (l.map Ez.e) pl n m;rw[hbe]at hst hlt;have no:¬(m≠n∧v.e.writes=true∧v.e.addr=e.e.addr)→HF (l.map Ez.e) pl n (m+1)=best:=fun h=>by
   rw[hst,Zq,if_neg];unfold UE;rw[hgv,hge];exact fun q=>h ⟨q.1,q.2.1,q.2.2.1⟩
  by_cases q1:m=n
  ·have:=no fun q=>q.1 q1;subst q1;rw[he]at hv;subst hv;refine We fun S Y=>?_;refine Wa Xv fun K J=>?_;simp[hi,Xe,Ez.cv];apply J;clear J K;refine Wt (by simp) ?_;refine Wp.skip ?_;apply Y;clear Y S;refine We fun S Y=>?_;refine Wp.block ?_;refine Wa Xv fun K J=>?_;simp[hi,Xe,Xd,Ez.cv,he];apply J;clear J K;refine We fun S Y=>?_;refine Wa Xv fun K J=>?_;simp;apply J;clear J K;refine Wt (by simp) ?_;refine Wp.exit ?_;simp only[XW,XG,if_true];clear Y S;apply Y;clear Y S;refine Wb Xv fun K J=>?_;simp[hwm];apply J;clear J K;refine⟨_,k - 1,?_,by omega,m+1,best,by omega,this,rfl⟩;apply Go1<;>simp[Ez.cv]
  have e1:((m:Int)=n)=False:=bh (by omega);cases e2:v.e.writes
  ·have:=no fun q=>by have:=q.2.1;rw[e2]at this;cases this
   refine We fun S Y=>?_;refine Wa Xv fun K J=>?_;simp[hi,Xe,Ez.cv];apply J;clear J K;refine Wt (by simp) ?_;refine Wp.skip ?_;apply Y;clear Y S;refine We fun S Y=>?_;refine Wp.block ?_;refine Wa Xv fun K J=>?_;simp[hi,Xe,Xd,Ez.cv,hv];apply J;clear J K;refine We fun S Y=>?_;refine Wa Xv fun K J=>?_;simp[e1,se1,Xo,Kb,X2,unS,Xa,Ev.eta',e2];apply J;clear J K;refine Wt (by simp) ?_;refine Wp.exit ?_;simp only[XW,XG,if_true];clear Y S;apply Y;clear Y S;refine Wb Xv fun K J=>?_;simp[hwm];apply J;clear J K;refine⟨_,k - 1,?_,by omega,m+1,best,by omega,this,rfl⟩;apply Go1<;>simp[Ez.cv]
  by_cases q3:v.e.addr=e.e.addr
  case neg=>
   have:=no fun q=>q3 q.2.2;have e3:=bh q3;refine We fun S Y=>?_;refine Wa Xv fun K J=>?_;simp[hi,Xe,Ez.cv];apply J;clear J K;refine Wt (by simp) ?_;refine Wp.skip ?_;apply Y;clear Y S;refine We fun S Y=>?_;refine Wp.block ?_;refine Wa Xv fun K J=>?_;simp[hi,Xe,Xd,Ez.cv,hv];apply J;clear J K;refine We fun S Y=>?_;refine Wa Xv fun K J=>?_;simp[e1,se1,Xo,Kb,X2,unS,Xa,Ev.eta',e2,e3];apply J;clear J K;refine Wt (by simp) ?_;refine Wp.exit ?_;simp only[XW,XG,if_true];clear Y S;apply Y;clear Y S;refine Wb Xv fun K J=>?_;simp[hwm];apply J;clear J K;refine⟨_,k - 1,?_,by omega,m+1,best,by omega,this,rfl⟩;apply Go1<;>simp[Ez.cv]
  have e3:=eq_true q3;have hst:HF (l.map Ez.e) pl n (m+1)=if((v.e.hart=e.e.hart∧v.e.pos<e.e.pos)∨pl[m]<pl[n])∧(best<0∨pl.getD best.toNat 0<pl[m])then(m:Int)else best:=by
   have hk:UE (l.map Ez.e) pl n best m↔((v.e.hart=e.e.hart∧v.e.pos<e.e.pos)∨pl[m]<pl[n])∧(best<0∨pl.getD best.toNat 0<pl[m]):=by
    unfold UE;rw[hgv,hge,hgpm,hgpn];simp only[ne_eq,q1,jq,e2,q3,true_and]
   rw[hst,Zq];simp only[hk]
  have hb:best= -1∨∃s:Nat,s<m∧best=s:=by
   rcases Int.lt_or_le best 0 with g|g
   ·exact .inl (by omega)
   ·exact .inr ⟨best.toNat,by omega,by omega⟩
  clear no hbe hlt;refine We fun S Y=>?_;refine Wa Xv fun K J=>?_;simp[hi,Xe,Ez.cv];apply J;clear J K;refine Wt (by simp) ?_;refine Wp.skip ?_;apply Y;clear Y S;refine We fun S Y=>?_;refine Wp.block ?_;refine Wa Xv fun K J=>?_;simp[hi,Xe,Xd,Ez.cv,hv];apply J;clear J K;refine We fun S Y=>?_;refine Wa Xv fun K J=>?_;simp[e1,se1,Xo,Kb,X2,unS,Xa,Ev.eta',e2,e3];apply J;clear J K;refine Wf (by simp) ?_;refine Wp.skip ?_;apply Y;clear Y S;refine We fun S Y=>?_;rcases hb with rfl|⟨s,hs,rfl⟩
  ·by_cases h4:v.e.hart=e.e.hart<;>by_cases h5:v.e.pos<e.e.pos<;>by_cases h6:pl[m]<pl[n]
   all_goals
    simp[h4,h5,h6]at hst
    repeat(first|((first|refine Wa Xv fun K J=>?_|refine Wb Xv fun K J=>?_|refine Wc Xv [] fun K J=>?_|refine Wd Xv [] fun K J=>?_);simp[h4,h5,h6,hpm,hpn,Xg,Xf,hwm];first|done|(with_reducible refine J _ ?_;clear J K)|(apply And.intro;(·kernel_rfl);with_reducible refine J _ ?_;clear J K))|refine We fun S Y=>?_|refine Wp.block ?_|refine Wp.skip ?_|(apply Wt;· (simp;done))|(apply Wf;· (simp;done))|(apply Y;clear Y S)|(clear Y S;apply Y;clear Y S))
    refine⟨_,k - 1,?_,by omega,m+1,_,by omega,hst,rfl⟩;apply Go1<;>simp[Ez.cv]
  ·have hps:s<pl.length:=by omega
   have hs0:((s:Int)<0)=False:=bh (by omega);rw[au,UA hps]at hst;by_cases h4:v.e.hart=e.e.hart<;>by_cases h5:v.e.pos<e.e.pos<;>by_cases h6:pl[m]<pl[n]<;>by_cases h7:pl[s]<pl[m]
   all_goals
    simp[h4,h5,h6,h7,hs0]at hst
    repeat(first|((first|refine Wa Xv fun K J=>?_|refine Wb Xv fun K J=>?_|refine Wc Xv [] fun K J=>?_|refine Wd Xv [] fun K J=>?_);simp[h4,h5,h6,h7,hs0,hpm,hpn,hps,Xg,Xf,hwm];first|done|(with_reducible refine J _ ?_;clear J K)|(apply And.intro;(·kernel_rfl);with_reducible refine J _ ?_;clear J K))|refine We fun S Y=>?_|refine Wp.block ?_|refine Wp.skip ?_|(apply Wt;· (simp;done))|(apply Wf;· (simp;done))|(apply Y;clear Y S)|(clear Y S;apply Y;clear Y S))
    refine⟨_,k - 1,?_,by omega,m+1,_,by omega,hst,rfl⟩;apply Go1<;>simp[Ez.cv]
 ·have hnl:m=l.length:=by omega
  subst hnl;rw[hbe]at hR;refine We fun S Y=>?_;refine Wa Xv fun K J=>?_;simp[Xe];apply J;clear J K;refine Wf (by simp) ?_;refine Wp.exit ?_;simp only[XW,XG,if_true];clear Y S;apply Y;clear Y S;refine Wa Xv fun K J=>?_;simp;apply J;clear J K;refine Wp.ret ?_;simp;exact hR
abbrev pSt(c:Cz)(z:Bool)(l:List Ez)(e:Ez)(es:List (Nat×EV)):St:=
 ⟨es,[(3, .box (cV c z l)),(8, .box (e.cv.map .c))]⟩
theorem Lf(c:Cz)(zl:Bool)(l:List Ez)(z:Bool)(pl:List Int)(n:Nat)(ok:I5 (l.map Ez.e) c.fr c.od pl n):
  Xq Tryz.prog 59 [Qy c zl l,sV z 1 (Xj pl),iV .i64 n] (.val (.tup [iV .i64 (UF (l.map Ez.e) n:Nat),iV .i64 (Z4 (l.map Ez.e) c.fr c.od pl n)])):=by
 obtain⟨hn,hfew,hofew,hfl,hpll,⟨hp1,hp2,hp3,hp4⟩,⟨hr1,hr2⟩,hfr,hpl,hod⟩:=ok;rw[ai]at hn hfew hfl hpll hr2 hfr hpl hod;obtain⟨e,he⟩:∃e,l[n]=e:=⟨_,rfl⟩;have hge:(l.map Ez.e).getD n default=e.e:=by rw[RB hn,he]
 obtain⟨r,hr⟩:∃r,UF (l.map Ez.e) n=r:=⟨_,rfl⟩;have hrr:(n:Int) - (e.e.pos - e.e.pair)=r:=by rw[←hr,UF,hge,jm];rw[hge]at hr1;exact hr1
 rw[hge]at hp1 hp2 hp3 hp4 hr1 hr2;obtain⟨W,hW⟩:∃W,Z4 (l.map Ez.e) c.fr c.od pl n=W:=⟨_,rfl⟩;rw[hr,hW];have hrl:r<l.length:=by omega
 have hrf:r<c.fr.length:=by omega
 have hnp:n<pl.length:=by omega
 have w1:IntKind.i64.wrap (e.e.pos - e.e.pair)=e.e.pos - e.e.pair:=by simp only[IntKind.wrap,IntKind.bits,IntKind.signed];simp;omega
 have w2:IntKind.i64.wrap ((n:Int) - (e.e.pos - e.e.pair))=r:=by
  rw[hrr];rw[wrap_small]<;>omega
 have hs:=hfr r hrl;have hpn:=hpl n hn;unfold Z4 at hW;rw[hr,UA hrf,UA hnp]at hW;rw[UA hrf]at hs;rw[UA hnp]at hpn;obtain⟨s,hsv⟩:∃s,c.fr[r]=s:=⟨_,rfl⟩;obtain⟨pn,hpv⟩:∃p,pl[n]=p:=⟨_,rfl⟩;rw[hsv]at hs hW;rw[hpv]at hpn hW;unfold Qy;refine Xk (rs:=[.tmp 6, .tmp 7]) (Xl _) Tryz.func59 rfl Tryz.ntmps59 rfl (by simp) ?_;refine Wa Xv fun K J=>?_;simp;apply J;clear J K;refine Wa Xv fun K J=>?_;simp[hn,Xe,Xd,Ez.cv,he];apply J;clear J K;refine Wa Xv fun K J=>?_;simp[w1,w2];apply J;clear J K;refine Wa Xv fun K J=>?_;simp[hrf,Xg,Xf,hsv];apply J;clear J K;refine Wa Xv fun K J=>?_;simp;apply J;clear J K;refine We fun S Y=>?_;refine Wa Xv fun K J=>?_;simp;apply J;clear J K;have rest:∀(v:Int) (st:St), -1≤v→v<c.od.length→Gi (l.map Ez.e) c.od n (v+1).toNat pn.toNat=W→Gh st (pSt c zl l e [(1,sV z 1 (Xj pl)),(2,iV .i64 n),(3, .one (.ptr 3 0)),(8, .one (.ptr 8 0)),(9,iV .i64 r),(11,iV .i64 v)])→S st:=by
  intro v st hv1 hv2 hU hg;refine Y _ (Wp.gh hg ?_);clear Y hg hW;obtain⟨a,ha⟩:∃a:Nat,v+1=a:=⟨(v+1).toNat,by omega⟩;rw[ha,au]at hU;have wa:IntKind.i64.wrap (v+1)=a:=by rw[ha,wrap_small]<;>omega
  refine We fun S Y=>?_;refine Wa Xv fun K J=>?_;simp[wa];apply J;clear J K;refine Wp.block ?_;refine Wp.loop (fun k s=>∃i:Nat,i+k=c.od.length+1∧a≤i∧(∀j,a≤j→j<i→JT (l.map Ez.e) c.od n j=false)∧s=pSt c zl l e [(1,sV z 1 (Xj pl)),(2,iV .i64 n),(3, .one (.ptr 3 0)),(8, .one (.ptr 8 0)),(9,iV .i64 r),(12,iV .i64 i)])
   (c.od.length+1 - a) (s0:=pSt c zl l e [(1,sV z 1 (Xj pl)),(2,iV .i64 n),(3, .one (.ptr 3 0)),(8, .one (.ptr 8 0)),(9,iV .i64 r),(12,iV .i64 a)]) ?_ ⟨a,by omega,ak _,fun j h1 h2=>by omega,rfl⟩ fun k s ⟨i,hik,hai,hno,hs'⟩=>?_
  ·apply Go1<;>simp[Ez.cv]
  subst hs';by_cases hi:(i:Int)<pn
  ·have hwi:IntKind.i64.wrap ((i:Int)+1)=(i+1:Nat):=by rw[wrap_small]<;>omega
   have hio:i<c.od.length:=by omega
   have ho:=hod i hio;rw[UA hio]at ho;obtain⟨o,hov⟩:∃o:Nat,c.od[i]=o:=⟨(c.od[i]).toNat,by omega⟩;rw[hov]at ho;have hol:o<l.length:=by omega
   obtain⟨x,hx⟩:∃x,l[o]=x:=⟨_,rfl⟩;have hgx:(l.map Ez.e).getD o default=x.e:=by rw[RB hol,hx]
   have hat:JT (l.map Ez.e) c.od n i=(decide (x.e.hart≠e.e.hart)&&(x.e.writes&&decide (x.e.addr=e.e.addr))):=by
    unfold JT;rw[UA hio,hov,au,hgx,hge]
   refine We fun S Y=>?_;refine Wa Xv fun K J=>?_;simp[hnp,hpv,hi,Xg,Xf];apply J;clear J K;refine Wt (by simp) ?_;refine Wp.skip ?_;apply Y;clear Y S;refine We fun S Y=>?_;refine Wp.block ?_;refine We fun S Y=>?_
   skip
   ((first|refine Wa Xv fun K J=>?_|refine Wb Xv fun K J=>?_|refine Wc Xv [13] fun K J=>?_|refine Wd Xv [13] fun K J=>?_);simp[hio,hov,hol,Xe,Xd,Xg,Xf,Ez.cv,hx];apply And.intro;(·kernel_rfl);with_reducible refine J _ ?_;clear J K)
   by_cases q1:x.e.hart=e.e.hart
   ·have e1:=eq_true q1;apply Y;clear Y S;refine Wa Xv fun K J=>?_;simp[e1];apply J;clear J K;refine Wf (by simp) ?_;refine Wp.skip ?_;apply Y;clear Y S;refine Wb Xv fun K J=>?_;simp[hwi];apply J;clear J K;refine⟨pSt c zl l e [(1,sV z 1 (Xj pl)),(2,iV .i64 n),(3, .one (.ptr 3 0)),(8, .one (.ptr 8 0)),(9,iV .i64 r),(12,iV .i64 (i+1:Nat))],k - 1,?_,by omega,i+1,by omega,by omega,fun j h1 h2=>?_,rfl⟩
    ·apply Go1<;>simp[Ez.cv]
    rcases cp j i with g|g
    ·exact hno j h1 g
    ·obtain rfl:j=i:=by omega
     rw[hat];simp[q1]
   have e1:=bh q1;cases e2:x.e.writes
   ·apply Y;clear Y S;refine Wa Xv fun K J=>?_;simp[e1,se1,Xo,Kb,X2,unS,Xa,Ev.eta',e2];apply J;clear J K;refine Wf (by simp) ?_;refine Wp.skip ?_;apply Y;clear Y S;refine Wb Xv fun K J=>?_;simp[hwi];apply J;clear J K;refine⟨pSt c zl l e [(1,sV z 1 (Xj pl)),(2,iV .i64 n),(3, .one (.ptr 3 0)),(8, .one (.ptr 8 0)),(9,iV .i64 r),(12,iV .i64 (i+1:Nat))],k - 1,?_,by omega,i+1,by omega,by omega,fun j h1 h2=>?_,rfl⟩
    ·apply Go1<;>simp[Ez.cv]
    rcases cp j i with g|g
    ·exact hno j h1 g
    ·obtain rfl:j=i:=by omega
     rw[hat,e2];simp
   by_cases q3:x.e.addr=e.e.addr
   case neg=>
    have e3:=bh q3;apply Y;clear Y S;refine Wa Xv fun K J=>?_;simp[e1,se1,Xo,Kb,X2,unS,Xa,Ev.eta',e2,e3];apply J;clear J K;refine Wf (by simp) ?_;refine Wp.skip ?_;apply Y;clear Y S;refine Wb Xv fun K J=>?_;simp[hwi];apply J;clear J K;refine⟨pSt c zl l e [(1,sV z 1 (Xj pl)),(2,iV .i64 n),(3, .one (.ptr 3 0)),(8, .one (.ptr 8 0)),(9,iV .i64 r),(12,iV .i64 (i+1:Nat))],k - 1,?_,by omega,i+1,by omega,by omega,fun j h1 h2=>?_,rfl⟩
    ·apply Go1<;>simp[Ez.cv]
    rcases cp j i with g|g
    ·exact hno j h1 g
    ·obtain rfl:j=i:=by omega
     rw[hat,e2];simp[q3]
   have e3:=eq_true q3;have hw:Gi (l.map Ez.e) c.od n a pn.toNat=o:=by
    rw[TQ hai (by omega) (by rw[hat,e2];simp[q1,q3]) hno,UA hio,hov]
   rw[hw]at hU;apply Y;clear Y S;refine Wa Xv fun K J=>?_;simp[e1,se1,Xo,Kb,X2,unS,Xa,Ev.eta',e2,e3];apply J;clear J K;refine Wt (by simp) ?_;refine We fun S Y=>?_
   skip
   ((first|refine Wa Xv fun K J=>?_|refine Wb Xv fun K J=>?_|refine Wc Xv [] fun K J=>?_|refine Wd Xv [] fun K J=>?_);simp[hio,hov,Xg,Xf];apply And.intro;(·kernel_rfl);with_reducible refine J _ ?_;clear J K)
   apply Y;clear Y S;refine Wp.ret ?_;simp;exact hU
  ·have hw:Gi (l.map Ez.e) c.od n a pn.toNat= -1:=QK fun j h1 h2=>hno j h1 (by omega);rw[hw]at hU;refine We fun S Y=>?_;refine Wa Xv fun K J=>?_;simp[hnp,hpv,hi,Xg,Xf];apply J;clear J K;refine Wf (by simp) ?_;refine Wp.exit ?_;simp only[XW,XG,if_true];clear Y S;apply Y;clear Y S;refine Wa Xv fun K J=>?_;simp;apply J;clear J K;refine Wp.ret ?_;simp;exact hU
 by_cases h0:0≤s
 ·rw[if_pos h0]at hW;obtain⟨m,rfl⟩:∃m:Nat,s=m:=⟨s.toNat,by omega⟩;have hml:m<l.length:=by omega
  have hmp:m<pl.length:=by omega
  have hpm:=hpl m hml;rw[au,UA hmp]at hW;rw[UA hmp]at hpm;obtain⟨q,hq⟩:∃q,pl[m]=q:=⟨_,rfl⟩;rw[hq]at hW hpm;by_cases hle:pn≤q
  ·rw[if_pos hle]at hW;clear rest;refine Wt (by simp[h0]) ?_;refine Wa Xv fun K J=>?_;simp[h0,hmp,hq,Xg,Xf];apply J;clear J K;refine Wa Xv fun K J=>?_;simp[hnp,hpv,hle,Xg,Xf];apply J;clear J K;refine Wt (by simp) ?_;refine Wa Xv fun K J=>?_;simp;apply J;clear J K;refine Wp.ret ?_;simp;exact hW
  ·rw[if_neg hle]at hW;clear Y;refine Wt (by simp[h0]) ?_;refine Wa Xv fun K J=>?_;simp[h0,hmp,hq,Xg,Xf];apply J;clear J K;refine Wa Xv fun K J=>?_;simp[hnp,hpv,hle,Xg,Xf];apply J;clear J K;refine Wf (by simp) ?_;refine Wp.skip ?_;refine rest q _ (by omega) (by omega) hW ?_;apply Go1<;>simp[Ez.cv]
 ·rw[if_neg h0]at hW;clear Y;refine Wf (by simp[h0]) ?_;refine Wp.skip ?_;refine rest (-1) _ (by omega) (by omega) (by simpa using hW) ?_;apply Go1<;>simp[Ez.cv]
def Z7(b:Bool)(x y z:Int):EV:= .agg [.c (.sc (.bool b)), .c (.sc (.int .i64 x)), .c (.sc (.int .i64 y)), .c (.sc (.int .i64 z))]
theorem Tz(x y z:Int):Xq Tryz.prog 55 [iV .i64 x,iV .i64 y,iV .i64 z] (.val (Z7 false x y z)):=by
 unfold Z7;refine Xk (rs:=[.cell 6 79]) (Xl _) Tryz.func55 rfl Tryz.ntmps55 rfl (by simp) ?_;refine Wa Xb fun K J=>?_;simp;apply J;clear J K;refine Wa Xb fun K J=>?_;simp;apply J;clear J K;refine Wp.ret ?_;simp
noncomputable def mA:List EV→Option (Prop×Yw)
 |[v, .one (.c (.sc (.int .i64 a))), .one (.c (.sc (.int .i64 b)))]=>(match G5 v with
  |some (c,_,l)=>some (0≤a∧a<b∧b<l.length∧R9 (l.map Ez.e)∧c.fr.length=l.length, .val (bV (cM (l.map Ez.e) c.fr a.toNat b.toNat)))
  |none=>none)
 |_=>none
def eC:List EV→Option (Prop×Yw)
 |[v]=>(match Kn v with|some c=>some (GI c, .val (.tup [I6 c (JS c),bV (XV (Yr c))]))|none=>none)
 |_=>none
def sn1:Dw.Spec:=Xo 88 IH (Xo 54 eC sk2)
theorem Yb:XA Tryz.prog sn1:=by
 refine Xp ⟨⟨_,Tryz.func88,rfl,rfl⟩⟩ (fun vs p r h hp=>?_) (Xp ⟨⟨_,Tryz.func54,rfl,rfl⟩⟩ (fun vs p r h hp=>?_) Vl)
 ·unfold IH at h;split at h
  ·rename_i v a b;split at h
   ·rename_i c z l hv;simp only[ab,af]at h;obtain⟨rfl,rfl⟩:=h;obtain⟨h1,h2,h3,h4,h5⟩:=hp;obtain⟨a,rfl⟩:∃m:Nat,a=m:=⟨a.toNat,by omega⟩;obtain⟨b,rfl⟩:∃m:Nat,b=m:=⟨b.toNat,by omega⟩;rw[V7 hv];exact Ld c z l a b (by omega) (by omega) h4 h5
   ·cases h
  ·cases h
 ·unfold eC at h;split at h
  ·split at h
   ·rename_i c hc;simp only[ab,af]at h;obtain⟨rfl,rfl⟩:=h;rw[Yf hc];exact Np c hp
   ·cases h
  ·cases h
def prE(L:List (Nat×Nat)):List (List Cv):=L.map fun p=>[.sc (.int .i64 p.1), .sc (.int .i64 p.2)]
theorem QG(L:List (Nat×Nat)):(prE L).length=L.length:=by simp[prE]
theorem Hp(L:List (Nat×Nat))(i:Nat)(h:i<(prE L).length):(prE L)[i]=[.sc (.int .i64 (L[i]'(by simpa[prE]using h)).1), .sc (.int .i64 (L[i]'(by simpa[prE]using h)).2)]:=by simp[prE]
theorem Sq(L:List (Nat×Nat))(a b:Nat):prE (L++[(a,b)])=prE L++[[.sc (.int .i64 a), .sc (.int .i64 b)]]:=by simp[prE]
def Lv(es:List Ev)(fr:List Int)(a:Nat):Nat→Nat→List (Nat×Nat)
 |_,0=>[]
 |k,f+1=>if k<es.length∧(es.getD k default).hart=(es.getD a default).hart then(if 0<HK es fr a k then [(a,k)]else [])++Lv es fr a (k+1) f else []
def HR(es:List Ev)(fr:List Int):Nat→Nat→List (Nat×Nat)
 |_,0=>[]
 |a,f+1=>Lv es fr a (a+1) es.length++HR es fr (a+1) f
theorem ND(es:List Ev)(fr:List Int)(a k f:Nat):(Lv es fr a k f).length≤f:=by
 induction f generalizing k with
 |zero=>simp[Lv]
 |succ f ih=>
  unfold Lv;split
  ·have:=ih (k+1);rw[az];split<;>simp<;>omega
  ·simp
theorem Bz(es:List Ev)(fr:List Int)(a f:Nat):(HR es fr a f).length≤f*es.length:=by
 induction f generalizing a with
 |zero=>simp[HR]
 |succ f ih=>
  unfold HR;have h1:=ih (a+1);have h2:=ND es fr a (a+1) es.length;rw[az,Nat.succ_mul];omega
def Z3(c:Cz):List (Nat×Nat):=HR ((JS c).map Ez.e) c.fr 0 (JS c).length
theorem E9(c:Cz)(hc0:GI c)(hev:R9 ((JS c).map Ez.e))(hfl:XV (Yr c)=true→c.fr.length=(JS c).length):
  Xq Tryz.prog 57 [X9 c] (.val (sV (decide ((Z3 c).length=0)) 2 (prE (Z3 c)))):=by
 have bok:=eq_true hc0;have bev:=eq_true hev;have hno:XV (Yr c)=false→JS c=[]:=fun h=>by simp[JS,h]
 have hn:=hev.n;obtain⟨T,hT⟩:∃T,Z3 c=T:=⟨_,rfl⟩;rw[hT];unfold Z3 at hT;have hTl:=Bz ((JS c).map Ez.e) c.fr 0 (JS c).length;rw[hT]at hTl;obtain⟨l,hl⟩:∃l,JS c=l:=⟨_,rfl⟩;rw[hl]at hT hn bev hfl hno hTl;rw[ai]at hn hTl;have hTb:T.length≤1000000:=bd hTl (Nat.mul_le_mul hn hn);obtain⟨zl,hz⟩:∃z,decide (l=[])=z:=⟨_,rfl⟩;unfold X9;refine Xk (rs:=[.tmp 2]) (Xl _) Tryz.func57 rfl Tryz.ntmps57 rfl (by simp) ?_;refine We fun S Y=>?_
 first|refine Wa Yb fun K J=>?_|refine Wb Yb fun K J=>?_|refine Wc Yb [] fun K J=>?_|refine Wd Yb [] fun K J=>?_
 simp;apply J;clear J K;apply Y;clear Y S;refine Wp.frzBox (b:=1) (cs:=c.cv) rfl rfl ?_;change Wp _ _ _ _ (⟨[(0,X9 c),(1,cA c),(2,sV true 0 [])],[]⟩:St);refine Wa Yb fun K J=>?_;simp[sn1,Xo,eC,I6,Xu,bok,hl,hz];apply J;clear J K;refine Wa Yb fun K J=>?_;simp;apply J;clear J K;refine We fun S Y=>?_;refine Wa Yb fun K J=>?_;simp;apply J;clear J K;refine Wp.block ?_;refine Wp.loop (fun k s=>∃(a:Nat) (L:List (Nat×Nat)),a+k=l.length∧L++HR (l.map Ez.e) c.fr a k=T∧s=⟨[(3, .one (.ptr 3 0)),(4,bV (XV (Yr c))),(5, .one (.own 5)),(6,iV .i64 a)],[(3, .box (cV c zl l)),(5, .row (decide (L.length=0)) 123 2 (prE L))]⟩)
  l.length (s0:=⟨[(3, .one (.ptr 3 0)),(4,bV (XV (Yr c))),(5, .one (.own 5)),(6,iV .i64 (0:Nat))],[(3, .box (cV c zl l)),(5, .row true 123 2 [])]⟩) ?_ ⟨0,[],by simp,by simpa using hT,by simp[prE]⟩ fun kk s ⟨a,L,hak,hLT,hs⟩=>?_
 ·refine .trans (.adopt (t:=5) (b:=5) rfl rfl 123 2) ?_;apply Go1<;>simp
 subst hs;by_cases ha:a<l.length
 ·have hck:XV (Yr c)=true:=by
   cases h:XV (Yr c)
   ·rw[hno h]at ha;simp at ha
   ·rfl
  have bfl:=eq_true (hfl hck);have hwa:IntKind.i64.wrap ((a:Int)+1)=(a+1:Nat):=by rw[wrap_small]<;>omega
  obtain⟨k',rfl⟩:∃k',kk=k'+1:=⟨kk - 1,by omega⟩;unfold HR at hLT;rw[ai]at hLT;have hga:(l.map Ez.e).getD a default=l[a].e:=by simp[aa ha]
  rw[hck];refine We fun S Y=>?_;refine Wa Yb fun K J=>?_;simp[ha,Xe];apply J;clear J K;refine Wt (by simp) ?_;refine Wp.skip ?_;apply Y;clear Y S;refine We fun S Y=>?_;refine Wp.block ?_;refine Wa Yb fun K J=>?_;simp[hwa];apply J;clear J K;refine Wp.block ?_;refine Wp.loop (fun k s=>∃(m f:Nat) (L:List (Nat×Nat)),m+k=l.length∧a<m∧f+(m - (a+1))=l.length∧L++(Lv (l.map Ez.e) c.fr a m f++HR (l.map Ez.e) c.fr (a+1) k')=T∧s=⟨[(3, .one (.ptr 3 0)),(4,bV true),(5, .one (.own 5)),(6,iV .i64 a),(7,iV .i64 m)],[(3, .box (cV c zl l)),(5, .row (decide (L.length=0)) 123 2 (prE L))]⟩)
   (l.length - (a+1)) (s0:=⟨[(3, .one (.ptr 3 0)),(4,bV true),(5, .one (.own 5)),(6,iV .i64 a),(7,iV .i64 (a+1:Nat))],[(3, .box (cV c zl l)),(5, .row (decide (L.length=0)) 123 2 (prE L))]⟩) ?_ ⟨a+1,l.length,L,by omega,by omega,by omega,hLT,rfl⟩ fun k s ⟨m,f,L,hmk,ham,hfm,hLT,hs⟩=>?_
  ·apply Go1<;>simp
  subst hs;have exitCase:Lv (l.map Ez.e) c.fr a m f=[]→L++HR (l.map Ez.e) c.fr (a+1) k'=T:=fun h=>by rw[h]at hLT;exact hLT
  by_cases hm:m<l.length
  ·have hgm:(l.map Ez.e).getD m default=l[m].e:=by simp[aa hm]
   have hwm:IntKind.i64.wrap ((m:Int)+1)=(m+1:Nat):=by rw[wrap_small]<;>omega
   by_cases hh:l[m].e.hart=l[a].e.hart
   ·obtain⟨f,rfl⟩:∃f',f=f'+1:=⟨f - 1,by omega⟩;unfold Lv at hLT;rw[if_pos ⟨by simpa using hm,by rw[hgm,hga];exact hh⟩]at hLT;have hLl:L.length≤T.length:=by rw[←hLT,az];omega
    have hl1:L.length+1≤maxLen:=by unfold maxLen;omega
    have hl2:(L.length+1)*16≤140737488355328:=by omega
    refine We fun S Y=>?_;refine We fun S Y=>?_
    ((first|refine Wa Yb fun K J=>?_|refine Wb Yb fun K J=>?_|refine Wc Yb [] fun K J=>?_|refine Wd Yb [] fun K J=>?_);simp[ha,hm,Xe,Xd,Ez.cv,hh];apply And.intro;(·kernel_rfl);with_reducible refine J _ ?_;clear J K)
    apply Y;clear Y S;refine Wt (by simp) ?_;refine Wp.skip ?_;apply Y;clear Y S;refine We fun S Y=>?_;refine Wp.block ?_;refine We fun S Y=>?_;by_cases hr:0<HK (l.map Ez.e) c.fr a m
    ·rw[if_pos hr,fg,←fg]at hLT
     skip
     first|refine Wa Yb fun K J=>?_|refine Wb Yb fun K J=>?_|refine Wc Yb [] fun K J=>?_|refine Wd Yb [] fun K J=>?_
     simp[sn1,Xo,IH,YY,hm,ham,bev,bfl,hr];apply J;clear J K;apply Y;clear Y S;refine Wt (by simp) ?_;refine Wb Yb fun K J=>?_;simp[QG,hl1,hl2];apply J;clear J K;apply Y;clear Y S;refine Wb Yb fun K J=>?_;simp[hwm];apply J;clear J K;refine⟨⟨[(3, .one (.ptr 3 0)),(4,bV true),(5, .one (.own 5)),(6,iV .i64 a),(7,iV .i64 (m+1:Nat))],[(3, .box (cV c zl l)),(5, .row (decide ((L++[(a,m)]).length=0)) 123 2 (prE (L++[(a,m)])))]⟩,k - 1,?_,by omega,m+1,f,L++[(a,m)],by omega,by omega,by omega,hLT,rfl⟩;rw[Sq];apply Go1<;>simp
    ·rw[if_neg hr,lb]at hLT
     skip
     first|refine Wa Yb fun K J=>?_|refine Wb Yb fun K J=>?_|refine Wc Yb [] fun K J=>?_|refine Wd Yb [] fun K J=>?_
     simp[sn1,Xo,IH,YY,hm,ham,bev,bfl,hr];apply J;clear J K;apply Y;clear Y S;refine Wf (by simp) ?_;refine Wp.skip ?_;apply Y;clear Y S;refine Wb Yb fun K J=>?_;simp[hwm];apply J;clear J K;refine⟨⟨[(3, .one (.ptr 3 0)),(4,bV true),(5, .one (.own 5)),(6,iV .i64 a),(7,iV .i64 (m+1:Nat))],[(3, .box (cV c zl l)),(5, .row (decide (L.length=0)) 123 2 (prE L))]⟩,k - 1,?_,by omega,m+1,f,L,by omega,by omega,by omega,hLT,rfl⟩;apply Go1<;>simp
   ·have hLT:=exitCase (by
     cases f with
     |zero=>rfl
     |succ f=>unfold Lv;rw[if_neg (fun q=>hh (by rw[←hgm,←hga];exact q.2))])
    refine We fun S Y=>?_;refine We fun S Y=>?_
    ((first|refine Wa Yb fun K J=>?_|refine Wb Yb fun K J=>?_|refine Wc Yb [] fun K J=>?_|refine Wd Yb [] fun K J=>?_);simp[ha,hm,Xe,Xd,Ez.cv,hh];apply And.intro;(·kernel_rfl);with_reducible refine J _ ?_;clear J K)
    apply Y;clear Y S;refine Wf (by simp) ?_;refine Wp.exit ?_;simp only[XW,XG,if_true];clear Y S;apply Y;clear Y S;refine Wb Yb fun K J=>?_;simp[hwa];apply J;clear J K;refine⟨⟨[(3, .one (.ptr 3 0)),(4,bV true),(5, .one (.own 5)),(6,iV .i64 (a+1:Nat))],[(3, .box (cV c zl l)),(5, .row (decide (L.length=0)) 123 2 (prE L))]⟩,k',?_,by omega,a+1,L,by omega,hLT,rfl⟩;apply Go1<;>simp
  ·have hLT:=exitCase (by
    cases f with
    |zero=>rfl
    |succ f=>unfold Lv;rw[if_neg (fun q=>hm (by simpa using q.1))])
   refine We fun S Y=>?_;refine We fun S Y=>?_
   ((first|refine Wa Yb fun K J=>?_|refine Wb Yb fun K J=>?_|refine Wc Yb [] fun K J=>?_|refine Wd Yb [] fun K J=>?_);simp[hm,Xe];apply And.intro;(·kernel_rfl);with_reducible refine J _ ?_;clear J K)
   apply Y;clear Y S;refine Wf (by simp) ?_;refine Wp.exit ?_;simp only[XW,XG,if_true];clear Y S;apply Y;clear Y S;refine Wb Yb fun K J=>?_;simp[hwa];apply J;clear J K;refine⟨⟨[(3, .one (.ptr 3 0)),(4,bV true),(5, .one (.own 5)),(6,iV .i64 (a+1:Nat))],[(3, .box (cV c zl l)),(5, .row (decide (L.length=0)) 123 2 (prE L))]⟩,k',?_,by omega,a+1,L,by omega,hLT,rfl⟩;apply Go1<;>simp
 ·obtain rfl:kk=0:=by omega
  unfold HR at hLT;rw[ez]at hLT;subst hLT;refine We fun S Y=>?_;refine Wa Yb fun K J=>?_;simp[ha,Xe];apply J;clear J K;refine Wf (by simp) ?_;refine Wp.exit ?_;simp only[XW,XG,if_true];clear Y S;apply Y;clear Y S;refine We fun S Y=>?_;refine Wp.gh (.frz (b:=5) rfl) ?_;refine Wb Yb fun K J=>?_;simp[Vx,IK,UQ,Bc];apply J;clear J K;apply Y;clear Y S;refine Wp.ret ?_;simp
end Go.Proofs.YtbkpmfjfpcoehaaGreatDoor
namespace Go.Proofs.YtbkpmfjfpcoehaaGreatDoor
open Go Go.RowKit
set_option maxRecDepth 100000
theorem WC{L:List (List Ev)}{n:Nat}(h:n<L.flatten.length):∃i k:Nat,i<L.length∧k<(L.getD i []).length∧n=(L.take i).flatten.length+k∧∀j,j<(L.getD i []).length→L.flatten.getD ((L.take i).flatten.length+j) default=(L.getD i []).getD j default:=by
 induction L generalizing n with
 |nil=>simp at h
 |cons x L ih=>
  rw[kj]at h;by_cases hn:n<x.length
  ·refine⟨0,n,by simp,by simpa using hn,by simp,fun j hj=>?_⟩;simp only[List.take_zero,List.flatten_nil,List.length_nil,bf,kj,List.getD_cons_zero]at hj⊢;rw[ac,bu hj,←ac]
  ·obtain⟨i,k,h1,h2,h3,h4⟩:=ih (n:=n - x.length) (by simp at h⊢;omega);refine⟨i+1,k,by simpa using h1,by simpa using h2,by simp;simp at h3;omega,fun j hj=>?_⟩;simp only[List.take_succ_cons,kj,List.getD_cons_succ,az]at hj⊢;rw[ac,bz (by omega),←ac,←h4 j hj]
   congr 1
   omega
structure Ju(c:Cd):Prop where
 cells:KI c.first=true
 hn:1≤c.harts.length∧c.harts.length≤8
 rows:∀i,i<c.harts.length→Z2 i (c.harts.getD i [])=true
 fl:c.from_.length=c.harts.flatten.length
 fr:∀n,n<c.harts.flatten.length→Ve c.first c.from_ c.harts.flatten n=true
 od:∀i,i<c.order.length→G2 c.harts.flatten c.order i=true
 ol:c.order.length=X0 c.harts.flatten
theorem Ju.of{c:Cd}(h:XV c=true):Ju c:=by
 simp only[XV,aj,al,ao,ay]at h;obtain⟨h1,h2,h3,h4,h5,h6,h7⟩:=h;exact⟨h1,h2,h3,h4,h5,h6,h7⟩
theorem Ly(od:List Int)(k j:Nat): -1≤placeOf od k j∧placeOf od k j<k:=by
 induction k with
 |zero=>exact⟨by simp[placeOf],by simp[placeOf]⟩
 |succ k ih=>
  rw[Gg];split<;>omega
theorem Ju.row{c:Cd}(h:Ju c){n:Nat}(hn:n<c.harts.flatten.length):
  ∃i k:Nat,i<c.harts.length∧k<(c.harts.getD i []).length∧n=(c.harts.take i).flatten.length+k∧rowAt i (c.harts.getD i []) k=true∧∀j,j<(c.harts.getD i []).length→c.harts.flatten.getD ((c.harts.take i).flatten.length+j) default=(c.harts.getD i []).getD j default:=by
 obtain⟨i,k,h1,h2,h3,h4⟩:=WC hn;refine⟨i,k,h1,h2,h3,?_,h4⟩;have:=h.rows i h1;rw[Z2,ao]at this;exact this k (ay.2 h2)
theorem Ju.from_ok{c:Cd}(h:Ju c){n:Nat}(hn:n<c.harts.flatten.length): -1≤c.from_.getD n 0∧c.from_.getD n 0<c.harts.flatten.length:=by
 have:=h.fr n hn;unfold Ve at this;simp only at this;split at this
 ·have:=bo this;omega
 ·split at this
  ·omega
  ·rw[aj,al]at this;obtain⟨⟨h1,h2, -⟩, -⟩:=this;omega
theorem Ju.ord_ok{c:Cd}(h:Ju c){i:Nat}(hi:i<c.order.length):0≤c.order.getD i 0∧c.order.getD i 0<c.harts.flatten.length:=by
 have:=h.od i hi;rw[G2,aj,al]at this;exact this.1
theorem Ju.pair_ok{c:Cd}(h:Ju c)(hf:gM c){n:Nat}(hn:n<c.harts.flatten.length)(h4:(c.harts.flatten.getD n default).kind=4):
  I5 c.harts.flatten c.from_ c.order (X5 c.from_.length c.order) n:=by
 obtain⟨i,k,h1,h2,h3,h5,h6⟩:=h.row hn;have he:c.harts.flatten.getD n default=(c.harts.getD i []).getD k default:=by rw[h3];exact h6 k h2
 have hall:=hf.all;have hlen:=(hf.harts i h1).2;have hord:=hf.order;simp only[rowAt,aj,al]at h5;obtain⟨⟨c1,c2,c3⟩, -⟩:=h5;obtain⟨p1,p2⟩:=Vz c1 (by rw[←he];exact h4);refine⟨hn,hf.all,hf.order,h.fl,by rw[G9];exact h.fl,?_,?_,fun j hj=>h.from_ok hj,fun j hj=>?_,fun j hj=>h.ord_ok hj⟩
 ·rw[he];omega
 ·rw[he];omega
 ·rw[Zt (by rw[h.fl];exact hj)];exact Ly _ _ _
end Go.Proofs.YtbkpmfjfpcoehaaGreatDoor
namespace Go.Proofs.YtbkpmfjfpcoehaaGreatDoor
open Go Go.RowKit Dw
set_option maxRecDepth 100000
theorem N0{es:List Ev}{fr:List Int}{a x y f k:Nat}:(x,y)∈Lv es fr a k f↔x=a∧k≤y∧y<k+f∧y<es.length∧(∀m,k≤m→m≤y→(es.getD m default).hart=(es.getD a default).hart)∧0<HK es fr a y:=by
 induction f generalizing k with
 |zero=>simp[Lv];omega
 |succ f ih=>
  unfold Lv;by_cases h:k<es.length∧(es.getD k default).hart=(es.getD a default).hart
  ·rw[if_pos h,co,ih];constructor
   ·rintro(q|⟨rfl,h1,h2,h3,h4,h5⟩)
    ·by_cases hr:0<HK es fr a k
     ·rw[if_pos hr]at q;simp only[dm,af]at q;obtain⟨rfl,rfl⟩:=q;exact⟨rfl,ak _,by omega,h.1,fun m h1 h2=>(show m=y by omega)▸h.2,hr⟩
     ·rw[if_neg hr]at q;simp at q
    ·refine⟨rfl,by omega,by omega,h3,fun m m1 m2=>?_,h5⟩;rcases bn m1 with g|g
     ·subst g;exact h.2
     ·exact h4 m g m2
   ·rintro⟨rfl,h1,h2,h3,h4,h5⟩;rcases bn h1 with g|g
    ·subst g;left;rw[if_pos h5];simp
    ·exact .inr ⟨rfl,g,by omega,h3,fun m m1 m2=>h4 m (by omega) m2,h5⟩
  ·rw[if_neg h];constructor
   ·intro q;cases q
   ·rintro⟨rfl,h1,h2,h3,h4,h5⟩;exact absurd ⟨by omega,h4 k (ak _) h1⟩ h
theorem Ad{es:List Ev}{fr:List Int}{x y f a:Nat}:(x,y)∈HR es fr a f↔a≤x∧x<a+f∧DG es fr x y:=by
 induction f generalizing a with
 |zero=>simp[HR];omega
 |succ f ih=>
  unfold HR;rw[co,N0,ih];constructor
  ·rintro(⟨rfl,h1,h2,h3,h4,h5⟩|⟨h1,h2,h3⟩)
   ·exact⟨ak _,by omega,h1,h3,fun m m1 m2=>h4 m m1 m2,h5⟩
   ·exact⟨by omega,by omega,h3⟩
  ·rintro⟨h1,h2,h3⟩;rcases bn h1 with g|g
   ·subst g;obtain⟨g1,g2,g3,g4⟩:=h3;exact .inl ⟨rfl,g1,by omega,g2,fun m m1 m2=>g3 m m1 m2,g4⟩
   ·exact .inr ⟨g,by omega,h3⟩
theorem HP(c:Cz):(JS c).map Ez.e=allB (Yr c):=by
 unfold JS allB;split
 ·rw[AO];unfold Xh Yr;simp only[gz,fu];rfl
 ·rfl
theorem PX(c:Cz):(JS c).length=(allB (Yr c)).length:=by rw[←HP,ai]
theorem Q2{c:Cz}{x y:Nat}:(x,y)∈Z3 c↔DG (allB (Yr c)) c.fr x y:=by
 unfold Z3;rw[Ad,HP,PX];constructor
 ·exact fun h=>h.2.2
 ·exact fun h=>⟨eu _,by have:=h.1;have:=h.2.1;omega,h⟩
def SY(pl:List Int)(next:EV):List (Nat×Nat)→EV
 |[]=>next
 |p::r=>if pl.getD p.2 0<pl.getD p.1 0 then Z7 false 2 p.1 p.2 else SY pl next r
def CF(es:List Ev)(fr pl:List Int)(next:EV):Nat→Nat→EV
 |_,0=>next
 |n,f+1=>if(es.getD n default).reads=true∧Jz es pl n≠fr.getD n 0 then Z7 false 3 n (Jz es pl n)else CF es fr pl next (n+1) f
def Rs(es:List Ev)(fr od pl:List Int):Nat→Nat→EV
 |_,0=>Z7 true 0 (-1) (-1)
 |n,f+1=>if(es.getD n default).kind=4∧0≤Z4 es fr od pl n then Z7 false 4 (UF es n:Nat) (Z4 es fr od pl n)else Rs es fr od pl (n+1) f
def CE(c:Cz):EV:=
 if XV (Yr c)=true then
  SY (X5 c.fr.length c.od) (CF ((JS c).map Ez.e) c.fr (X5 c.fr.length c.od) (Rs ((JS c).map Ez.e) c.fr c.od (X5 c.fr.length c.od) 0 (JS c).length) 0 (JS c).length) (Z3 c)
 else Z7 false 1 (-1) (-1)
def qY(c:Cz):Prop:=∀i (h:i<c.od.length),0≤c.od[i]∧c.od[i]<c.fr.length
def qZ(c:Cz):Prop:=XV (Yr c)=true→c.fr.length=(JS c).length
def CW(c:Cz):Prop:=R9 ((JS c).map Ez.e)
def AE:List EV→Option (Prop×Yw)
 |[v]=>(match X2 v with|some x=>some (True, .val (bV x.e.reads))|none=>none)
 |_=>none
def RE:List EV→Option (Prop×Yw)
 |[v]=>(match Kn v with|some c=>some (GI c∧XV (Yr c)=true∧qY c, .row false 3 1 (Xj (X5 c.fr.length c.od)))|none=>none)
 |_=>none
def FB:List EV→Option (Prop×Yw)
 |[v]=>(match Kn v with|some c=>some (GI c∧CW c∧qZ c, .val (sV (decide ((Z3 c).length=0)) 2 (prE (Z3 c))))|none=>none)
 |_=>none
def Qk:List EV→Option (Prop×Yw)
 |[v, .one (.c (.sl _ 1 els)), .one (.c (.sc (.int .i64 n)))]=>(match G5 v,unI els with
  |some (_,_,l),some pl=>some (0≤n∧n<l.length∧pl.length=l.length∧l.length≤1000, .val (iV .i64 (Jz (l.map Ez.e) pl n.toNat)))
  |_,_=>none)
 |_=>none
def II:List EV→Option (Prop×Yw)
 |[v, .one (.c (.sl _ 1 els)), .one (.c (.sc (.int .i64 n)))]=>(match G5 v,unI els with
  |some (c,_,l),some pl=>some (0≤n∧I5 (l.map Ez.e) c.fr c.od pl n.toNat, .val (.tup [iV .i64 (UF (l.map Ez.e) n.toNat:Nat),iV .i64 (Z4 (l.map Ez.e) c.fr c.od pl n.toNat)]))
  |_,_=>none)
 |_=>none
def L7:List EV→Option (Prop×Yw)
 |[.one (.c (.sc (.int .i64 x))), .one (.c (.sc (.int .i64 y))), .one (.c (.sc (.int .i64 z)))]=>some (True, .val (Z7 false x y z))
 |_=>none
def sjd:Dw.Spec:=Xo 29 AE (Xo 56 RE (Xo 57 FB (Xo 58 Qk (Xo 59 II (Xo 55 L7 sn1)))))
theorem XM:XA Tryz.prog sjd:=by
 refine Xp ⟨⟨_,Tryz.func29,rfl,rfl⟩⟩ (fun vs p r h hp=>?_) (Xp ⟨⟨_,Tryz.func56,rfl,rfl⟩⟩ (fun vs p r h hp=>?_) (Xp ⟨⟨_,Tryz.func57,rfl,rfl⟩⟩ (fun vs p r h hp=>?_) (Xp ⟨⟨_,Tryz.func58,rfl,rfl⟩⟩ (fun vs p r h hp=>?_) (Xp ⟨⟨_,Tryz.func59,rfl,rfl⟩⟩ (fun vs p r h hp=>?_) (Xp ⟨⟨_,Tryz.func55,rfl,rfl⟩⟩ (fun vs p r h hp=>?_) Yb)))))
 ·unfold AE at h;split at h
  ·split at h
   ·rename_i x hx;simp only[ab,af]at h;obtain⟨rfl,rfl⟩:=h;exact Yp (.cons (Kd hx) .nil) (QE _)
   ·cases h
  ·cases h
 ·unfold RE at h;split at h
  ·split at h
   ·rename_i c hc;simp only[ab,af]at h;obtain⟨rfl,rfl⟩:=h;rw[Yf hc];exact Bu c hp.1 hp.2.1 hp.2.2
   ·cases h
  ·cases h
 ·unfold FB at h;split at h
  ·split at h
   ·rename_i c hc;simp only[ab,af]at h;obtain⟨rfl,rfl⟩:=h;rw[Yf hc];exact E9 c hp.1 hp.2.1 hp.2.2
   ·cases h
  ·cases h
 ·unfold Qk at h;split at h
  ·rename_i v z els n;split at h
   ·rename_i c' z' l pl hv hpl;simp only[ab,af]at h;obtain⟨rfl,rfl⟩:=h;obtain⟨n,rfl⟩:∃m:Nat,n=m:=⟨n.toNat,by omega⟩;rw[V7 hv,Yz hpl];exact Bs _ _ l _ pl n (by omega) hp.2.2.1 hp.2.2.2
   ·cases h
  ·cases h
 ·unfold II at h;split at h
  ·rename_i v z els n;split at h
   ·rename_i c' z' l pl hv hpl;simp only[ab,af]at h;obtain⟨rfl,rfl⟩:=h;obtain⟨n,rfl⟩:∃m:Nat,n=m:=⟨n.toNat,by omega⟩;rw[V7 hv,Yz hpl];exact Lf _ _ l _ pl n hp.2
   ·cases h
  ·cases h
 ·unfold L7 at h;split at h
  ·simp only[ab,af]at h;obtain⟨rfl,rfl⟩:=h;exact Tz _ _ _
  ·cases h
end Go.Proofs.YtbkpmfjfpcoehaaGreatDoor
namespace Go.Proofs.YtbkpmfjfpcoehaaGreatDoor
open Go Go.RowKit Dw
set_option maxRecDepth 100000
attribute [simp] jB
theorem Fc(c:Cz)(hc0:GI c)(hev:R9 ((JS c).map Ez.e)):Xq Tryz.prog 31 [X9 c] (.val (CE c)):=by
 have bok:=eq_true hc0;have bev:CW c=True:=eq_true hev;have hn:=hev.n;cases hck:XV (Yr c)
 ·have hR:CE c=Z7 false 1 (-1) (-1):=by unfold CE;rw[hck];rfl
  have hl:JS c=[]:=by simp[JS,hck]
  rw[hR];unfold X9 Z7;refine Xk (rs:=[.cell 2 79]) (Xl _) Tryz.func31 rfl Tryz.ntmps31 rfl (by simp) ?_;refine We fun S Y=>?_
  first|refine Wa XM fun K J=>?_|refine Wb XM fun K J=>?_|refine Wc XM [] fun K J=>?_|refine Wd XM [] fun K J=>?_
  simp;apply J;clear J K;apply Y;clear Y S;refine Wp.frzBox (b:=1) (cs:=c.cv) rfl rfl ?_;change Wp _ _ _ _ (⟨[(0,X9 c),(1,cA c),(2, .one (.ptr 2 0))],[(2,jB)]⟩:St);refine Wa XM fun K J=>?_;simp[sjd,sn1,Xo,eC,I6,Xu,bok,hl,hck];apply J;clear J K;refine We fun S Y=>?_;refine Wa XM fun K J=>?_;simp;apply J;clear J K;refine Wt (by simp) ?_;refine Wa XM fun K J=>?_;simp[sjd,Xo,L7,Z7];apply J;clear J K;refine Wp.ret ?_;simp
 ·have CY:=Ju.of hck;have hal:=Qt hck;have hmap:=HP c;have hlen:=PX c;have hfl:c.fr.length=(JS c).length:=by rw[hlen,hal];exact CY.fl
  have hfl':qZ c=True:=eq_true (fun _=>hfl);have hod:∀i (h:i<c.od.length),0≤c.od[i]∧c.od[i]<c.fr.length:=fun i h=>by
   have:=CY.ord_ok (i:=i) h;rw[←CY.fl]at this;simpa[Yr,ac,aa h]using this
  have bod:qY c=True:=eq_true hod;have hpo:∀n,n<(JS c).length→(((JS c).map Ez.e).getD n default).kind=4→I5 ((JS c).map Ez.e) c.fr c.od (X5 c.fr.length c.od) n:=fun n h1 h2=>by
   rw[hmap,hal]at h2⊢;rw[hlen,hal]at h1;exact CY.pair_ok (gC hc0) h1 h2
  have hin:∀x y,(x,y)∈Z3 c→x<(JS c).length∧y<(JS c).length:=fun x y h=>by
   have:=Q2.1 h;have h1:=this.1;have h2:=this.2.1;rw[hlen];omega
  have hpl:(X5 c.fr.length c.od).length=(JS c).length:=by rw[G9];exact hfl
  obtain⟨R,hR⟩:∃R,CE c=R:=⟨_,rfl⟩;rw[hR];unfold CE at hR;rw[if_pos hck]at hR;clear CY hal hmap hlen;obtain⟨l,hl⟩:∃l,JS c=l:=⟨_,rfl⟩;obtain⟨pl,hpe⟩:∃pl,X5 c.fr.length c.od=pl:=⟨_,rfl⟩;obtain⟨L,hL⟩:∃L,Z3 c=L:=⟨_,rfl⟩;rw[hl,hpe,hL]at hR;rw[hl]at hn hfl hpo hin hpl;rw[hpe]at hpo hpl;rw[hL]at hin;rw[ai]at hn;have hl0:(JS c).length=l.length:=by rw[hl]
  have hLb:L.length≤1000000:=by
   have:=Bz ((JS c).map Ez.e) c.fr 0 (JS c).length;rw[show HR ((JS c).map Ez.e) c.fr 0 (JS c).length=L from hL,ai,hl0]at this;exact bd this (Nat.mul_le_mul hn hn)
  obtain⟨zl,hz⟩:∃z,decide (l=[])=z:=⟨_,rfl⟩;obtain⟨zL,hzL⟩:∃z,decide (L=[])=z:=⟨_,rfl⟩;unfold X9;refine Xk (rs:=[.cell 2 79]) (Xl _) Tryz.func31 rfl Tryz.ntmps31 rfl (by simp) ?_;refine We fun S Y=>?_
  first|refine Wa XM fun K J=>?_|refine Wb XM fun K J=>?_|refine Wc XM [] fun K J=>?_|refine Wd XM [] fun K J=>?_
  simp;apply J;clear J K;apply Y;clear Y S;refine Wp.frzBox (b:=1) (cs:=c.cv) rfl rfl ?_;change Wp _ _ _ _ (⟨[(0,X9 c),(1,cA c),(2, .one (.ptr 2 0))],[(2,jB)]⟩:St);refine Wa XM fun K J=>?_;simp[sjd,sn1,Xo,eC,I6,Xu,bok,hl,hck,hz];apply J;clear J K;refine We fun S Y=>?_;refine Wa XM fun K J=>?_;simp;apply J;clear J K;refine Wf (by simp) ?_;refine Wp.skip ?_;apply Y;clear Y S;refine Wa XM fun K J=>?_;simp[sjd,Xo,RE,Xu,bok,hck,hpe,bod];apply J;clear J K;refine Wa XM fun K J=>?_;simp[sjd,Xo,FB,Xu,bok,hzL,hL,bev,hfl'];apply J;clear J K;refine We fun S Y=>?_;refine Wa XM fun K J=>?_;simp;apply J;clear J K;refine Wp.block ?_;refine Wp.gh (.frz (b:=22) rfl) ?_;refine Wp.loop (fun k s=>∃i:Nat,i+k=L.length∧SY pl (CF (l.map Ez.e) c.fr pl (Rs (l.map Ez.e) c.fr c.od pl 0 l.length) 0 l.length) (L.drop i)=R∧s=⟨[(1,cA c),(2, .one (.ptr 2 0)),(3, .one (.ptr 3 0)),(5,sV false 1 (Xj pl)),(6,sV zL 2 (prE L)),(7,iV .i64 i)],[(2,jB),(3, .box (cV c zl l))]⟩)
   L.length (s0:=⟨[(1,cA c),(2, .one (.ptr 2 0)),(3, .one (.ptr 3 0)),(5,sV false 1 (Xj pl)),(6,sV zL 2 (prE L)),(7,iV .i64 (0:Nat))],[(2,jB),(3, .box (cV c zl l))]⟩) ?_ ⟨0,by simp,by simpa using hR,rfl⟩ fun k s ⟨i,hik,hRi,hs⟩=>?_
  ·apply Go1<;>simp[Vx,IK,UQ,Bc,B3,Dw.del]
  subst hs;clear hR;refine We fun S Y=>?_;refine Wa XM fun K J=>?_;simp[QG];apply J;clear J K;refine Wp.cond rfl (fun hc=>?_) (fun hc=>?_)
  ·have hi:i<L.length:=by simpa using hc
   rw[bj hi]at hRi;unfold SY at hRi;have hwi:IntKind.i64.wrap ((i:Int)+1)=(i+1:Nat):=by rw[wrap_small]<;>omega
   obtain⟨h1,h2⟩:=hin (L[i]).1 (L[i]).2 (ba hi);have h1':(L[i]).1<pl.length:=by omega
   have h2':(L[i]).2<pl.length:=by omega
   have g1:pl.getD (L[i]).1 0=pl[(L[i]).1]:=by rw[ac,aa h1'];rfl
   have g2:pl.getD (L[i]).2 0=pl[(L[i]).2]:=by rw[ac,aa h2'];rfl
   rw[g1,g2]at hRi;refine Wp.skip ?_;apply Y;clear Y S;refine We fun S Y=>?_;refine Wp.block ?_;refine We fun S Y=>?_;by_cases hlt:pl[(L[i]).2]<pl[(L[i]).1]
   ·rw[if_pos hlt]at hRi;subst hRi
    ((first|refine Wa XM fun K J=>?_|refine Wb XM fun K J=>?_|refine Wc XM [] fun K J=>?_|refine Wd XM [] fun K J=>?_);simp[hi,QG,Hp,Xg,Xf,h1',h2',hlt];apply And.intro;(·kernel_rfl);with_reducible refine J _ ?_;clear J K)
    apply Y;clear Y S;refine Wt (by simp) ?_;refine We fun S Y=>?_
    ((first|refine Wa XM fun K J=>?_|refine Wb XM fun K J=>?_|refine Wc XM [2] fun K J=>?_|refine Wd XM [2] fun K J=>?_);simp[sjd,Xo,L7,Z7,hi,QG,Hp];apply And.intro;(·kernel_rfl);with_reducible refine J _ ?_;clear J K)
    apply Y;clear Y S;refine Wp.ret ?_;simp[Z7]
   ·rw[if_neg hlt]at hRi
    ((first|refine Wa XM fun K J=>?_|refine Wb XM fun K J=>?_|refine Wc XM [] fun K J=>?_|refine Wd XM [] fun K J=>?_);simp[hi,QG,Hp,Xg,Xf,h1',h2',hlt];apply And.intro;(·kernel_rfl);with_reducible refine J _ ?_;clear J K)
    apply Y;clear Y S;refine Wf (by simp) ?_;refine Wp.skip ?_;apply Y;clear Y S;refine Wb XM fun K J=>?_;simp[hwi];apply J;clear J K;refine⟨⟨[(1,cA c),(2, .one (.ptr 2 0)),(3, .one (.ptr 3 0)),(5,sV false 1 (Xj pl)),(6,sV zL 2 (prE L)),(7,iV .i64 (i+1:Nat))],[(2,jB),(3, .box (cV c zl l))]⟩,k - 1,?_,by omega,i+1,by omega,hRi,rfl⟩;apply Go1<;>simp
  ·have hi:¬i<L.length:=by simpa using hc
   rw[cg (by omega)]at hRi;unfold SY at hRi;refine Wp.exit ?_;simp only[XW,XG,if_true];clear hc hi hik;clear Y S;apply Y;clear Y S;refine We fun S Y=>?_;refine Wa XM fun K J=>?_;simp;apply J;clear J K;refine Wp.block ?_;refine Wp.loop (fun k s=>∃n:Nat,n+k=l.length∧CF (l.map Ez.e) c.fr pl (Rs (l.map Ez.e) c.fr c.od pl 0 l.length) n k=R∧s=⟨[(1,cA c),(2, .one (.ptr 2 0)),(3, .one (.ptr 3 0)),(5,sV false 1 (Xj pl)),(8,iV .i64 n)],[(2,jB),(3, .box (cV c zl l))]⟩)
    l.length (s0:=⟨[(1,cA c),(2, .one (.ptr 2 0)),(3, .one (.ptr 3 0)),(5,sV false 1 (Xj pl)),(8,iV .i64 (0:Nat))],[(2,jB),(3, .box (cV c zl l))]⟩) ?_ ⟨0,by simp,hRi,rfl⟩ fun k s ⟨n,hnk,hRn,hs⟩=>?_
   ·apply Go1<;>simp
   subst hs;refine We fun S Y=>?_;refine Wa XM fun K J=>?_;simp[Xe];apply J;clear J K;refine Wp.cond rfl (fun hc=>?_) (fun hc=>?_)
   ·have hi:n<l.length:=by simpa using hc
    have hif:n<c.fr.length:=by omega
    have hwn:IntKind.i64.wrap ((n:Int)+1)=(n+1:Nat):=by rw[wrap_small]<;>omega
    obtain⟨k,rfl⟩:∃k',k=k'+1:=⟨k - 1,by omega⟩;unfold CF at hRn;have hge:(l.map Ez.e).getD n default=l[n].e:=by simp[aa hi]
    have hgf:c.fr.getD n 0=c.fr[n]:=by simp[aa hif]
    rw[hge,hgf]at hRn;by_cases hrd:l[n].e.reads=true
    ·by_cases hsr:Jz (l.map Ez.e) pl n=c.fr[n]
     ·rw[if_neg (fun q=>q.2 hsr)]at hRn
      repeat(first|((first|refine Wa XM fun K J=>?_|refine Wb XM fun K J=>?_|refine Wc XM [] fun K J=>?_|refine Wd XM [] fun K J=>?_);simp[sjd,Xo,AE,Qk,YY,Xa,X2,unS,Ev.eta,hi,Xe,Xd,Ez.cv,hrd,hpl,hn,hif,Xg,Xf,hsr,hwn];first|done|(with_reducible refine J _ ?_;clear J K)|(apply And.intro;(·kernel_rfl);with_reducible refine J _ ?_;clear J K))|refine We fun S Y=>?_|refine Wp.block ?_|refine Wp.skip ?_|(apply Wt;· (simp;done))|(apply Wf;· (simp;done))|(apply Y;clear Y S)|(clear Y S;apply Y;clear Y S))
      refine⟨⟨[(1,cA c),(2, .one (.ptr 2 0)),(3, .one (.ptr 3 0)),(5,sV false 1 (Xj pl)),(8,iV .i64 (n+1:Nat))],[(2,jB),(3, .box (cV c zl l))]⟩,k,?_,by omega,n+1,by omega,hRn,rfl⟩;apply Go1<;>simp
     ·rw[if_pos ⟨hrd,hsr⟩]at hRn;subst hRn
      repeat(first|((first|refine Wa XM fun K J=>?_|refine Wb XM fun K J=>?_|refine Wc XM [] fun K J=>?_|refine Wd XM [] fun K J=>?_);simp[sjd,Xo,AE,Qk,L7,Z7,YY,Xa,X2,unS,Ev.eta,hi,Xe,Xd,Ez.cv,hrd,hpl,hn,hif,Xg,Xf,hsr];first|done|(with_reducible refine J _ ?_;clear J K)|(apply And.intro;(·kernel_rfl);with_reducible refine J _ ?_;clear J K))|refine We fun S Y=>?_|refine Wp.block ?_|refine Wp.skip ?_|(apply Wt;· (simp;done))|(apply Wf;· (simp;done))|(apply Y;clear Y S)|(clear Y S;apply Y;clear Y S))
      refine Wp.ret ?_;simp[Z7]
    ·rw[if_neg (fun q=>hrd q.1)]at hRn;have hrd':l[n].e.reads=false:=by simpa using hrd
     refine Wp.skip ?_;apply Y;clear Y S;refine We fun S Y=>?_;refine Wp.block ?_;refine We fun S Y=>?_;refine Wa XM fun K J=>?_;simp[sjd,Xo,AE,Xa,X2,unS,Ev.eta,hi,Xe,Xd,Ez.cv,hrd'];apply J;clear J K;refine Wt (by simp) ?_;refine Wp.exit ?_;simp only[XW,XG,if_true];clear Y S;apply Y;clear Y S;refine Wb XM fun K J=>?_;simp[hwn];apply J;clear J K;refine⟨⟨[(1,cA c),(2, .one (.ptr 2 0)),(3, .one (.ptr 3 0)),(5,sV false 1 (Xj pl)),(8,iV .i64 (n+1:Nat))],[(2,jB),(3, .box (cV c zl l))]⟩,k,?_,by omega,n+1,by omega,hRn,rfl⟩;apply Go1<;>simp
   ·have hi:¬n<l.length:=by simpa using hc
    obtain rfl:k=0:=by omega
    unfold CF at hRn;refine Wp.exit ?_;simp only[XW,XG,if_true];clear hc hi hnk;clear Y S;apply Y;clear Y S;refine We fun S Y=>?_;refine Wa XM fun K J=>?_;simp;apply J;clear J K;refine Wp.block ?_;refine Wp.loop (fun k s=>∃n:Nat,n+k=l.length∧Rs (l.map Ez.e) c.fr c.od pl n k=R∧s=⟨[(1,cA c),(2, .one (.ptr 2 0)),(3, .one (.ptr 3 0)),(5,sV false 1 (Xj pl)),(10,iV .i64 n)],[(2,jB),(3, .box (cV c zl l))]⟩)
     l.length (s0:=⟨[(1,cA c),(2, .one (.ptr 2 0)),(3, .one (.ptr 3 0)),(5,sV false 1 (Xj pl)),(10,iV .i64 (0:Nat))],[(2,jB),(3, .box (cV c zl l))]⟩) ?_ ⟨0,by simp,hRn,rfl⟩ fun k s ⟨n,hnk,hRn,hs⟩=>?_
    ·apply Go1<;>simp
    subst hs;refine We fun S Y=>?_;refine Wa XM fun K J=>?_;simp[Xe];apply J;clear J K;refine Wp.cond rfl (fun hc=>?_) (fun hc=>?_)
    ·have hi:n<l.length:=by simpa using hc
     have hwn:IntKind.i64.wrap ((n:Int)+1)=(n+1:Nat):=by rw[wrap_small]<;>omega
     obtain⟨k,rfl⟩:∃k',k=k'+1:=⟨k - 1,by omega⟩;unfold Rs at hRn;have hge:(l.map Ez.e).getD n default=l[n].e:=by simp[aa hi]
     have hpn:=hpo n hi;rw[hge]at hRn hpn;by_cases h4:l[n].e.kind=4
     ·have bpn:=eq_true (hpn h4);by_cases hw:0≤Z4 (l.map Ez.e) c.fr c.od pl n
      ·rw[if_pos ⟨h4,hw⟩]at hRn;subst hRn
       repeat(first|((first|refine Wa XM fun K J=>?_|refine Wb XM fun K J=>?_|refine Wc XM [] fun K J=>?_|refine Wd XM [] fun K J=>?_);simp[sjd,Xo,II,L7,Z7,YY,Xa,hi,Xe,Xd,Ez.cv,h4,bpn,hw];first|done|(with_reducible refine J _ ?_;clear J K)|(apply And.intro;(·kernel_rfl);with_reducible refine J _ ?_;clear J K))|refine We fun S Y=>?_|refine Wp.block ?_|refine Wp.skip ?_|(apply Wt;· (simp;done))|(apply Wf;· (simp;done))|(apply Y;clear Y S)|(clear Y S;apply Y;clear Y S))
       refine Wp.ret ?_;simp[Z7]
      ·rw[if_neg (fun q=>hw q.2)]at hRn
       repeat(first|((first|refine Wa XM fun K J=>?_|refine Wb XM fun K J=>?_|refine Wc XM [] fun K J=>?_|refine Wd XM [] fun K J=>?_);simp[sjd,Xo,II,YY,Xa,hi,Xe,Xd,Ez.cv,h4,bpn,hw,hwn];first|done|(with_reducible refine J _ ?_;clear J K)|(apply And.intro;(·kernel_rfl);with_reducible refine J _ ?_;clear J K))|refine We fun S Y=>?_|refine Wp.block ?_|refine Wp.skip ?_|(apply Wt;· (simp;done))|(apply Wf;· (simp;done))|(apply Y;clear Y S)|(clear Y S;apply Y;clear Y S))
       refine⟨⟨[(1,cA c),(2, .one (.ptr 2 0)),(3, .one (.ptr 3 0)),(5,sV false 1 (Xj pl)),(10,iV .i64 (n+1:Nat))],[(2,jB),(3, .box (cV c zl l))]⟩,k,?_,by omega,n+1,by omega,hRn,rfl⟩;apply Go1<;>simp
     ·rw[if_neg (fun q=>h4 q.1)]at hRn;refine Wp.skip ?_;apply Y;clear Y S;refine We fun S Y=>?_;refine Wp.block ?_;refine We fun S Y=>?_;refine Wa XM fun K J=>?_;simp[hi,Xe,Xd,Ez.cv,h4];apply J;clear J K;refine Wt (by simp) ?_;refine Wp.exit ?_;simp only[XW,XG,if_true];clear Y S;apply Y;clear Y S;refine Wb XM fun K J=>?_;simp[hwn];apply J;clear J K;refine⟨⟨[(1,cA c),(2, .one (.ptr 2 0)),(3, .one (.ptr 3 0)),(5,sV false 1 (Xj pl)),(10,iV .i64 (n+1:Nat))],[(2,jB),(3, .box (cV c zl l))]⟩,k,?_,by omega,n+1,by omega,hRn,rfl⟩;apply Go1<;>simp
    ·have hi:¬n<l.length:=by simpa using hc
     obtain rfl:k=0:=by omega
     unfold Rs at hRn;subst hRn;refine Wp.exit ?_;simp only[XW,XG,if_true];clear Y S;apply Y;clear Y S;refine Wa XM fun K J=>?_;simp;apply J;clear J K;refine Wp.ret ?_;simp[Z7]
end Go.Proofs.YtbkpmfjfpcoehaaGreatDoor
