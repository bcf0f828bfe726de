/- What is computed, as data, and laws of it. No condition. -/
import Derived.Test.YtbkpmfjfpcoehaaGreatDoorWl
set_option maxHeartbeats 16000000
namespace Go.Proofs.YtbkpmfjfpcoehaaGreatDoor
open Go Go.RowKit Dw
set_option maxRecDepth 100000
attribute [simp] zB
def sh1:Dw.Spec:=Xo 53 S9 HH
theorem QC:XA Tryz.prog sh1:=by
 refine Xp ⟨⟨_,Tryz.func53,rfl,rfl⟩⟩ (fun vs p r h hp=>?_) Xb;unfold S9 at h;split at h
 ·split at h
  ·rename_i x hx;simp only[ab,af]at h;obtain⟨rfl,rfl⟩:=h;exact Yp (.cons (Kd hx) .nil) (P0 x hp.1 hp.2.1 hp.2.2)
  ·cases h
 ·cases h
def mH(l:List Ez):Prop:=l.length≤1000∧∀x∈l,x.e.da.length≤1000000∧x.e.dd.length≤1000000∧x.e.dw.length≤1000000
def fzT(l:List Ez)(i:Nat):List Ez:=(l.take i).map fzE
theorem UG(z:Bool)(l:List Ez)(hf:mH l):Xq Tryz.prog 28 [sV z 14 (XS l)] (.row (decide (l.length=0)) 38 14 (XS (l.map fzE))):=by
 obtain⟨hn,hx⟩:=hf;refine Xk (rs:=[.tmp 2]) (Xl _) Tryz.func28 rfl Tryz.ntmps28 rfl (by simp) ?_;refine Wa QC fun K J=>?_;simp;apply J;clear J K;refine Wa QC fun K J=>?_;simp;apply J;clear J K;refine We fun S Y=>?_;refine Wa QC fun K J=>?_;simp;apply J;clear J K;refine Wp.block ?_;refine Wp.loop (fun k s=>∃i:Nat,i+k=l.length∧s=⟨[(0,sV z 14 (XS l)),(3, .one (.own 3)),(4,iV .i64 i)],[(3, .row (decide (i=0)) 38 14 (XS (fzT l i)))]⟩)
  l.length (s0:=⟨[(0,sV z 14 (XS l)),(3, .one (.own 3)),(4,iV .i64 (0:Nat))],[(3, .row true 38 14 [])]⟩) ?_ ⟨0,by simp,by simp[XS,fzT]⟩ fun k s ⟨i,hik,hs⟩=>?_
 ·refine .trans (.adopt (t:=3) (b:=3) rfl rfl 38 14) ?_;apply Go1<;>simp
 subst hs;refine We fun S Y=>?_;refine Wa QC fun K J=>?_;simp[Xe];apply J;clear J K;refine Wp.cond rfl (fun hc=>?_) (fun hc=>?_)
 ·have hi:i<l.length:=by simpa using hc
  have hw:IntKind.i64.wrap ((i:Int)+1)=(i+1:Nat):=by rw[wrap_small]<;>omega
  obtain⟨r1,r2,r3⟩:=hx _ (ba hi);have hl0:(fzT l i).length=i:=by simp[fzT];omega
  have hl1:(fzT l i).length+1≤maxLen:=by rw[hl0];unfold maxLen;omega
  have hl2:((fzT l i).length+1)*152≤140737488355328:=by rw[hl0];omega
  have htk:XS (fzT l (i+1))=XS (fzT l i)++[(fzE l[i]).cv]:=by unfold fzT;rw[ax hi,dx];unfold XS;rw[dx];rfl
  refine Wp.skip ?_;apply Y;clear Y S;refine We fun S Y=>?_;refine Wp.block ?_;refine Wb QC fun K J=>?_;simp[hi,Xe,Xd,Ez.cv,sh1,Xo,S9,X2,unS,Xa,Ev.eta,r1,r2,r3,hl1,hl2,evV];apply J;clear J K;apply Y;clear Y S;refine Wb QC fun K J=>?_;simp[hw];apply J;clear J K;refine⟨⟨[(0,sV z 14 (XS l)),(3, .one (.own 3)),(4,iV .i64 (i+1:Nat))],[(3, .row (decide (i+1=0)) 38 14 (XS (fzT l (i+1))))]⟩,k - 1,?_,by omega,i+1,by omega,rfl⟩;rw[htk];apply Go1<;>simp[Ez.cv,fzE]
 ·have hi:¬i<l.length:=by simpa using hc
  refine Wp.exit ?_;simp only[XW,XG,if_true];have hi0:i=l.length:=by omega
  subst hi0;have hfz:fzT l l.length=l.map fzE:=by unfold fzT;rw[bp (ak _)]
  rw[hfz];clear Y S;apply Y;clear Y S;refine Wa QC fun K J=>?_;simp;apply J;clear J K;refine Wp.ret ?_;simp
def AG:List EV→Option (Prop×Yw)
 |[.one (.c (.sl _z 14 els))]=>(match F9 els with|some l=>some (mH l, .val (sV (decide (l.length=0)) 14 (XS (l.map fzE))))|none=>none)
 |_=>none
def sh2:Dw.Spec:=Xo 28 AG (Xo 26 Wh so1)
theorem Ki:XA Tryz.prog sh2:=by
 refine Xp ⟨⟨_,Tryz.func28,rfl,rfl⟩⟩ (fun vs p r h hp=>?_) (Xp ⟨⟨_,Tryz.func26,rfl,rfl⟩⟩ (fun vs p r h hp=>?_) G8)
 ·unfold AG at h;split at h
  ·split at h
   ·rename_i l hl;simp only[ab,af]at h;obtain⟨rfl,rfl⟩:=h;rw[VC hl];exact KC (UG _ _ hp)
   ·cases h
  ·cases h
 ·unfold Wh at h;split at h
  ·split at h
   ·rename_i xs hx;simp only[ab,af]at h;obtain⟨rfl,rfl⟩:=h;rw[G6 hx];exact KC (TT _ _ hp)
   ·cases h
  ·cases h
def KL(hs:List (Bool×List Ez)):List (Bool×List Ez):=hs.map fun p=>(decide (p.2.length=0),p.2.map fzE)
def Pe(c:Cz):Cz:=⟨c.f,KL c.hs,c.fr,c.od,false,decide (c.hs.length=0),false,false⟩
def WG(c:Cz):Prop:=c.hs.length≤1000∧c.f.length≤1000∧c.fr.length≤1000∧c.od.length≤1000∧∀p∈c.hs,mH p.2
theorem BC(c:Cz)(hf:WG c):Xq Tryz.prog 8 [X9 c] (.val (X9 (Pe c))):=by
 obtain⟨f1,f2,f3,f4,f5⟩:=hf;have f2':c.f.length≤1000000:=by omega
 have f3':c.fr.length≤1000000:=by omega
 have f4':c.od.length≤1000000:=by omega
 show Xq _ _ _ (.val (.agg [.c (.sl false 2 (Y1 c.f)), .c (.sl (decide (c.hs.length=0)) 1 (Xw (KL c.hs))), .c (.sl false 1 (Xj c.fr)), .c (.sl false 1 (Xj c.od))]))
 unfold X9;refine Xk (rs:=[.cell 2 26]) (Xl _) Tryz.func8 rfl Tryz.ntmps8 rfl (by simp) ?_;refine We fun S Y=>?_
 first|refine Wa Ki fun K J=>?_|refine Wb Ki fun K J=>?_|refine Wc Ki [] fun K J=>?_|refine Wd Ki [] fun K J=>?_
 simp;apply J;clear J K;apply Y;clear Y S;refine Wp.frzBox (b:=1) (cs:=c.cv) rfl rfl ?_;change Wp _ _ _ _ (⟨[(0,X9 c),(1,cA c),(2, .one (.ptr 2 0))],[(2,zB)]⟩:St);refine We fun S Y=>?_
 ((first|refine Wa Ki fun K J=>?_|refine Wb Ki fun K J=>?_|refine Wc Ki [3] fun K J=>?_|refine Wd Ki [3] fun K J=>?_);simp[sh2,so1,Xo,Wh,Oj,Ya,Xa,f2',f3',f4'];apply And.intro;(·kernel_rfl);with_reducible refine J _ ?_;clear J K)
 apply Y;clear Y S;refine We fun S Y=>?_;refine We fun S Y=>?_
 first|refine Wa Ki fun K J=>?_|refine Wb Ki fun K J=>?_|refine Wc Ki [] fun K J=>?_|refine Wd Ki [] fun K J=>?_
 simp;apply J;clear J K;apply Y;clear Y S;refine Wp.block ?_;refine Wp.adoptBox (k:=3) (b:=90) (i:=1) rfl rfl rfl 34 1 ?_;refine Wp.loop (fun k s=>∃h:Nat,h+k=c.hs.length∧s=⟨[(1,cA c),(2, .one (.ptr 2 0)),(3, .one (.ptr 3 0)),(4,iV .i64 h)],[(2,zB),(3, .box [.c (.sl false 2 (Y1 c.f)), .own 90, .c (.sl false 1 (Xj c.fr)), .c (.sl false 1 (Xj c.od))]),(90, .row (decide (h=0)) 34 1 (Xw (KL (c.hs.take h))))]⟩)
  c.hs.length (s0:=⟨[(1,cA c),(2, .one (.ptr 2 0)),(3, .one (.ptr 3 0)),(4,iV .i64 (0:Nat))],[(2,zB),(3, .box [.c (.sl false 2 (Y1 c.f)), .own 90, .c (.sl false 1 (Xj c.fr)), .c (.sl false 1 (Xj c.od))]),(90, .row true 34 1 [])]⟩) ?_ ⟨0,by simp,by simp[KL,Xw]⟩ fun kk s ⟨h,hhk,hs⟩=>?_
 ·apply Go1<;>simp
 subst hs;refine We fun S Y=>?_;refine Wa Ki fun K J=>?_;simp[Xm];apply J;clear J K;refine Wp.cond rfl (fun hc=>?_) (fun hc=>?_)
 ·have hh:h<c.hs.length:=by simpa using hc
  have hwh:IntKind.i64.wrap ((h:Int)+1)=(h+1:Nat):=by rw[wrap_small]<;>omega
  have hfr:=f5 _ (ba hh);have hl0:(KL (c.hs.take h)).length=h:=by simp[KL];omega
  have hl1:(KL (c.hs.take h)).length+1≤maxLen:=by rw[hl0];unfold maxLen;omega
  have hl2:((KL (c.hs.take h)).length+1)*24≤140737488355328:=by rw[hl0];omega
  have htk:Xw (KL (c.hs.take (h+1)))=Xw (KL (c.hs.take h))++[[.sl (decide (c.hs[h].2.length=0)) 14 (XS (c.hs[h].2.map fzE))]]:=by rw[ax hh];unfold KL;rw[dx];unfold Xw;rw[dx];rfl
  refine Wp.skip ?_;apply Y;clear Y S;refine We fun S Y=>?_;refine Wp.block ?_;refine Wp.drawnTl (Vq:= .one (.ptr 3 1)) (Xl _) Ki (by kernel_rfl) [30] 9 32 3 (by kernel_rfl) rfl rfl rfl rfl rfl rfl rfl rfl rfl (by simp) fun K J=>?_;simp[V8,MU,Me,rdL,rdG,rdO,Lr,Zi,Gq,Qa,Dw.del,hh,Xm,Xs,sh2,Xo,AG,X4,hfr,hl1,hl2];refine⟨by kernel_rfl,J _ ?_,J _ ?_⟩
  all_goals
   clear J K;apply Y;clear Y S
   skip
   first|refine Wa Ki fun K J=>?_|refine Wb Ki fun K J=>?_|refine Wc Ki [] fun K J=>?_|refine Wd Ki [] fun K J=>?_
   simp[hwh];apply J;clear J K;refine⟨⟨[(1,cA c),(2, .one (.ptr 2 0)),(3, .one (.ptr 3 0)),(4,iV .i64 (h+1:Nat))],[(2,zB),(3, .box [.c (.sl false 2 (Y1 c.f)), .own 90, .c (.sl false 1 (Xj c.fr)), .c (.sl false 1 (Xj c.od))]),(90, .row (decide (h+1=0)) 34 1 (Xw (KL (c.hs.take (h+1)))))]⟩,kk - 1,?_,by omega,h+1,by omega,rfl⟩;rw[htk];apply Go1<;>simp
 ·have hh:¬h<c.hs.length:=by simpa using hc
  refine Wp.exit ?_;simp only[XW,XG,if_true];have hh0:h=c.hs.length:=by omega
  have hz:decide (h=0)=decide (c.hs.length=0):=by rw[hh0]
  rw[bp (show c.hs.length≤h by omega),hz];clear hc hh hhk hh0 hz;clear Y S;apply Y;clear Y S;refine We fun S Y=>?_;refine Wp.gh (.frz (b:=90) rfl) ?_
  first|refine Wa Ki fun K J=>?_|refine Wb Ki fun K J=>?_|refine Wc Ki [] fun K J=>?_|refine Wd Ki [] fun K J=>?_
  simp[Vx,IK,UQ,Bc];apply J;clear J K;apply Y;clear Y S;refine Wp.ret ?_;simp
end Go.Proofs.YtbkpmfjfpcoehaaGreatDoor
namespace Go.Proofs.YtbkpmfjfpcoehaaGreatDoor
open Go Go.RowKit Dw
set_option maxRecDepth 100000
def bM:Nat→List (Cv×Cv)→Option (List Int)
 |_,[]=>some []
 |i,(.sc (.int .i64 k), .sc (.int .i64 v))::r=>if v=i then(match bM (i+1) r with|some l=>some (k::l)|none=>none)else none
 |_,_=>none
theorem F8(K:List Int)(i:Nat):bM i (mpI i K)=some K:=by
 induction K generalizing i with
 |nil=>rfl
 |cons k r ih=>simp[mpI,bM,ih]
theorem C2{es:List (Cv×Cv)}{K:List Int}{i:Nat}(h:bM i es=some K):es=mpI i K:=by
 induction es generalizing i K with
 |nil=>injection h with h;subst h;rfl
 |cons e r ih=>
  unfold bM at h;split at h
  ·cases ‹_::_=[]›
  ·rename_i e';injection e' with e1 e2;subst e1;subst e2;split at h
   ·rename_i hv;split at h
    ·rename_i l hl;injection h with h;subst h;subst hv;rw[ih hl];rfl
    ·cases h
   ·cases h
  ·cases h
theorem Pm(xs:List Int):(∀es∈Xj xs,∀c∈es,∃v,c=Cv.sc v)↔True:=by
 refine⟨fun _=>trivial,fun _ es he c hc=>?_⟩;unfold Xj at he;obtain⟨x, -,rfl⟩:=cy.1 he;rw[dm]at hc;exact⟨_,hc⟩
def IJ:List EV→Option (Prop×Yw)
 |[.one (.c (.sl _ 1 els)), .one (.c (.mp es))]=>(match unI els,bM 0 es with|some xs,some K=>some (xs.length≤1000, .row (decide ((mvI K xs).length=0)) 3 1 (Xj (mvI K xs)))|_,_=>none)
 |_=>none
def FG:List EV→Option (Prop×Yw)
 |[.one (.c (.sl false 2 els))]=>(match unC els with|some xs=>some (xs.length≤1000000, .row false 70 2 (Y1 xs))|none=>none)
 |_=>none
def ssh:Dw.Spec:=Xo 25 IJ (Xo 22 FG (Xo 24 CJ (Xo 19 Hv sa1)))
theorem Xr:XA Tryz.prog ssh:=by
 refine Xp ⟨⟨_,Tryz.func25,rfl,rfl⟩⟩ (fun vs p r h hp=>?_) (Xp ⟨⟨_,Tryz.func22,rfl,rfl⟩⟩ (fun vs p r h hp=>?_) (Xp ⟨⟨_,Tryz.func24,rfl,rfl⟩⟩ (fun vs p r h hp=>?_) (Xp ⟨⟨_,Tryz.func19,rfl,rfl⟩⟩ (fun vs p r h hp=>?_) Ig)))
 ·unfold IJ at h;split at h
  ·split at h
   ·rename_i xs K hx J;simp only[ab,af]at h;obtain⟨rfl,rfl⟩:=h;rw[Yz hx,C2 J];exact LR _ _ _ hp
   ·cases h
  ·cases h
 ·unfold FG at h;split at h
  ·split at h
   ·rename_i xs hx;simp only[ab,af]at h;obtain⟨rfl,rfl⟩:=h;rw[G6 hx];exact FR _ hp
   ·cases h
  ·cases h
 ·exact(Ym _ vs p r (by rw[sv2,Xo,if_pos rfl];exact h)).2 hp
 ·exact(JR _ vs p r (by rw[sz1,Xo,if_pos rfl];exact h)).2 hp
theorem SI(i:Nat)(K:List Int):(mpI i K).length=K.length:=by
 induction K generalizing i with
 |nil=>rfl
 |cons k r ih=>simp[mpI,ih]
theorem T9(i:Nat)(K:List Int)(k:Int):mpI i (K++[k])=mpI i K++[(.sc (.int .i64 k), .sc (.int .i64 ((i+K.length:Nat):Int)))]:=by
 induction K generalizing i with
 |nil=>simp[mpI]
 |cons a r ih=>
  simp only[ge,mpI,ih,cm];rw[show i+1+r.length=i+(r.length+1) by omega]
theorem QH{n:Int}{K:List Int}(i:Nat)(h:∀k∈K,k≠n):V6 n i K=none:=by
 induction K generalizing i with
 |nil=>rfl
 |cons k r ih=>
  unfold V6;rw[if_neg (fun e=>h k br e.symm)];exact ih _ fun k hk=>h k (bc _ hk)
def Ke(f t:Int)(x:Ez):Bool:=!x.e.mem||rgB f t x.e.addr
def XN(f t:Int)(l:List Ez):List Int:=(l.filter (Ke f t)).map fun x=>x.e.pos
def J7(K:List Int)(x:Ez):Int:=if x.e.kind=4 then((V6 x.e.pair 0 K).map fun q:Nat=>(q:Int)).getD 0 else x.e.pair
def shE(K:List Int)(x:Ez):Ez:=⟨{x.e with pos:=K.length,pair:=J7 (K++[x.e.pos]) x,da:=mvI (K++[x.e.pos]) x.e.da,dd:=mvI (K++[x.e.pos]) x.e.dd,dw:=mvI (K++[x.e.pos]) x.e.dw},decide ((mvI (K++[x.e.pos]) x.e.da).length=0),decide ((mvI (K++[x.e.pos]) x.e.dd).length=0),decide ((mvI (K++[x.e.pos]) x.e.dw).length=0)⟩
def Yo(f t:Int):List Int→List Ez→List Ez
 |_,[]=>[]
 |K,x::r=>if Ke f t x=true then shE K x::Yo f t (K++[x.e.pos]) r else Yo f t K r
def Yg(f t:Int)(hs:List (Bool×List Ez)):List (Bool×List Ez):=hs.map fun p=>(decide ((Yo f t [] p.2).length=0),Yo f t [] p.2)
def Jq(f t:Int):Nat→List Ez→List Int
 |_,[]=>[]
 |k,x::r=>if Ke f t x=true then(k:Int)::Jq f t (k+1) r else Jq f t (k+1) r
def Ga(K:List Int):Nat→List Int→List Int
 |_,[]=>[]
 |n,w::r=>match V6 (n:Int) 0 K with
  |none=>Ga K (n+1) r
  |some _=>((V6 w 0 K).map fun q:Nat=>(q:Int)).getD w::Ga K (n+1) r
def shC(f t:Int)(c:Cz):Cz:=⟨c.f.filter fun p=>rgB f t p.1,Yg f t c.hs,Ga (Jq f t 0 (Xh c.hs)) 0 c.fr,mvI (Jq f t 0 (Xh c.hs)) c.od,false,decide (c.hs.length=0),decide ((Ga (Jq f t 0 (Xh c.hs)) 0 c.fr).length=0),decide ((mvI (Jq f t 0 (Xh c.hs)) c.od).length=0)⟩
theorem Q6(f t:Int)(a b:List Ez):XN f t (a++b)=XN f t a++XN f t b:=by unfold XN;rw[gk,dx]
theorem Bl(f t:Int)(a b:List Ez)(K:List Int):Yo f t K (a++b)=Yo f t K a++Yo f t (K++XN f t a) b:=by
 induction a generalizing K with
 |nil=>simp[Yo,XN]
 |cons x r ih=>
  simp only[ge,Yo];by_cases h:Ke f t x=true
  ·rw[if_pos h,if_pos h,ih];simp[XN,h]
  ·rw[if_neg h,if_neg h,ih];simp[XN,h]
theorem JA(f t:Int)(l:List Ez)(K:List Int):(Yo f t K l).length=(XN f t l).length:=by
 induction l generalizing K with
 |nil=>rfl
 |cons x r ih=>
  simp only[Yo];by_cases h:Ke f t x=true
  ·rw[if_pos h,cm,ih];simp[XN,h]
  ·rw[if_neg h,ih];simp[XN,h]
theorem IB(f t:Int)(l:List Ez):(XN f t l).length≤l.length:=by
 unfold XN;rw[ai];exact gm _ _
theorem Qg(f t:Int)(a b:List Ez)(k:Nat):Jq f t k (a++b)=Jq f t k a++Jq f t (k+a.length) b:=by
 induction a generalizing k with
 |nil=>simp[Jq]
 |cons x r ih=>
  simp only[ge,Jq,ih,cm];rw[show k+1+r.length=k+(r.length+1) by omega];split<;>simp
theorem QW(f t:Int)(l:List Ez)(k:Nat):∀n∈Jq f t k l,(k:Int)≤n∧n<((k+l.length:Nat):Int):=by
 induction l generalizing k with
 |nil=>intro n hn;cases hn
 |cons x r ih=>
  intro n hn;simp only[Jq]at hn;have hr:n∈Jq f t (k+1) r→(k:Int)≤n∧n<((k+(x::r).length:Nat):Int):=fun h=>by
   have:=ih (k+1) n h;simp only[cm];omega
  split at hn
  ·rcases av.1 hn with h|h
   ·subst h;simp only[cm];omega
   ·exact hr h
  ·exact hr hn
theorem D8(K:List Int)(a b:List Int)(n:Nat):Ga K n (a++b)=Ga K n a++Ga K (n+a.length) b:=by
 induction a generalizing n with
 |nil=>simp[Ga]
 |cons w r ih=>
  simp only[ge,Ga,ih,cm];rw[show n+1+r.length=n+(r.length+1) by omega];split<;>simp
theorem Tg(K:List Int)(l:List Int)(n:Nat):(Ga K n l).length≤l.length:=by
 induction l generalizing n with
 |nil=>exact ak _
 |cons w r ih=>
  simp only[Ga];have:=ih (n+1);split<;>simp<;>omega
theorem D7(f t:Int)(a b:List (Bool×List Ez)):Yg f t (a++b)=Yg f t a++Yg f t b:=by unfold Yg;rw[dx]
abbrev fB(c:Cz)(f t:Int)(x y:Cx):OB:= .box [.c (.sl false 2 (Y1 (c.f.filter fun p=>rgB f t p.1))),x,y, .c (.sl true 0 [])]
theorem JB{n:Int}{K:List Int}{i q:Nat}(h:V6 n i K=some q):i≤q∧K[q - i]? =some n:=by
 induction K generalizing i with
 |nil=>cases h
 |cons k r ih=>
  unfold V6 at h;split at h
  ·rename_i e;injection h with h;subst h;exact⟨ak _,by rw[fp,e];rfl⟩
  ·obtain⟨h1,h2⟩:=ih h;refine⟨by omega,?_⟩;rw[show q - i=(q - (i+1))+1 by omega,fb];exact h2
theorem TM{n:Int}{K:List Int}{i q:Nat}(hp:K.Pairwise (· < ·))(h:K[q]? =some n):V6 n i K=some (i+q):=by
 induction K generalizing i q with
 |nil=>simp at h
 |cons k r ih=>
  rw[dn]at hp;unfold V6;cases q with
  |zero=>simp at h;subst h;rw[if_pos rfl];rfl
  |succ q=>
   rw[fb]at h;have:=hp.1 n (bb h);rw[if_neg (by omega),ih hp.2 h];congr 1;omega
theorem Ls{K:List Int}(hp:K.Pairwise (· < ·)){a b:Nat}{u v:Int}(ha:K[a]? =some u)(hb:K[b]? =some v):(u<v↔a<b)∧(u=v↔a=b):=by
 have key:∀{a b:Nat} {u v:Int},K[a]? =some u→K[b]? =some v→a<b→u<v:=by
  intro a b u v ha hb hab;obtain⟨h1,e1⟩:=ah.1 ha;obtain⟨h2,e2⟩:=ah.1 hb;have:=bx.1 hp a b h1 h2 hab;rw[e1,e2]at this;exact this
 rcases jd a b with h|h|h
 ·have:=key ha hb h;omega
 ·subst h;rw[ha]at hb;injection hb with hb;omega
 ·have:=key hb ha h;omega
theorem Zy{K l:List Int}{y:Int}:y∈mvI K l↔∃v∈l,∃q:Nat,V6 v 0 K=some q∧y=q:=by
 induction l with
 |nil=>simp[mvI]
 |cons n r ih=>
  simp only[mvI];cases h:V6 n 0 K with
  |none=>
   rw[ih];constructor
   ·rintro⟨v,h1,h2⟩;exact⟨v,bc _ h1,h2⟩
   ·rintro⟨v,h1,q,h2,h3⟩;rcases av.1 h1 with rfl|h1
    ·rw[h]at h2;cases h2
    ·exact⟨v,h1,q,h2,h3⟩
  |some q0=>
   simp only[av,ih];constructor
   ·rintro(rfl|⟨v,h1,h2⟩)
    ·exact⟨n, .inl rfl,q0,h,rfl⟩
    ·exact⟨v, .inr h1,h2⟩
   ·rintro⟨v,h1|h1,q,h2,h3⟩
    ·subst h1;rw[h]at h2;injection h2 with h2;subst h2;exact .inl h3
    ·exact .inr ⟨v,h1,q,h2,h3⟩
theorem dO{K l:List Int}(J:K.Pairwise (· < ·))(hl:l.Pairwise (· < ·)):(mvI K l).Pairwise (· < ·):=by
 induction l with
 |nil=>exact .nil
 |cons n r ih=>
  rw[dn]at hl;simp only[mvI];cases h:V6 n 0 K with
  |none=>exact ih hl.2
  |some q=>
   refine List.Pairwise.cons (fun y hy=>?_) (ih hl.2);obtain⟨v,h1,q',h2,rfl⟩:=Zy.1 hy;obtain⟨-,e1⟩:=JB h;obtain⟨-,e2⟩:=JB h2;rw[ji]at e1 e2;have:=((Ls J e1 e2).1).1 (hl.1 v h1);omega
theorem BU{K l:List Int}(hl:l.Nodup):(mvI K l).Nodup:=by
 induction l with
 |nil=>exact .nil
 |cons n r ih=>
  rw[ek]at hl;simp only[mvI];cases h:V6 n 0 K with
  |none=>exact ih hl.2
  |some q=>
   rw[ek];refine⟨fun hy=>?_,ih hl.2⟩;obtain⟨v,h1,q',h2,e⟩:=Zy.1 hy;obtain⟨-,e1⟩:=JB h;obtain⟨-,e2⟩:=JB h2;have:q=q':=by omega
   subst this;rw[e1]at e2;injection e2 with e2;subst e2;exact hl.1 h1
theorem T4(f t:Int)(l:List Ez)(k:Nat):(Jq f t k l).Pairwise (· < ·):=by
 induction l generalizing k with
 |nil=>exact .nil
 |cons x r ih=>
  simp only[Jq];split
  ·refine List.Pairwise.cons (fun y hy=>?_) (ih _);have:=(QW f t r (k+1) y hy).1;omega
  ·exact ih _
theorem It{f t:Int}{l:List Ez}{k:Nat}{n:Int}:n∈Jq f t k l↔∃(j:Nat) (h:j<l.length),n=((k+j:Nat):Int)∧Ke f t l[j]=true:=by
 induction l generalizing k with
 |nil=>simp[Jq]
 |cons x r ih=>
  simp only[Jq];have hr:n∈Jq f t (k+1) r↔∃(j:Nat) (h:j+1<(x::r).length),n=((k+(j+1):Nat):Int)∧Ke f t (x::r)[j+1]=true:=by
   rw[ih];constructor
   ·rintro⟨j,h,e,hk⟩;exact⟨j,by simpa using h,by rw[e];congr 1;omega,by simpa using hk⟩
   ·rintro⟨j,h,e,hk⟩;exact⟨j,by simpa using h,by rw[e];congr 1;omega,by simpa using hk⟩
  split
  ·rename_i hx;rw[av,hr];constructor
   ·rintro(rfl|⟨j,h,e,hk⟩)
    ·exact⟨0,by simp,rfl,hx⟩
    ·exact⟨j+1,h,e,hk⟩
   ·rintro⟨j,h,e,hk⟩;cases j with
    |zero=>exact .inl e
    |succ j=>exact .inr ⟨j,h,e,hk⟩
  ·rename_i hx;rw[hr];constructor
   ·rintro⟨j,h,e,hk⟩;exact⟨j+1,h,e,hk⟩
   ·rintro⟨j,h,e,hk⟩;cases j with
    |zero=>exact absurd hk hx
    |succ j=>exact⟨j,h,e,hk⟩
def Ah(K:List Int)(w:Int):Int:=((V6 w 0 K).map fun q:Nat=>(q:Int)).getD w
theorem Sa{f t:Int}{K:List Int}:∀{L:List Ez} {fr:List Int} {k:Nat},fr.length=L.length→(∀(j:Nat) (h:j<L.length),(V6 ((k+j:Nat):Int) 0 K).isSome=true↔Ke f t L[j]=true)→
  Ga K k fr=(Jq f t k L).map fun n=>Ah K (fr.getD (n.toNat - k) 0):=by
 intro L
 induction L with
 |nil=>intro fr k hl _;have:fr=[]:=cn hl;subst this;rfl
 |cons x r ih=>
  intro fr k hl hk;cases fr with
  |nil=>simp at hl
  |cons w fr=>
   have h0:=hk 0 (by simp);have ht:=ih (fr:=fr) (k:=k+1) (by simpa using hl) (fun j h=>by
    have:=hk (j+1) (by simpa using h);rw[show k+1+j=k+(j+1) by omega];simpa using this)
   have htl:(Jq f t (k+1) r).map (fun n=>Ah K (fr.getD (n.toNat - (k+1)) 0))=(Jq f t (k+1) r).map fun n=>Ah K ((w::fr).getD (n.toNat - k) 0):=by
    refine kc fun n hn=>?_;have:=(QW f t r (k+1) n hn).1;rw[show n.toNat - k=(n.toNat - (k+1))+1 by omega,List.getD_cons_succ]
   simp only[dy,List.getElem_cons_zero]at h0;simp only[Ga,Jq];cases hp:V6 (k:Int) 0 K with
   |none=>
    rw[hp]at h0;rw[if_neg (fun q=>by have:=h0.2 q;cases this)];simp only;rw[ht,htl]
   |some q=>
    rw[hp]at h0;rw[if_pos (h0.1 rfl),ft];simp only;rw[ht,htl];simp[Ah]
theorem D6(f t:Int)(l:List Ez):∀K0,Yo f t K0 l=(l.filter (Ke f t)).mapIdx fun i x=>shE (K0++(XN f t l).take i) x:=by
 induction l with
 |nil=>intro K0;rfl
 |cons x r ih=>
  intro K0;simp only[Yo];by_cases h:Ke f t x=true
  ·rw[if_pos h,ey h,List.mapIdx_cons,ih];have hk:XN f t (x::r)=x.e.pos::XN f t r:=by simp[XN,h]
   rw[hk]
   congr 1
   ·simp
   ·congr 1
    funext i y
    simp
  ·rw[if_neg h,fc h,ih];have hk:XN f t (x::r)=XN f t r:=by simp[XN,h]
   rw[hk]
def XT(f t:Int)(l:List Ez):List Ez:=l.filter (Ke f t)
theorem Rq(f t:Int)(l:List Ez):XN f t l=(XT f t l).map fun x=>x.e.pos:=rfl
theorem KD(f t:Int)(l:List Ez):(XN f t l).length=(XT f t l).length:=by rw[Rq,ai]
theorem Ic{f t:Int}{l:List Ez}{i:Nat}(hi:i<(XT f t l).length):(Yo f t [] l)[i]? =some (shE ((XN f t l).take i) (XT f t l)[i]):=by
 rw[D6,List.getElem?_mapIdx]
 show((XT f t l)[i]?).map _=_
 rw[aa hi];simp
theorem Kv{f t:Int}{l:List Ez}{i:Nat}(hi:i<(XT f t l).length):(XN f t l)[i]? =some (XT f t l)[i].e.pos:=by
 rw[Rq,an,aa hi];rfl
def bE(l:List Ez):Prop:=∀j (h:j<l.length),l[j].e.pos=j
theorem GV{f t:Int}{l:List Ez}(hp:bE l):(XN f t l).Pairwise (· < ·):=by
 rw[Rq,List.pairwise_map];refine List.Pairwise.filter _ ?_;rw[bx];intro i j hi hj hij;rw[hp i hi,hp j hj];omega
theorem Ro{f t:Int}{l:List Ez}(hp:bE l){i:Nat}(hi:i<(XT f t l).length):∃p:Nat,∃h:p<l.length,(XT f t l)[i]=l[p]∧l[p].e.pos=p∧Ke f t l[p]=true:=by
 have hm:(XT f t l)[i]∈l.filter (Ke f t):=ba hi;obtain⟨h1,h2⟩:=ct.1 hm;obtain⟨p,h,e⟩:=be h1;exact⟨p,h,e.symm,hp p h,by rw[e];exact h2⟩
theorem SS{f t:Int}{l:List Ez}{p:Nat}(h:p<l.length)(hk:Ke f t l[p]=true):∃i:Nat,∃hi:i<(XT f t l).length,(XT f t l)[i]=l[p]:=by
 have:l[p]∈XT f t l:=ct.2 ⟨ba h,hk⟩;obtain⟨i,hi,e⟩:=be this;exact⟨i,hi,e⟩
theorem C5{f t:Int}{l:List Ez}{i:Nat}(hi:i<(XT f t l).length):(XN f t l).take i++[(XT f t l)[i].e.pos]=(XN f t l).take (i+1):=by
 have h:i<(XN f t l).length:=by rw[KD];exact hi
 rw[ax h];have:=Kv hi;rw[aa h]at this;injection this with this;rw[this]
theorem Im{f t:Int}{l:List Ez}(hp:bE l){i q:Nat}(hi:i<(XT f t l).length)(hq:q≤i):V6 (XT f t l)[q].e.pos 0 ((XN f t l).take (i+1))=some q:=by
 have h:=TM (i:=0) (q:=q) ((GV hp (f:=f) (t:=t)).sublist (List.take_sublist (i+1) _)) (n:=(XT f t l)[q].e.pos) (by rw[bm,if_pos (by omega)];exact Kv (by omega))
 rwa[bf]at h
theorem qj{f t:Int}{l:List Ez}{i q:Nat}{v:Int}(hi:i<(XT f t l).length)(h:V6 v 0 ((XN f t l).take (i+1))=some q):q≤i∧∃hq:q<(XT f t l).length,v=(XT f t l)[q].e.pos:=by
 obtain⟨-,e⟩:=JB h;rw[ji,bm]at e;split at e
 ·rename_i hlt;have hq:q<(XT f t l).length:=by omega
  rw[Kv hq]at e;injection e with e;exact⟨by omega,hq,e.symm⟩
 ·cases e
theorem Lj{l:List Int}:rising l=true↔l.Pairwise (· < ·)∧∀x∈l,0≤x:=by
 unfold rising;rw[ao];have hg:∀i (h:i<l.length),l.getD i 0=l[i]:=fun i h=>by rw[ac,aa h];rfl
 constructor
 ·intro h;have h':∀i (hi:i<l.length),0≤l[i]∧(∀h0:0<i,l[i - 1]<l[i]):=by
   intro i hi;have:=bo (h i (ay.2 hi));rw[hg i hi]at this;exact⟨this.1,fun h0=>by have:=this.2 h0;rwa[hg (i - 1) (by omega)]at this⟩
  refine⟨?_,fun x hx=>?_⟩
  ·rw[bx];intro i j hi hj hij
   induction j with
   |zero=>omega
   |succ j ih=>
    have h1:=(h' (j+1) hj).2 (by omega);simp only[Nat.add_sub_cancel]at h1;rcases bn (fh hij)with g|g
    ·subst g;exact h1
    ·exact Int.lt_trans (ih (by omega) g) h1
  ·obtain⟨i,hi,rfl⟩:=be hx;exact(h' i hi).1
 ·rintro⟨h1,h2⟩ i hi;have hi:=ay.1 hi;refine ck ?_;rw[hg i hi];refine⟨h2 _ (ba hi),fun h0=>?_⟩;rw[hg (i - 1) (by omega)];exact bx.1 h1 (i - 1) i (by omega) hi (by omega)
theorem MB{l:List Int}{a:Int}:XO l a=true↔l.Pairwise (· < ·)∧∀x∈l,0≤x∧x<a:=by
 unfold XO;rw[aj,Lj,jc,al,al];have hg:∀i (h:i<l.length),l.getD i 0=l[i]:=fun i h=>by rw[ac,aa h];rfl
 constructor
 ·rintro⟨⟨h1,h2⟩,h3⟩;refine⟨h1,fun x hx=>⟨h2 x hx,?_⟩⟩;obtain⟨i,hi,rfl⟩:=be hx;rcases h3 with h3|h3
  ·omega
  ·rw[hg _ (by omega)]at h3;rcases bn (show i≤l.length - 1 by omega)with g|g
   ·subst g;exact h3
   ·exact Int.lt_trans (bx.1 h1 i (l.length - 1) hi (by omega) g) h3
 ·rintro⟨h1,h2⟩;refine⟨⟨h1,fun x hx=>(h2 x hx).1⟩,?_⟩;rcases gg l.length with h0|h0
  ·exact .inl h0
  ·right;rw[hg _ (by omega)];exact(h2 _ (ba _)).2
theorem RS{f t:Int}{l:List Ez}(hp:bE l){i:Nat}(hi:i<(XT f t l).length){xs:List Int}(h:XO xs (XT f t l)[i].e.pos=true):XO (mvI ((XN f t l).take (i+1)) xs) i=true:=by
 rw[MB]at h⊢;obtain⟨h1,h2⟩:=h;refine⟨dO ((GV hp).sublist (List.take_sublist _ _)) h1,fun y hy=>?_⟩;obtain⟨v,hv,q,hq,rfl⟩:=Zy.1 hy;obtain⟨q1,q2,rfl⟩:=qj hi hq;refine⟨by omega,?_⟩;have:=(h2 _ hv).2;have:=(Ls (GV hp (f:=f) (t:=t)) (Kv q2) (Kv hi)).1.1 this;omega
theorem Ix{hart f t:Int}{l:List Ez}(hp:bE l)(h:Z2 hart (l.map Ez.e)=true){i:Nat}(hi:i<(XT f t l).length)(h4:(XT f t l)[i].e.kind=4):∃q,∃hq:q<(XT f t l).length,q<i∧(XT f t l)[i].e.pair=(XT f t l)[q].e.pos∧(XT f t l)[q].e.kind=3∧(XT f t l)[q].e.addr=(XT f t l)[i].e.addr∧∀m,q<m→(hm:m<i)→(XT f t l)[m].e.kind≠3∧(XT f t l)[m].e.kind≠4:=by
 unfold Z2 at h;rw[ao]at h;simp only[ay,ai]at h;have hgd:∀j (hj:j<l.length),(l.map Ez.e).getD j default=l[j].e:=fun j hj=>by rw[Ja,ac,aa hj];rfl
 obtain⟨p,hpl,hx,hpp,hk⟩:=Ro hp hi;have hr:=h p hpl;unfold rowAt at hr;simp only at hr;rw[hgd p hpl]at hr;simp only[aj,al,jc]at hr;obtain⟨⟨hc,hh, -⟩,hsc⟩:=hr;rw[←hx]at hc hh hsc;obtain⟨p1,p2⟩:=Vz hc h4;rcases hsc with hsc|hsc
 ·exact absurd h4 hsc
 unfold Ie at hsc;simp only[aj,al,ao,ay]at hsc;rw[hgd p hpl,←hx]at hsc;obtain⟨⟨s1,s2⟩,s3⟩:=hsc;have hpe:(XT f t l)[i].e.pos=p:=by rw[hx];exact hpp
 have hpr:(XT f t l)[i].e.pair.toNat<l.length:=by omega
 rw[hgd _ hpr]at s1 s2;have hmem:(XT f t l)[i].e.mem=true:=by unfold Ev.mem;rw[h4];rfl
 have hrg:rgB f t (XT f t l)[i].e.addr=true:=by
  have:=hk;rw[←hx]at this;unfold Ke at this;rw[hmem]at this;simpa using this
 have hkp:Ke f t l[(XT f t l)[i].e.pair.toNat]=true:=by unfold Ke;rw[s2,hrg];simp
 obtain⟨q,hq,eq⟩:=SS hpr hkp;have hpq:(XT f t l)[q].e.pos=(XT f t l)[i].e.pair:=by rw[eq,hp _ hpr];omega
 have hqi:q<i:=(Ls (GV hp (f:=f) (t:=t)) (Kv hq) (Kv hi)).1.1 (by rw[hpq];exact p2);refine⟨q,hq,hqi,hpq.symm,by rw[eq];exact s1,by rw[eq];exact s2,fun m hm1 hm2=>?_⟩;have hml:m<(XT f t l).length:=by omega
 obtain⟨pm,hpm,em,epm, -⟩:=Ro hp hml;have g1:=(Ls (GV hp (f:=f) (t:=t)) (Kv hq) (Kv hml)).1.2 hm1;have g2:=(Ls (GV hp (f:=f) (t:=t)) (Kv hml) (Kv hi)).1.2 hm2;rw[em,epm]at g1 g2;have:=s3 pm (by omega);rw[hgd pm hpm,←em]at this;rcases this with h|h
 ·omega
 ·exact h
theorem Sj{hart f t:Int}{l:List Ez}(hp:bE l)(h:Z2 hart (l.map Ez.e)=true):Z2 hart ((Yo f t [] l).map Ez.e)=true:=by
 have h0:=h;unfold Z2 at h⊢;rw[ao]at h⊢;simp only[ay,ai]at h⊢;intro i hi;rw[JA,KD]at hi;have hgd:∀j (hj:j<l.length),(l.map Ez.e).getD j default=l[j].e:=fun j hj=>by rw[Ja,ac,aa hj];rfl
 have hgs:∀j (hj:j<(XT f t l).length),((Yo f t [] l).map Ez.e).getD j default=(shE ((XN f t l).take j) (XT f t l)[j]).e:=fun j hj=>by rw[Ja,ac,Ic hj];rfl
 obtain⟨p,hpl,hx,hpp,hk⟩:=Ro hp hi;have hr:=h p hpl;unfold rowAt at hr⊢;simp only at hr⊢;rw[hgd p hpl]at hr;rw[hgs i hi];have hKl:((XN f t l).take i).length=i:=by rw[cf,KD];omega
 have Y:=C5 hi;simp only[aj,al,jc]at hr⊢;obtain⟨⟨hc,hh, -⟩,hsc⟩:=hr;rw[←hx]at hc hh hsc;have hlr:=fun h4=>Ix hp h0 hi h4;have hpair:J7 ((XN f t l).take (i+1)) (XT f t l)[i]=(XT f t l)[i].e.pair∧(XT f t l)[i].e.kind≠4∨∃q,∃hq:q<(XT f t l).length,q<i∧J7 ((XN f t l).take (i+1)) (XT f t l)[i]=(q:Int)∧(XT f t l)[q].e.kind=3∧(XT f t l)[q].e.addr=(XT f t l)[i].e.addr∧∀m,q<m→(hm:m<i)→(XT f t l)[m].e.kind≠3∧(XT f t l)[m].e.kind≠4:=by
  by_cases h4:(XT f t l)[i].e.kind=4
  ·obtain⟨q,hq,q1,q2,q3,q4,q5⟩:=hlr h4;refine .inr ⟨q,hq,q1,?_,q3,q4,q5⟩;unfold J7;rw[if_pos h4,q2,Im hp hi (fx q1)];rfl
  ·exact .inl ⟨by unfold J7;rw[if_neg h4],h4⟩
 refine⟨⟨?_,hh,by show(((XN f t l).take i).length:Int)=i;rw[hKl]⟩,?_⟩
 ·unfold Xn at hc⊢;rw[aj]at hc⊢;obtain⟨ca,cb⟩:=hc;refine⟨?_,?_⟩
  ·unfold XJ at ca⊢;have:=bo ca;exact ck ⟨this.1,this.2.1,by show(0:Int)≤((XN f t l).take i).length;omega⟩
  ·show(if(XT f t l)[i].e.kind=6 then _ else _)=true
   split at cb
   ·rename_i h6;rw[if_pos h6];unfold JX at cb⊢;have hd:=bo cb;have z:∀K xs,xs.length=0→(mvI K xs).length=0:=fun K xs h=>by have:=Hb K xs;omega
    refine ck ⟨hd.1,hd.2.1,hd.2.2.1,hd.2.2.2.1,hd.2.2.2.2.1,?_,?_,hd.2.2.2.2.2.2.2⟩
    ·show J7 _ _=0
     unfold J7;rw[if_neg (by rw[h6];decide)];exact hd.2.2.2.2.2.1
    ·have:=hd.2.2.2.2.2.2.1
     show(mvI _ _).length+(mvI _ _).length+(mvI _ _).length=0
     rw[z _ _ (show(XT f t l)[i].e.da.length=0 by omega),z _ _ (show(XT f t l)[i].e.dd.length=0 by omega),z _ _ (show(XT f t l)[i].e.dw.length=0 by omega)]
   ·rename_i h6;rw[if_neg h6];rw[aj]at cb⊢;obtain⟨c1,c2⟩:=cb;refine⟨c1,?_⟩;unfold XQ at c2⊢;simp only[aj,al]at c2⊢;obtain⟨⟨e1,e2,e3,e4,e5,e6,e7,e8⟩,b1,b2,b3,b4⟩:=c2;refine⟨⟨e1,e2,e3,e4,e5,e6,fun h4=>?_,fun h4=>?_⟩,?_,?_,?_,?_⟩
    ·show 0≤J7 (_++[_]) _∧J7 (_++[_]) _<(((XN f t l).take i).length:Int)
     rw[Y,hKl];rcases hpair with⟨-,h⟩|⟨q,hq,q1,q2, -⟩
     ·exact absurd h4 h
     ·rw[q2];omega
    ·show J7 (_++[_]) _=0
     rw[Y];rcases hpair with⟨h, -⟩|⟨q,hq,q1,q2, -⟩
     ·rw[h];exact e8 h4
     ·have h4':(XT f t l)[i].e.kind≠4:=h4;unfold J7;rw[if_neg h4'];exact e8 h4'
    ·show XO (mvI (_++[_]) _) (((XN f t l).take i).length:Int)=true
     rw[Y,hKl];exact RS hp hi b1
    ·show XO (mvI (_++[_]) _) (((XN f t l).take i).length:Int)=true
     rw[Y,hKl];exact RS hp hi b2
    ·show XO (mvI (_++[_]) _) (((XN f t l).take i).length:Int)=true
     rw[Y,hKl];exact RS hp hi b3
    ·rcases b4 with b4|b4
     ·exact .inl b4
     ·right;have:=Hb ((XN f t l).take i++[(XT f t l)[i].e.pos]) (XT f t l)[i].e.dd
      show(mvI (_++[_]) _).length=0
      omega
 ·by_cases h4:(XT f t l)[i].e.kind=4
  ·right;rcases hpair with⟨-,h⟩|⟨q,hq,q1,q2,q3,q4,q5⟩
   ·exact absurd h4 h
   unfold Ie;simp only[aj,al,ao,ay];rw[hgs i hi];have hpq:(shE ((XN f t l).take i) (XT f t l)[i]).e.pair=q:=by
    show J7 (_++[_]) _=_
    rw[Y];exact q2
   rw[hpq,au,hgs q hq];refine⟨⟨q3,q4⟩,fun m hm=>?_⟩;rcases cp q m with g|g
   ·rw[hgs m (by omega)];exact .inr (q5 m g hm)
   ·exact .inl (by omega)
  ·exact .inl h4
section
theorem Em(a b:List (Bool×List Ez)):Xh (a++b)=Xh a++Xh b:=by unfold Xh;rw[dx,List.flatten_append]
theorem Vy(p:Bool×List Ez)(r:List (Bool×List Ez)):Xh (p::r)=p.2++Xh r:=by simp[Xh]
theorem WB{hs:List (Bool×List Ez)}{n:Nat}(h:n<(Xh hs).length):∃k i:Nat,∃hk:k<hs.length,i<hs[k].2.length∧n=(Xh (hs.take k)).length+i:=by
 induction hs generalizing n with
 |nil=>simp[Xh]at h
 |cons p r ih=>
  rw[Vy,az]at h;rcases cp n p.2.length with g|g
  ·exact⟨0,n,by simp,g,by simp[Xh]⟩
  ·obtain⟨k,i,hk,hi,e⟩:=ih (n:=n - p.2.length) (by omega);refine⟨k+1,i,by simpa using hk,by simpa using hi,?_⟩;rw[List.take_succ_cons,Vy,az];omega
theorem IL{hs:List (Bool×List Ez)}{k i:Nat}(hk:k<hs.length)(hi:i<hs[k].2.length):(Xh hs)[(Xh (hs.take k)).length+i]? =some hs[k].2[i]:=by
 have e:Xh hs=Xh (hs.take k)++(hs[k].2++Xh (hs.drop (k+1))):=by
  rw[←Vy,←bj hk,←Em,fk]
 rw[e,bz (kw _ _),kh,bu hi,aa hi]
theorem Rb(f t:Int)(l:List Ez)(k:Nat):(Jq f t k l).length=(XT f t l).length:=by
 induction l generalizing k with
 |nil=>rfl
 |cons x r ih=>
  simp only[Jq,XT];by_cases h:Ke f t x=true
  ·rw[if_pos h,ey h,cm,cm,ih];rfl
  ·rw[if_neg h,fc h,ih];rfl
theorem NU(f t:Int)(k:Nat):∀(l:List Ez) (s:Nat),(∀j (h:j<l.length),l[j].e.pos=((s+j:Nat):Int))→Jq f t (k+s) l=(XN f t l).map fun p=>(k:Int)+p:=by
 intro l
 induction l with
 |nil=>intro s _;rfl
 |cons x r ih=>
  intro s hp;have h0:=hp 0 (by simp);simp only[List.getElem_cons_zero,dy]at h0;have hr:=ih (s+1) (fun j h=>by have:=hp (j+1) (by simpa using h);rw[show s+1+j=s+(j+1) by omega];simpa using this);rw[show k+(s+1)=k+s+1 by omega]at hr;simp only[Jq,XN];by_cases h:Ke f t x=true
  ·rw[if_pos h,ey h,ft,ft,hr,h0]
   congr 1
  ·rw[if_neg h,fc h,hr];rfl
theorem E7{f t:Int}{hs:List (Bool×List Ez)}{k:Nat}(h:k<hs.length):(Yg f t hs)[k]? =some (decide ((Yo f t [] hs[k].2).length=0),Yo f t [] hs[k].2):=by
 unfold Yg;rw[an,aa h];rfl
theorem VE(f t:Int)(hs:List (Bool×List Ez)):(Yg f t hs).length=hs.length:=by unfold Yg;rw[ai]
theorem Bm(f t:Int)(hs:List (Bool×List Ez))(k:Nat):(Yg f t hs).take k=Yg f t (hs.take k):=by unfold Yg;rw[List.map_take]
theorem QX(f t:Int)(hs:List (Bool×List Ez))(k:Nat):(Jq f t k (Xh hs)).length=(Xh (Yg f t hs)).length:=by
 induction hs generalizing k with
 |nil=>rfl
 |cons p r ih=>
  have:Yg f t (p::r)=(decide ((Yo f t [] p.2).length=0),Yo f t [] p.2)::Yg f t r:=rfl;rw[this,Vy,Vy,Qg,az,az,ih,Rb,JA,KD]
structure Ch(hs:List (Bool×List Ez)):Prop where
 pos:∀p∈hs,bE p.2
 hart:∀(h:Nat) (hh:h<hs.length),∀x∈hs[h].2,x.e.hart=h
section
variable (f t:Int) (hs:List (Bool×List Ez))
abbrev esO:List Ev:=(Xh hs).map Ez.e
abbrev esN:List Ev:=(Xh (Yg f t hs)).map Ez.e
abbrev nk:List Int:=Jq f t 0 (Xh hs)
def gO(n:Nat):Nat:=((nk f t hs).getD n 0).toNat
structure At(n h i p:Nat)(x:Ez):Prop where
 hh:h<hs.length
 hi:i<(XT f t hs[h].2).length
 xe:(XT f t hs[h].2)[i]=x
 n_:n=(Xh (Yg f t (hs.take h))).length+i
 new:(esN f t hs).getD n default=(shE ((XN f t hs[h].2).take i) x).e
 nk_:(nk f t hs)[n]? =some (((Xh (hs.take h)).length+p:Nat):Int)
 g_:gO f t hs n=(Xh (hs.take h)).length+p
 old:(esO hs).getD (gO f t hs n) default=x.e
 lt:gO f t hs n<(Xh hs).length
 pos:x.e.pos=p
 hart:x.e.hart=h
 keep:Ke f t x=true
end
theorem gG{f t:Int}{hs:List (Bool×List Ez)}(R:Ch hs){h i:Nat}(hh:h<hs.length)(hi:i<(XT f t hs[h].2).length):
  (Xh (Yg f t (hs.take h))).length+i<(Xh (Yg f t hs)).length∧∃p x,At f t hs ((Xh (Yg f t (hs.take h))).length+i) h i p x:=by
 have hp:=R.pos _ (ba hh);obtain⟨p,hpl,hx,hpp,hk⟩:=Ro hp hi;have hsl:h<(Yg f t hs).length:=by rw[VE];exact hh
 have hrow:(Yg f t hs)[h].2=Yo f t [] hs[h].2:=by
  have:=E7 (f:=f) (t:=t) hh;rw[aa hsl]at this;injection this with this;rw[this]
 have hi':i<(Yg f t hs)[h].2.length:=by rw[hrow,JA,KD];exact hi
 have hN:=IL hsl hi';rw[Bm]at hN;have hlt:=(ah.1 hN).1;have hrow':(Yg f t hs)[h].2[i]=shE ((XN f t hs[h].2).take i) (XT f t hs[h].2)[i]:=by
  have h1:(Yg f t hs)[h].2[i]? =some (shE ((XN f t hs[h].2).take i) (XT f t hs[h].2)[i]):=by rw[hrow];exact Ic hi
  rw[aa hi']at h1;injection h1
 have hnk:(nk f t hs)[(Xh (Yg f t (hs.take h))).length+i]? =some (((Xh (hs.take h)).length+p:Nat):Int):=by
  have e:Xh hs=Xh (hs.take h)++(hs[h].2++Xh (hs.drop (h+1))):=by
   rw[←Vy,←bj hh,←Em,fk]
  have hnr:=NU f t (Xh (hs.take h)).length hs[h].2 0 (fun j hj=>by rw[hp j hj];simp)
  show(Jq f t 0 (Xh hs))[_]? =_
  rw[e,Qg,Qg,←QX f t (hs.take h) 0,bz (kw _ _),kh,bf,
   bu (by rw[Rb];exact hi)]
  rw[dy]at hnr;rw[hnr,an,Kv hi,bt,hx,hpp];simp
 have hg:gO f t hs ((Xh (Yg f t (hs.take h))).length+i)=(Xh (hs.take h)).length+p:=by
  unfold gO;rw[ac,hnk,ec,au]
 have hO:=IL hh hpl;refine⟨hlt,p,(XT f t hs[h].2)[i],hh,hi,rfl,rfl,?_,hnk,hg,?_,?_,?_,?_,?_⟩
 ·rw[ac,an,hN,hrow'];rfl
 ·rw[hg,ac,an,hO,hx];rfl
 ·rw[hg];exact(ah.1 hO).1
 ·rw[hx];exact hpp
 ·exact R.hart h hh _ (ct.1 (ba hi)).1
 ·rw[hx];exact hk
theorem Do{f t:Int}{hs:List (Bool×List Ez)}(R:Ch hs){n:Nat}(hn:n<(Xh (Yg f t hs)).length):∃h i p x,At f t hs n h i p x:=by
 obtain⟨k,i,hk,hi,e⟩:=WB hn;have hk':k<hs.length:=by rw[VE]at hk;exact hk
 have hrow:(Yg f t hs)[k].2=Yo f t [] hs[k].2:=by
  have:=E7 (f:=f) (t:=t) hk';rw[aa hk]at this;injection this with this;rw[this]
 rw[hrow,JA,KD]at hi;rw[Bm]at e;obtain⟨-,p,x,A⟩:=gG (f:=f) (t:=t) R hk' hi;exact⟨k,i,p,x,e▸A⟩
end
section
section
variable {f t:Int} {hs:List (Bool×List Ez)}
theorem T6{n:Nat}(hn:n<(nk f t hs).length):(nk f t hs)[n]? =some ((gO f t hs n:Nat):Int):=by
 have h:(nk f t hs)[n]? =some (nk f t hs)[n]:=aa hn;have h0:0≤(nk f t hs)[n]:=(QW f t _ _ _ (ba hn)).1;rw[h];unfold gO;rw[ac,h,ec]
 congr 1;omega
theorem RH{a b:Nat}(ha:a<(nk f t hs).length)(hb:b<(nk f t hs).length):(gO f t hs a<gO f t hs b↔a<b)∧(gO f t hs a=gO f t hs b↔a=b):=by
 have:=Ls (T4 f t (Xh hs) 0) (T6 ha) (T6 hb);omega
theorem eD{n:Nat}(hn:n<(Xh hs).length)(hk:Ke f t (Xh hs)[n]=true):∃a,a<(nk f t hs).length∧gO f t hs a=n:=by
 have hm:((n:Nat):Int)∈nk f t hs:=It.2 ⟨n,hn,by simp,hk⟩;obtain⟨a,ha,e⟩:=be hm;refine⟨a,ha,?_⟩;unfold gO;rw[ac,aa ha,ec,e,au]
theorem CC{n a:Nat}:V6 (n:Int) 0 (nk f t hs)=some a↔a<(nk f t hs).length∧gO f t hs a=n:=by
 constructor
 ·intro h;obtain⟨-,e⟩:=JB h;rw[ji]at e;have ha:=(ah.1 e).1;refine⟨ha,?_⟩;rw[T6 ha]at e;injection e with e;omega
 ·rintro⟨ha,rfl⟩;have:=TM (i:=0) (T4 f t (Xh hs) 0) (T6 ha)
  rwa[bf]at this
theorem NF{w:Int}(h:w<0):V6 w 0 (nk f t hs)=none:=QH 0 fun k hk=>by have:=(QW f t _ _ k hk).1;omega
theorem YM:(nk f t hs).length=(Xh (Yg f t hs)).length:=QX f t hs 0
end
section
variable {f t:Int} {hs:List (Bool×List Ez)} (R:Ch hs) (hrow:∀(h:Nat) (hh:h<hs.length),Z2 h (hs[h].2.map Ez.e)=true)
abbrev eN(f t:Int)(hs:List (Bool×List Ez))(n:Nat):Ev:=(esN f t hs).getD n default
abbrev eO(hs:List (Bool×List Ez))(n:Nat):Ev:=(esO hs).getD n default
include R
theorem X6{a:Nat}(ha:a<(Xh (Yg f t hs)).length):gO f t hs a<(Xh hs).length∧(eN f t hs a).hart=(eO hs (gO f t hs a)).hart∧(eN f t hs a).kind=(eO hs (gO f t hs a)).kind∧(eN f t hs a).addr=(eO hs (gO f t hs a)).addr∧(eN f t hs a).load=(eO hs (gO f t hs a)).load∧
  (eN f t hs a).store=(eO hs (gO f t hs a)).store∧(eN f t hs a).aq=(eO hs (gO f t hs a)).aq∧(eN f t hs a).rl=(eO hs (gO f t hs a)).rl∧(eN f t hs a).pred=(eO hs (gO f t hs a)).pred∧(eN f t hs a).succ=(eO hs (gO f t hs a)).succ:=by
 obtain⟨h,i,p,x,A⟩:=Do R ha;refine⟨A.lt,?_⟩;unfold eN eO;rw[A.new,A.old];exact⟨rfl,rfl,rfl,rfl,rfl,rfl,rfl,rfl,rfl⟩
theorem Qp{a:Nat}(ha:a<(Xh (Yg f t hs)).length)(hm:(eO hs (gO f t hs a)).mem=true):rgB f t (eO hs (gO f t hs a)).addr=true:=by
 obtain⟨h,i,p,x,A⟩:=Do R ha;have hk:=A.keep;unfold eO at*
 rw[A.old]at hm⊢;unfold Ke at hk;rw[hm]at hk;simpa using hk
omit R in
theorem Rr{n:Nat}(hn:n<(Xh hs).length)(h:rgB f t (eO hs n).addr=true):∃a,a<(Xh (Yg f t hs)).length∧gO f t hs a=n:=by
 rw[←YM];refine eD hn ?_;have e:eO hs n=(Xh hs)[n].e:=by unfold eO;rw[Ja,ac,aa hn];rfl
 rw[e]at h;unfold Ke;rw[h];simp
theorem Uk{a b:Nat}(ha:a<(Xh (Yg f t hs)).length)(hb:b<(Xh (Yg f t hs)).length)(hh:(eN f t hs a).hart=(eN f t hs b).hart):
  ((eN f t hs a).pos∈(eN f t hs b).da→(eO hs (gO f t hs a)).pos∈(eO hs (gO f t hs b)).da)∧((eN f t hs a).pos∈(eN f t hs b).dd→(eO hs (gO f t hs a)).pos∈(eO hs (gO f t hs b)).dd)∧((eN f t hs a).pos∈(eN f t hs b).dw→(eO hs (gO f t hs a)).pos∈(eO hs (gO f t hs b)).dw):=by
 obtain⟨h,i,p,x,A⟩:=Do R ha;obtain⟨h',j,q,y,B⟩:=Do R hb;unfold eN at hh⊢;unfold eO;rw[A.new,B.new]at hh;rw[A.new,B.new,A.old,B.old];have hh:x.e.hart=y.e.hart:=hh;rw[A.hart,B.hart]at hh;obtain rfl:h=h':=by omega
 have hh0:=A.hh;have hKl:((XN f t hs[h].2).take i).length=i:=by rw[cf,KD];have:=A.hi;omega
 have Y:=C5 B.hi;rw[B.xe]at Y;have key:∀xs:List Int,(((XN f t hs[h].2).take i).length:Int)∈mvI ((XN f t hs[h].2).take j++[y.e.pos]) xs→x.e.pos∈xs:=by
  intro xs hm;rw[Y,hKl]at hm;obtain⟨v,hv,k,hk,e⟩:=Zy.1 hm;obtain⟨-,hkl,rfl⟩:=qj B.hi hk;obtain rfl:i=k:=by omega
  rw[A.xe]at hv;exact hv
 exact⟨key _,key _,key _⟩
include hrow
theorem IT{b:Nat}(hb:b<(Xh (Yg f t hs)).length)(h4:(eN f t hs b).kind=4):∃a,a<b∧(eN f t hs b).pair=(eN f t hs a).pos∧(eO hs (gO f t hs b)).pair=(eO hs (gO f t hs a)).pos∧(eN f t hs a).hart=(eN f t hs b).hart∧(a:Int)=(b:Int) - ((eN f t hs b).pos - (eN f t hs b).pair)∧
  ((gO f t hs a:Nat):Int)=((gO f t hs b:Nat):Int) - ((eO hs (gO f t hs b)).pos - (eO hs (gO f t hs b)).pair):=by
 obtain⟨h,j,q,y,B⟩:=Do R hb;have hp:=R.pos _ (ba B.hh);have hh0:=B.hh;unfold eN at h4;rw[B.new]at h4;have h4:y.e.kind=4:=h4;obtain⟨i,hi,i1,i2, -⟩:=Ix hp (hrow h B.hh) B.hi (by rw[B.xe];exact h4);obtain⟨hlt,p,x,A⟩:=gG (f:=f) (t:=t) R B.hh hi;have hi':=A.xe;rw[B.xe,hi']at i2;have hKi:((XN f t hs[h].2).take i).length=i:=by rw[cf,KD];omega
 have hKj:((XN f t hs[h].2).take j).length=j:=by rw[cf,KD];have:=B.hi;omega
 have Y:=C5 B.hi;rw[B.xe]at Y;have hpr:(shE ((XN f t hs[h].2).take j) y).e.pair=(i:Int):=by
  show J7 (_++[_]) _=_
  rw[Y];unfold J7;rw[if_pos h4,i2,←hi',Im hp B.hi (fx i1)];rfl
 have hpi:(shE ((XN f t hs[h].2).take i) x).e.pos=(i:Int):=by show(((XN f t hs[h].2).take i).length:Int)=i;rw[hKi]
 have hpj:(shE ((XN f t hs[h].2).take j) y).e.pos=(j:Int):=by show(((XN f t hs[h].2).take j).length:Int)=j;rw[hKj]
 refine⟨(Xh (Yg f t (hs.take h))).length+i,by rw[B.n_];omega,?_,?_,?_,?_,?_⟩
 ·unfold eN;rw[B.new,A.new,hpr,hpi]
 ·unfold eO;rw[B.old,A.old];exact i2
 ·unfold eN;rw[B.new,A.new];show x.e.hart=y.e.hart;rw[A.hart,B.hart]
 ·unfold eN;rw[B.new,hpr,hpj,B.n_];omega
 ·unfold eO;rw[B.old,A.g_,B.g_,B.pos,i2,A.pos];omega
end
end
section
theorem YU(c:Cz):(Xh c.hs).map Ez.e=(Yr c).harts.flatten:=by
 unfold Xh Yr;simp only[gz,fu];rfl
theorem Jp{c:Cz}(h:XV (Yr c)=true):Ch c.hs∧∀(k:Nat) (hk:k<c.hs.length),Z2 k (c.hs[k].2.map Ez.e)=true:=by
 have CY:=Ju.of h;have e:∀(i:Nat) (hi:i<c.hs.length),(Yr c).harts.getD i []=c.hs[i].2.map Ez.e:=fun i hi=>by
  unfold Yr;simp only;rw[ac,an,aa hi];rfl
 have hrow:∀(k:Nat) (hk:k<c.hs.length),Z2 k (c.hs[k].2.map Ez.e)=true:=fun k hk=>by
  have:=CY.rows k (by unfold Yr;simpa using hk)
  rwa[e k hk]at this
 have hat:∀(i:Nat) (hi:i<c.hs.length) (j:Nat) (hj:j<c.hs[i].2.length),c.hs[i].2[j].e.hart=i∧c.hs[i].2[j].e.pos=j:=fun i hi j hj=>by
  have:=hrow i hi;rw[Z2,ao]at this;have:=this j (ay.2 (by rw[ai];exact hj));simp only[rowAt,aj,al]at this;have:=this.1.2;rw[Ja,ac,aa hj]at this;exact this
 refine⟨⟨fun p hp j hj=>?_,fun k hk x hx=>?_⟩,hrow⟩
 ·obtain⟨i,hi,rfl⟩:=be hp;exact(hat i hi j hj).2
 ·obtain⟨j,hj,rfl⟩:=be hx;exact(hat k hk j hj).1
theorem EA{l:List (Int×Int)}(h:KI l=true)(q:Int×Int→Bool):KI (l.filter q)=true:=by
 have key:∀{l:List (Int×Int)},KI l=true↔(∀p∈l,Int.tmod p.1 8=0)∧l.Pairwise fun a b=>a.1<b.1:=by
  intro l;unfold KI;rw[ao];have hg:∀i (h:i<l.length),l.getD i (0,0)=l[i]:=fun i h=>by rw[ac,aa h];rfl
  constructor
  ·intro h;have h':∀i (hi:i<l.length),Int.tmod l[i].1 8=0∧(∀h0:0<i,l[i - 1].1<l[i].1):=by
    intro i hi;have:=bo (h i (ay.2 hi));rw[hg i hi]at this;exact⟨this.1,fun h0=>by have:=this.2 h0;rwa[hg (i - 1) (by omega)]at this⟩
   refine⟨fun p hp=>?_,?_⟩
   ·obtain⟨i,hi,rfl⟩:=be hp;exact(h' i hi).1
   ·rw[bx];intro i j hi hj hij
    induction j with
    |zero=>omega
    |succ j ih=>
     have h1:=(h' (j+1) hj).2 (by omega);simp only[Nat.add_sub_cancel]at h1;rcases bn (fh hij)with g|g
     ·subst g;exact h1
     ·exact Int.lt_trans (ih (by omega) g) h1
  ·rintro⟨h1,h2⟩ i hi;have hi:=ay.1 hi;refine ck ?_;rw[hg i hi];refine⟨h1 _ (ba hi),fun h0=>?_⟩;rw[hg (i - 1) (by omega)];exact bx.1 h2 (i - 1) i (by omega) hi (by omega)
 rw[key]at h⊢;exact⟨fun p hp=>h.1 p (ct.1 hp).1,h.2.filter _⟩
theorem RJ{f t:Int}{l:List (Int×Int)}{a:Int}(h:rgB f t a=true):Ks (l.filter fun p=>rgB f t p.1) a=Ks l a:=by
 have:(l.filter fun p=>rgB f t p.1).find? (fun p=>decide (p.1=a))=l.find? fun p=>decide (p.1=a):=by
  induction l with
  |nil=>rfl
  |cons p r ih=>
   by_cases hp:p.1=a
   ·have hr:rgB f t p.1=true:=by rw[hp];exact h
    rw[ey (by simpa using hr),ko (by simpa using hp),ko (by simpa using hp)]
   ·rw[kq (by simpa using hp)];by_cases hr:rgB f t p.1=true
    ·rw[ey (by simpa using hr),kq (by simpa using hp)];exact ih
    ·rw[fc (by simpa using hr)];exact ih
 unfold Ks;rw[this]
theorem Jc{a b:Ev}(h:a.kind=b.kind):a.reads=b.reads∧a.writes=b.writes∧a.mem=b.mem:=by unfold Ev.reads Ev.writes Ev.mem;rw[h];exact⟨rfl,rfl,rfl⟩
theorem GM{e:Ev}(h:e.reads=true):e.mem=true:=by unfold Ev.mem K9;unfold Ev.reads at h;rw[h];simp
section
variable {f t:Int} {c:Cz} (hck:XV (Yr c)=true)
theorem Qh{hs:List (Bool×List Ez)}{w:Int}(h:w<0):Ah (nk f t hs) w=w:=by unfold Ah;rw[NF h];rfl
theorem Ag{hs:List (Bool×List Ez)}{a:Nat}(ha:a<(Xh (Yg f t hs)).length):Ah (nk f t hs) ((gO f t hs a:Nat):Int)=a:=by
 unfold Ah;rw[CC.2 ⟨by rw[YM];exact ha,rfl⟩];rfl
include hck
theorem CL:c.fr.length=(Xh c.hs).length:=by
 have:=(Ju.of hck).fl;rw[←YU,ai]at this;exact this
theorem QB:(Ga (nk f t c.hs) 0 c.fr).length=(Xh (Yg f t c.hs)).length∧∀a,a<(Xh (Yg f t c.hs)).length→(Ga (nk f t c.hs) 0 c.fr).getD a 0=Ah (nk f t c.hs) (c.fr.getD (gO f t c.hs a) 0):=by
 have h:=Sa (f:=f) (t:=t) (K:=nk f t c.hs) (L:=Xh c.hs) (fr:=c.fr) (k:=0) (CL hck) (fun j hj=>by
  rw[bf];constructor
  ·intro hs;obtain⟨a,ha⟩:=Option.isSome_iff_exists.1 hs;obtain⟨-,e⟩:=JB ha;obtain⟨j',hj',e',hk⟩:=It.1 (bb e);obtain rfl:j=j':=by omega
   exact hk
  ·intro hk;obtain⟨a,ha,e⟩:=eD hj hk;rw[CC.2 ⟨ha,e⟩];rfl)
 rw[h];refine⟨by rw[ai];exact YM,fun a ha=>?_⟩;rw[←YM]at ha;rw[ac,an]
 show((((nk f t c.hs)[a]?).map _).getD 0)=_
 rw[T6 ha];simp
theorem Ra{v:Int}(hv:v∈c.od):0≤v∧v.toNat<(Xh c.hs).length∧(eO c.hs v.toNat).mem=true:=by
 obtain⟨i,hi,rfl⟩:=be hv;have h:=(Ju.of hck).od i hi;have e:(Yr c).order.getD i 0=c.od[i]:=by show c.od.getD i 0=_;rw[ac,aa hi];rfl
 unfold G2 at h;rw[e,←YU]at h;simp only[aj,al,ai]at h;obtain⟨⟨h1,h2⟩, -,h3⟩:=h;exact⟨h1,by omega,h3⟩
theorem Is:c.od.Nodup:=by
 rw[fw,bx];intro i j hi hj hij;have h:=(Ju.of hck).od j hj;unfold G2 at h;simp only[aj,al]at h;have:=h.2.1 i hij;have e:∀k (hk:k<c.od.length),(Yr c).order.getD k 0=c.od[k]:=fun k hk=>by show c.od.getD k 0=_;rw[ac,aa hk];rfl
 rwa[e i hi,e j hj]at this
theorem BT{y:Int}:y∈mvI (nk f t c.hs) c.od↔∃q:Nat,y=q∧q<(Xh (Yg f t c.hs)).length∧((gO f t c.hs q:Nat):Int)∈c.od:=by
 rw[Zy];constructor
 ·rintro⟨v,hv,q,hq,rfl⟩;obtain⟨h1, -, -⟩:=Ra hck hv;obtain⟨n,rfl⟩:∃n:Nat,v=n:=⟨v.toNat,by omega⟩;obtain⟨g1,g2⟩:=CC.1 hq;rw[YM]at g1;exact⟨q,rfl,g1,by rw[g2];exact hv⟩
 ·rintro⟨q,rfl,hq,hm⟩;exact⟨_,hm,q,CC.2 ⟨by rw[YM];exact hq,rfl⟩,rfl⟩
theorem Ae{n:Nat}(hn:n<(Xh c.hs).length)(hm:(eO c.hs n).mem=true):(n:Int)∈c.od:=by
 have G:=(Ju.of hck).good;rw[←YU]at G;obtain⟨i,hi,e⟩:=G.all n (by rw[ai];exact hn) hm;have hi:i<c.od.length:=hi;have:(Yr c).order.getD i 0=c.od[i]:=by show c.od.getD i 0=_;rw[ac,aa hi];rfl
 rw[this]at e;rw[←e];exact ba hi
theorem GA:XV (Yr (shC f t c))=true:=by
 have CY:=Ju.of hck;obtain⟨R,hrow⟩:=Jp hck;have hflat:(Yr (shC f t c)).harts.flatten=esN f t c.hs:=(YU (shC f t c)).symm;obtain⟨fl,fat⟩:=QB (f:=f) (t:=t) hck;have hG:=CY.good;have hsl:(Yr (shC f t c)).harts.length=c.hs.length:=by show((Yg f t c.hs).map _).length=_;rw[ai,VE]
 have hcl:(Yr c).harts.length=c.hs.length:=by show(c.hs.map _).length=_;rw[ai]
 have hnew:∀n,n<(Xh (Yg f t c.hs)).length→(eN f t c.hs n).kind=(eO c.hs (gO f t c.hs n)).kind:=fun n hn=>(X6 R hn).2.2.1;unfold XV;rw[hflat];simp only[aj,al,ao,ay,ai];refine⟨EA CY.cells _,?_,fun i hi=>?_,fl,fun n hn=>?_,fun i hi=>?_,?_⟩
 ·rw[hsl,←hcl];exact CY.hn
 ·rw[hsl]at hi;have e:(Yr (shC f t c)).harts.getD i []=(Yo f t [] c.hs[i].2).map Ez.e:=by
   show(((Yg f t c.hs).map fun p=>p.2.map Ez.e)).getD i []=_
   rw[ac,an,E7 hi];rfl
  rw[e];exact Sj (R.pos _ (ba hi)) (hrow i hi)
 ·obtain⟨hlt, -,hkd,had,hld,hst, -⟩:=X6 R hn;have hb:=CY.fr (gO f t c.hs n) (by rw[←YU,ai];exact hlt);rw[←YU]at hb;unfold Ve at hb⊢;have e1:(Yr (shC f t c)).from_.getD n 0=Ah (nk f t c.hs) (c.fr.getD (gO f t c.hs n) 0):=fat n hn;have e2:(Yr c).from_=c.fr:=rfl;have e3:(Yr (shC f t c)).first=c.f.filter fun p=>rgB f t p.1:=rfl
  have e4:(Yr c).first=c.f:=rfl
  have e1':(Yr (shC f t c)).from_.getD n 0=Ah (nk f t c.hs) (c.fr.getD (gO f t c.hs n) 0):=e1;rw[e3];rw[e2,e4]at hb;simp only at hb⊢;rw[e1'];have hrd:=(Jc hkd).1
  show(if(eN f t c.hs n).reads=false then _ else _)=true
  rw[hrd];have hb:(if(eO c.hs (gO f t c.hs n)).reads=false then decide (c.fr.getD (gO f t c.hs n) 0= -1)else _)=true:=hb;split at hb
  ·rename_i hr;rw[if_pos hr];have:=bo hb;rw[this,Qh (by omega)];rfl
  ·rename_i hr;rw[if_neg hr];have hr:(eO c.hs (gO f t c.hs n)).reads=true:=by simpa using hr
   have hrg:=Qp R hn (GM hr);split at hb
   ·rename_i hv;rw[hv,Qh (by omega),if_pos rfl];have:=bo hb;refine ck ?_
    show(eN f t c.hs n).load=Ks _ (eN f t c.hs n).addr
    rw[hld,had,RJ hrg];exact this
   ·rename_i hv;simp only[aj,al,ai]at hb;obtain⟨⟨v1,v2,v3⟩,w1,w2,w3⟩:=hb;obtain⟨w,hw⟩:∃w:Nat,c.fr.getD (gO f t c.hs n) 0=w:=⟨(c.fr.getD (gO f t c.hs n) 0).toNat,by omega⟩;rw[hw]at v2 v3 w1 w2 w3⊢;rw[au]at w1 w2 w3;have hwl:w<(Xh c.hs).length:=by omega
    obtain⟨a,ha,rfl⟩:=Rr (f:=f) (t:=t) (hs:=c.hs) hwl (by
     show rgB f t (eO c.hs w).addr=true
     have:(eO c.hs w).addr=(eO c.hs (gO f t c.hs n)).addr:=w2;rw[this];exact hrg)
    obtain⟨-, -,akd,aad, -,ast, -⟩:=X6 R ha;rw[Ag ha,if_neg (by omega)];simp only[aj,al,ai,au];have wq:(a:Int)=(n:Int)→((gO f t c.hs a:Nat):Int)=((gO f t c.hs n:Nat):Int):=fun e=>by
     have:a=n:=by omega
     rw[this]
    refine⟨⟨by omega,by omega,fun e=>v3 (wq e)⟩,?_,?_,?_⟩
    ·show(eN f t c.hs a).writes=true
     rw[(Jc akd).2.1];exact w1
    ·show(eN f t c.hs a).addr=(eN f t c.hs n).addr
     rw[aad,had];exact w2
    ·show(eN f t c.hs a).store=(eN f t c.hs n).load
     rw[ast,hld];exact w3
 ·have hi:i<(mvI (nk f t c.hs) c.od).length:=hi;have hgd:∀k (hk:k<(mvI (nk f t c.hs) c.od).length),(mvI (nk f t c.hs) c.od).getD k 0=(mvI (nk f t c.hs) c.od)[k]:=fun k hk=>by rw[ac,aa hk];rfl
  have ho:(Yr (shC f t c)).order=mvI (nk f t c.hs) c.od:=rfl;unfold G2;rw[ho,hgd i hi];obtain⟨q,hq,hql,hqo⟩:=(BT hck).1 (ba hi);simp only[aj,al,ai];rw[hq,au];refine⟨⟨by omega,by omega⟩,fun j hj=>?_,?_⟩
  ·rw[hgd j (by omega),←hq];have:=BU (K:=nk f t c.hs) (Is hck);rw[fw,bx]at this;exact this j i (by omega) hi hj
  ·obtain⟨-, -,hm⟩:=Ra hck hqo;rw[au]at hm
   show(eN f t c.hs q).mem=true
   rw[(Jc (hnew q hql)).2.2];exact hm
 ·show(mvI (nk f t c.hs) c.od).length=_
  rw[Hd,ai];have hl:(mvI (nk f t c.hs) c.od).map Int.toNat|>.Perm ((List.range (Xh (Yg f t c.hs)).length).filter fun n=>(eN f t c.hs n).mem):=by
   have hnd:((mvI (nk f t c.hs) c.od).map Int.toNat).Nodup:=by
    have:=BU (K:=nk f t c.hs) (Is hck);rw[fw]at this⊢;rw[List.pairwise_map];refine List.Pairwise.imp_of_mem (fun{a b} ha hb hab=>?_) this;obtain⟨q1,rfl, -⟩:=(BT hck).1 ha;obtain⟨q2,rfl, -⟩:=(BT hck).1 hb;simp only[au];intro e;exact hab (by rw[e])
   rw[List.perm_ext_iff_of_nodup hnd (List.Pairwise.filter _ List.nodup_range)];intro a;simp only[cy,ct,ay];constructor
   ·rintro⟨y,hy,rfl⟩;obtain⟨q,rfl,hql,hqo⟩:=(BT hck).1 hy;obtain⟨-, -,hm⟩:=Ra hck hqo;rw[au]at hm⊢;exact⟨hql,by rw[(Jc (hnew q hql)).2.2];exact hm⟩
   ·rintro⟨ha,hm⟩;rw[(Jc (hnew a ha)).2.2]at hm;refine⟨a,(BT hck).2 ⟨a,rfl,ha,Ae hck (X6 R ha).1 hm⟩,au a⟩
  have:=hl.length_eq;rw[ai]at this;exact this
end
end
section
theorem GB{a b:Nat}{p:Nat→Bool}:btw a b p=true↔∃m,a<m∧m<b∧p m=true:=by
 unfold btw;rw[List.any_eq_true];constructor
 ·rintro⟨m,hm,h⟩;rw[aj,al]at h;exact⟨m,h.1,ay.1 hm,h.2⟩
 ·rintro⟨m,h1,h2,h3⟩;exact⟨m,ay.2 h2,by rw[h3,ck h1];rfl⟩
theorem NV{K l:List Int}{P Q:Int→Int→Prop}(hl:l.Pairwise P)(h:∀u v (p q:Nat),P u v→V6 u 0 K=some p→V6 v 0 K=some q→Q p q):(mvI K l).Pairwise Q:=by
 induction l with
 |nil=>exact .nil
 |cons n r ih=>
  rw[dn]at hl;simp only[mvI];cases hq:V6 n 0 K with
  |none=>exact ih hl.2
  |some q=>
   refine List.Pairwise.cons (fun y hy=>?_) (ih hl.2);obtain⟨v,h1,q',h2,rfl⟩:=Zy.1 hy;exact h _ _ _ _ (hl.1 v h1) hq h2
section
variable {f t:Int} {c:Cz} (hck:XV (Yr c)=true)
abbrev frN(f t:Int)(c:Cz):List Int:=Ga (nk f t c.hs) 0 c.fr
abbrev odN(f t:Int)(c:Cz):List Int:=mvI (nk f t c.hs) c.od
abbrev pO(c:Cz)(n:Nat):Int:=(X5 c.fr.length c.od).getD n 0
abbrev pN(f t:Int)(c:Cz)(n:Nat):Int:=(X5 (frN f t c).length (odN f t c)).getD n 0
include hck
theorem AD:Good (esO c.hs) c.od:=by have:=(Ju.of hck).good;rw[←YU]at this;exact this
theorem Og:Good (esN f t c.hs) (odN f t c):=by
 have:=(Ju.of (GA (f:=f) (t:=t) hck)).good;rw[←YU]at this;exact this
theorem Sv{i:Nat}(hi:i<c.od.length):pO c (c.od[i]).toNat=i:=by
 have G:=AD hck;have e:c.od.getD i 0=c.od[i]:=by rw[ac,aa hi];rfl
 obtain⟨h1,h2, -⟩:=Ra hck (ba hi);unfold pO;rw[Zt (by rw[CL hck];exact h2)];exact Pb G hi (by rw[e];omega)
theorem dL{i:Nat}(hi:i<(odN f t c).length):pN f t c ((odN f t c)[i]).toNat=i:=by
 have G:=Og (f:=f) (t:=t) hck;have e:(odN f t c).getD i 0=(odN f t c)[i]:=by rw[ac,aa hi];rfl
 obtain⟨q,hq,hql, -⟩:=(BT hck).1 (ba hi);unfold pN;rw[Zt (by rw[(QB hck).1];rw[hq];exact hql)];exact Pb G hi (by rw[e];omega)
theorem TR{a:Nat}(ha:a<(Xh (Yg f t c.hs)).length)(hm:(eN f t c.hs a).mem=true):∃i,∃hi:i<(odN f t c).length,(odN f t c)[i]=(a:Int)∧pN f t c a=i:=by
 have R:=(Jp hck).1;have hf:=X6 R ha;have hy:((a:Nat):Int)∈odN f t c:=(BT hck).2 ⟨a,rfl,ha,Ae hck hf.1 (by rw[←(Jc hf.2.2.1).2.2];exact hm)⟩;obtain⟨i,hi,e⟩:=be hy;refine⟨i,hi,e,?_⟩;have:=dL hck hi;rw[e,au]at this;exact this
theorem lK{n:Nat}(hn:n<(Xh c.hs).length)(hm:(eO c.hs n).mem=true):∃i,∃hi:i<c.od.length,c.od[i]=(n:Int)∧pO c n=i:=by
 obtain⟨i,hi,e⟩:=be (Ae hck hn hm);refine⟨i,hi,e,?_⟩;have:=Sv hck hi;rw[e,au]at this;exact this
theorem Hq{a b:Nat}(ha:a<(Xh (Yg f t c.hs)).length)(hb:b<(Xh (Yg f t c.hs)).length)(hma:(eN f t c.hs a).mem=true)(hmb:(eN f t c.hs b).mem=true):pN f t c a<pN f t c b↔pO c (gO f t c.hs a)<pO c (gO f t c.hs b):=by
 have hpo:c.od.Pairwise fun u v=>pO c u.toNat<pO c v.toNat:=by
  rw[bx];intro i j hi hj hij;rw[Sv hck hi,Sv hck hj];omega
 have hpn:(odN f t c).Pairwise fun y z=>pO c (gO f t c.hs y.toNat)<pO c (gO f t c.hs z.toNat):=by
  refine NV (List.Pairwise.imp_of_mem (fun{u v} hu hv h=>(⟨hu,hv,h⟩:u∈c.od∧v∈c.od∧pO c u.toNat<pO c v.toNat)) hpo) fun u v p q h h1 h2=>?_;obtain⟨hu,hv,h⟩:=h;have:=(Ra hck hu).1;have:=(Ra hck hv).1;obtain⟨m,rfl⟩:∃m:Nat,u=m:=⟨u.toNat,by omega⟩;obtain⟨k,rfl⟩:∃k:Nat,v=k:=⟨v.toNat,by omega⟩;rw[au,au,(CC.1 h1).2,(CC.1 h2).2];simpa using h
 obtain⟨i,hi,ei,pi⟩:=TR hck ha hma;obtain⟨j,hj,ej,pj⟩:=TR hck hb hmb;rw[pi,pj];rw[bx]at hpn;rcases jd i j with h|h|h
 ·have:=hpn i j hi hj h;rw[ei,ej,au,au]at this;omega
 ·subst h;rw[ei]at ej;have:a=b:=by omega
  subst this;omega
 ·have:=hpn j i hj hi h;rw[ei,ej,au,au]at this;omega
theorem ZC{n:Nat}(hn:n<(Xh (Yg f t c.hs)).length):(c.fr.getD (gO f t c.hs n) 0= -1∧(frN f t c).getD n 0= -1)∨
  ∃a,a<(Xh (Yg f t c.hs)).length∧c.fr.getD (gO f t c.hs n) 0=((gO f t c.hs a:Nat):Int)∧(frN f t c).getD n 0=(a:Int)∧(eO c.hs (gO f t c.hs a)).writes=true∧(eO c.hs (gO f t c.hs a)).addr=(eO c.hs (gO f t c.hs n)).addr:=by
 have R:=(Jp hck).1;obtain⟨hlt, -,hkd,had, -⟩:=X6 R hn;have hat:=(QB (f:=f) (t:=t) hck).2 n hn;have hb:=(Ju.of hck).fr (gO f t c.hs n) (by rw[←YU,ai];exact hlt);rw[←YU]at hb;unfold Ve at hb;simp only at hb;have hb:(if(eO c.hs (gO f t c.hs n)).reads=false then decide (c.fr.getD (gO f t c.hs n) 0= -1)else if c.fr.getD (gO f t c.hs n) 0= -1 then _ else _)=true:=hb;split at hb
 ·have:=bo hb;exact .inl ⟨this,by rw[hat,this,Qh (by omega)]⟩
 ·rename_i hr;have hr:(eO c.hs (gO f t c.hs n)).reads=true:=by simpa using hr
  have hrg:=Qp R hn (GM hr);split at hb
  ·rename_i hv;exact .inl ⟨hv,by rw[hat,hv,Qh (by omega)]⟩
  ·simp only[aj,al,ai]at hb;obtain⟨⟨v1,v2,v3⟩,w1,w2, -⟩:=hb;obtain⟨w,hw⟩:∃w:Nat,c.fr.getD (gO f t c.hs n) 0=w:=⟨(c.fr.getD (gO f t c.hs n) 0).toNat,by
    have:(Yr c).from_.getD (gO f t c.hs n) 0=c.fr.getD (gO f t c.hs n) 0:=rfl;rw[this]at v1;omega⟩
   have hw':(Yr c).from_.getD (gO f t c.hs n) 0=w:=hw;rw[hw']at v2 w1 w2;rw[au]at w1 w2;have hwl:w<(Xh c.hs).length:=by omega
   obtain⟨a,ha,rfl⟩:=Rr (f:=f) (t:=t) (hs:=c.hs) hwl (by
    show rgB f t (eO c.hs w).addr=true
    have:(eO c.hs w).addr=(eO c.hs (gO f t c.hs n)).addr:=w2;rw[this];exact hrg)
   exact .inr ⟨a,ha,hw,by rw[hat,hw,Ag ha],w1,w2⟩
theorem Q9{a b:Nat}(ha:a<(Xh (Yg f t c.hs)).length)(hb:b<(Xh (Yg f t c.hs)).length)(hh:(eN f t c.hs a).hart=(eN f t c.hs b).hart):((eN f t c.hs a).pos<(eN f t c.hs b).pos↔a<b)∧((eN f t c.hs a).pos=(eN f t c.hs b).pos→a=b):=by
 have G:=Og (f:=f) (t:=t) hck;rcases jd a b with h|h|h
 ·have:=(G.row a b h (by rw[ai];exact hb) hh).1;unfold eN;omega
 ·subst h;omega
 ·have:=(G.row b a h (by rw[ai];exact ha) hh.symm).1;unfold eN;omega
theorem Aw{a b:Nat}{r:Int}(h:KR (esN f t c.hs) (frN f t c) a b r=true):a<(Xh (Yg f t c.hs)).length∧b<(Xh (Yg f t c.hs)).length∧(eN f t c.hs a).mem=true∧(eN f t c.hs b).mem=true∧KR (esO c.hs) c.fr (gO f t c.hs a) (gO f t c.hs b) r=true:=by
 obtain⟨R,hrow⟩:=Jp hck;unfold KR at h;rw[aj]at h;obtain⟨h1,h2⟩:=h;unfold Zj at h1;simp only[aj,al,ai,au]at h1;obtain⟨⟨-, -,ha,hb⟩,⟨hh,hpos⟩,hma,hmb⟩:=h1;have ha:a<(Xh (Yg f t c.hs)).length:=by omega
 have hb:b<(Xh (Yg f t c.hs)).length:=by omega
 have hh:(eN f t c.hs a).hart=(eN f t c.hs b).hart:=hh;have hab:a<b:=(Q9 hck ha hb hh).1.1 hpos;obtain⟨alt,aht,akd,aad, -, -,aaq,arl, -⟩:=X6 R ha;obtain⟨blt,bht,bkd,bad, -, -,baq,brl, -⟩:=X6 R hb;have hgab:gO f t c.hs a<gO f t c.hs b:=(RH (by rw[YM];exact ha) (by rw[YM];exact hb)).1.2 hab;have hho:(eO c.hs (gO f t c.hs a)).hart=(eO c.hs (gO f t c.hs b)).hart:=by rw[←aht,←bht];exact hh
 have GO:=AD hck;have GN:=Og (f:=f) (t:=t) hck;have hpo:=(GO.row _ _ hgab (by rw[ai];exact blt) hho).1;have hma':(eO c.hs (gO f t c.hs a)).mem=true:=by rw[←(Jc akd).2.2];exact hma
 have hmb':(eO c.hs (gO f t c.hs b)).mem=true:=by rw[←(Jc bkd).2.2];exact hmb
 have hrga:=Qp R ha hma';have hmid:∀m,a<m→m<b→m<(Xh (Yg f t c.hs)).length∧gO f t c.hs a<gO f t c.hs m∧gO f t c.hs m<gO f t c.hs b∧(eN f t c.hs a).hart=(eN f t c.hs m).hart:=by
  intro m m1 m2;have hm:m<(Xh (Yg f t c.hs)).length:=by omega
  refine⟨hm,(RH (by rw[YM];exact ha) (by rw[YM];exact hm)).1.2 m1,(RH (by rw[YM];exact hm) (by rw[YM];exact hb)).1.2 m2,?_⟩;exact((GN.row a b hab (by rw[ai];exact hb) hh).2 m (fx m1) (fx m2)).symm
 refine⟨ha,hb,hma,hmb,?_⟩;unfold KR;rw[aj];refine⟨?_,?_⟩
 ·unfold Zj;simp only[aj,al,ai,au];exact⟨⟨by omega,by omega,by omega,by omega⟩,⟨hho,hpo⟩,hma',hmb'⟩
 have wr:∀{m},m<(Xh (Yg f t c.hs)).length→(eN f t c.hs m).writes=(eO c.hs (gO f t c.hs m)).writes∧(eN f t c.hs m).reads=(eO c.hs (gO f t c.hs m)).reads∧(eN f t c.hs m).mem=(eO c.hs (gO f t c.hs m)).mem:=fun{m} hm=>by
  have:=Jc (X6 R hm).2.2.1;exact⟨this.2.1,this.1,this.2.2⟩
 have din:∀{xs:List Int} {y:Int},inB xs y=true↔y∈xs:=fun{xs y}=>by unfold inB;exact decide_eq_true_iff
 have hfr:∀m:Nat,(frN f t c).getD b 0=(m:Int)→m<(Xh (Yg f t c.hs)).length∧c.fr.getD (gO f t c.hs b) 0=((gO f t c.hs m:Nat):Int):=fun m hm=>by
  rcases ZC hck hb with⟨-,e⟩|⟨a',ha',e1,e2, -⟩
  ·omega
  ·have:a'=m:=by omega
   subst this;exact⟨ha',e1⟩
 unfold Si at h2⊢;split at h2
 ·simp only[aj,al]at h2⊢;exact⟨by rw[←(wr hb).1];exact h2.1,by rw[←aad,←bad];exact h2.2⟩
 ·simp only[aj,al,kl]at h2⊢;obtain⟨g1,g2,g3,g4,g5⟩:=h2;refine⟨?_,by rw[←(wr ha).2.1];exact g2,by rw[←(wr hb).2.1];exact g3,by rw[←aad,←bad];exact g4,fun e=>g5 ?_⟩
  ·rw[km];intro hbt;obtain⟨m,m1,m2,m3⟩:=GB.1 hbt;unfold p2 at m3;simp only[aj,al]at m3;obtain⟨k,hk,rfl⟩:=Rr (f:=f) (t:=t) (hs:=c.hs) (show m<(Xh c.hs).length by omega) (by
    show rgB f t (eO c.hs m).addr=true
    have:(eO c.hs m).addr=(eO c.hs (gO f t c.hs a)).addr:=m3.2;rw[this];exact hrga)
   have k1:=(RH (by rw[YM];exact ha) (by rw[YM];exact hk)).1.1 m1;have k2:=(RH (by rw[YM];exact hk) (by rw[YM];exact hb)).1.1 m2;have hy:btw a b (p2 (esN f t c.hs) ((esN f t c.hs).getD a default).addr)=true:=by
    refine GB.2 ⟨k,k1,k2,?_⟩;unfold p2;simp only[aj,al];refine⟨by rw[(wr hk).1];exact m3.1,?_⟩
    show(eN f t c.hs k).addr=(eN f t c.hs a).addr
    rw[(X6 R hk).2.2.2.1,aad];exact m3.2
   rw[g1]at hy;cases hy
  ·have at1:=(QB (f:=f) (t:=t) hck).2 a ha;have at2:=(QB (f:=f) (t:=t) hck).2 b hb
   show(frN f t c).getD a 0=(frN f t c).getD b 0
   rw[at1,at2,e]
 ·simp only[aj,al]at h2⊢;obtain⟨g1,g2,g3⟩:=h2;exact⟨(by rw[←akd];exact g1:(eO c.hs (gO f t c.hs a)).kind=4∨(eO c.hs (gO f t c.hs a)).kind=5),by rw[←(wr hb).2.1];exact g2,(hfr a g3).2⟩
 ·obtain⟨m,m1,m2,m3⟩:=GB.1 h2;obtain⟨q0,q1,q2, -⟩:=hmid m m1 m2;obtain⟨-, -,mkd, -, -, -, -, -,mp,ms⟩:=X6 R q0;refine GB.2 ⟨gO f t c.hs m,q1,q2,?_⟩;unfold p4 at m3⊢;have e1:((esN f t c.hs).getD m default).kind=((esO c.hs).getD (gO f t c.hs m) default).kind:=mkd;have e2:((esN f t c.hs).getD m default).pred=((esO c.hs).getD (gO f t c.hs m) default).pred:=mp;have e3:((esN f t c.hs).getD m default).succ=((esO c.hs).getD (gO f t c.hs m) default).succ:=ms;have e4:((esN f t c.hs).getD a default).kind=((esO c.hs).getD (gO f t c.hs a) default).kind:=akd;have e5:((esN f t c.hs).getD b default).kind=((esO c.hs).getD (gO f t c.hs b) default).kind:=bkd;rw[e1,e2,e3,e4,e5]at m3;exact m3
 ·show(eO c.hs (gO f t c.hs a)).aq=true
  rw[←aaq];exact h2
 ·show(eO c.hs (gO f t c.hs b)).rl=true
  rw[←brl];exact h2
 ·have e1:((esN f t c.hs).getD a default).aq=((esO c.hs).getD (gO f t c.hs a) default).aq:=aaq;have e2:((esN f t c.hs).getD a default).rl=((esO c.hs).getD (gO f t c.hs a) default).rl:=arl;have e3:((esN f t c.hs).getD b default).aq=((esO c.hs).getD (gO f t c.hs b) default).aq:=baq;have e4:((esN f t c.hs).getD b default).rl=((esO c.hs).getD (gO f t c.hs b) default).rl:=brl;rw[e1,e2,e3,e4]at h2;exact h2
 ·rw[al]at h2⊢;obtain⟨g1,g2⟩:=h2;obtain⟨a0,a01,a02,a03,a04, -⟩:=IT R hrow hb g1;have ha0:a0<(Xh (Yg f t c.hs)).length:=by omega
  have g2:(eN f t c.hs b).pair=(eN f t c.hs a).pos:=g2;have:a0=a:=(Q9 hck ha0 ha (by rw[a04,←hh])).2 (by rw[←a02,g2]);subst this;refine⟨?_,a03⟩
  show(eO c.hs (gO f t c.hs b)).kind=4
  rw[←bkd];exact g1
 ·exact din.2 ((Uk R ha hb hh).1 (din.1 h2))
 ·exact din.2 ((Uk R ha hb hh).2.1 (din.1 h2))
 ·rw[aj]at h2⊢;exact⟨by rw[←(wr hb).1];exact h2.1,din.2 ((Uk R ha hb hh).2.2 (din.1 h2.2))⟩
 ·obtain⟨m,m1,m2,m3⟩:=GB.1 h2;obtain⟨q0,q1,q2,q3⟩:=hmid m m1 m2;refine GB.2 ⟨gO f t c.hs m,q1,q2,?_⟩;unfold p12 at m3⊢;simp only[aj,al,jc]at m3⊢;obtain⟨n1,n2,n3,n4⟩:=m3;have e5:((esN f t c.hs).getD b default).kind=((esO c.hs).getD (gO f t c.hs b) default).kind:=bkd;refine⟨by rw[←e5];exact n1,(hfr m n2).2,by rw[←(wr q0).1];exact n3,?_⟩;have hd:=Uk R ha q0 q3;rcases n4 with n4|n4
  ·exact .inl (din.2 (hd.1 (din.1 n4)))
  ·exact .inr (din.2 (hd.2.1 (din.1 n4)))
 ·obtain⟨m,m1,m2,m3⟩:=GB.1 h2;obtain⟨q0,q1,q2,q3⟩:=hmid m m1 m2;refine GB.2 ⟨gO f t c.hs m,q1,q2,?_⟩;unfold p13 at m3⊢;simp only[aj]at m3⊢;obtain⟨n1,n2,n3⟩:=m3;have e5:((esN f t c.hs).getD b default).kind=((esO c.hs).getD (gO f t c.hs b) default).kind:=bkd;exact⟨by rw[←e5];exact n1,by rw[←(wr q0).2.2];exact n2,din.2 ((Uk R ha q0 q3).1 (din.1 n3))⟩
 ·cases h2
end
end
section
theorem Pc{es:List Ev}{od:List Int}{n a m:Nat}(hod:∀v∈od,0≤v)(h:Gi es od n a m<0):∀i,a≤i→i<m→JT es od n i=false:=by
 intro i h1 h2;unfold Gi at h;cases hf:(List.range m).find? fun i=>decide (a≤i)&&JT es od n i with
 |none=>
  rw[jo]at hf;have:=hf i (ay.2 h2);rw[ck h1,ce]at this;simpa using this
 |some q=>
  rw[hf]at h;simp only[bt,ec]at h;rw[ac]at h;cases hg:od[q]? with
  |none=>rw[hg]at h;simp at h
  |some v=>rw[hg]at h;have:=hod v (bb hg);simp at h;omega
section
variable {f t:Int} {c:Cz} (hck:XV (Yr c)=true)
include hck
theorem dK{a b:Nat}(ha:a<(Xh (Yg f t c.hs)).length)(hb:b<(Xh (Yg f t c.hs)).length)(hma:(eN f t c.hs a).mem=true)(hmb:(eN f t c.hs b).mem=true)(h:pN f t c a=pN f t c b):a=b:=by
 obtain⟨i,hi,ei,pi⟩:=TR hck ha hma;obtain⟨j,hj,ej,pj⟩:=TR hck hb hmb;have:i=j:=by omega
 subst this;rw[ei]at ej;omega
theorem ZL{m:Nat}(hm:m<(Xh (Yg f t c.hs)).length):(eN f t c.hs m).writes=(eO c.hs (gO f t c.hs m)).writes∧(eN f t c.hs m).reads=(eO c.hs (gO f t c.hs m)).reads∧(eN f t c.hs m).mem=(eO c.hs (gO f t c.hs m)).mem:=by
 have:=Jc (X6 (Jp hck).1 hm).2.2.1;exact⟨this.2.1,this.1,this.2.2⟩
theorem Rw{a b:Nat}(ha:a<(Xh c.hs).length)(hb:b<(Xh c.hs).length)(hh:(eO c.hs a).hart=(eO c.hs b).hart):(eO c.hs a).pos<(eO c.hs b).pos↔a<b:=by
 have G:=AD hck;rcases jd a b with h|h|h
 ·have:=(G.row a b h (by rw[ai];exact hb) hh).1;unfold eO;omega
 ·subst h;omega
 ·have:=(G.row b a h (by rw[ai];exact ha) hh.symm).1;unfold eO;omega
theorem Qs{n k:Nat}(hn:n<(Xh (Yg f t c.hs)).length)(hk:k<(Xh (Yg f t c.hs)).length)(hr:(eN f t c.hs n).reads=true):FV (esN f t c.hs) (X5 (frN f t c).length (odN f t c)) n k↔FV (esO c.hs) (X5 c.fr.length c.od) (gO f t c.hs n) (gO f t c.hs k):=by
 have R:=(Jp hck).1;obtain⟨nlt,nht,nkd,nad, -⟩:=X6 R hn;obtain⟨klt,kht,kkd,kad, -⟩:=X6 R hk;have hgn:=RH (f:=f) (t:=t) (hs:=c.hs) (by rw[YM];exact hk) (by rw[YM];exact hn);have hw:=(ZL hck hk).1
 show(k≠n∧(eN f t c.hs k).writes=true∧(eN f t c.hs k).addr=(eN f t c.hs n).addr∧(((eN f t c.hs k).hart=(eN f t c.hs n).hart∧(eN f t c.hs k).pos<(eN f t c.hs n).pos)∨pN f t c k<pN f t c n))↔
  (gO f t c.hs k≠gO f t c.hs n∧(eO c.hs (gO f t c.hs k)).writes=true∧(eO c.hs (gO f t c.hs k)).addr=(eO c.hs (gO f t c.hs n)).addr∧(((eO c.hs (gO f t c.hs k)).hart=(eO c.hs (gO f t c.hs n)).hart∧(eO c.hs (gO f t c.hs k)).pos<(eO c.hs (gO f t c.hs n)).pos)∨pO c (gO f t c.hs k)<pO c (gO f t c.hs n)))
 rw[hw,kad,nad,kht,nht];constructor
 ·rintro⟨h1,h2,h3,h4⟩;refine⟨fun e=>h1 (hgn.2.1 e),h2,h3,?_⟩;rcases h4 with⟨h5,h6⟩|h5
  ·exact .inl ⟨h5,(Rw hck klt nlt h5).2 (hgn.1.2 ((Q9 hck hk hn (by rw[kht,nht];exact h5)).1.1 h6))⟩
  ·exact .inr ((Hq hck hk hn (Vh (by rw[hw];exact h2)) (GM hr)).1 h5)
 ·rintro⟨h1,h2,h3,h4⟩;refine⟨fun e=>h1 (by rw[e]),h2,h3,?_⟩;rcases h4 with⟨h5,h6⟩|h5
  ·exact .inl ⟨h5,(Q9 hck hk hn (by rw[kht,nht];exact h5)).1.2 (hgn.1.1 ((Rw hck klt nlt h5).1 h6))⟩
  ·exact .inr ((Hq hck hk hn (Vh (by rw[hw];exact h2)) (GM hr)).2 h5)
theorem Pd{n i:Nat}(hn:n<(Xh (Yg f t c.hs)).length)(hmn:(eN f t c.hs n).mem=true)(hi:(i:Int)<pN f t c n)(h:JT (esN f t c.hs) (odN f t c) n i=true):
  ∃q j,q<(Xh (Yg f t c.hs)).length∧(eN f t c.hs q).mem=true∧pN f t c q=i∧pO c (gO f t c.hs q)=(j:Nat)∧(j:Int)<pO c (gO f t c.hs n)∧JT (esO c.hs) c.od (gO f t c.hs n) j=true:=by
 have R:=(Jp hck).1;obtain⟨i',hi', -,pi⟩:=TR hck hn hmn;have hil:i<(odN f t c).length:=by omega
 have e:(odN f t c).getD i 0=(odN f t c)[i]:=by rw[ac,aa hil];rfl
 obtain⟨q,hq,hql,hqo⟩:=(BT hck).1 (ba hil);have hp:=dL hck hil;rw[hq,au]at hp;have hmq:(eN f t c.hs q).mem=true:=by rw[(ZL hck hql).2.2];have:=(Ra hck hqo).2.2;rwa[au]at this
 obtain⟨j,hj,ej,pj⟩:=lK hck (X6 R hql).1 (by rw[←(ZL hck hql).2.2];exact hmq);have hjl:(j:Int)<pO c (gO f t c.hs n):=by
  rw[←pj];exact(Hq hck hql hn hmq hmn).1 (by rw[hp];exact hi)
 refine⟨q,j,hql,hmq,hp,pj,hjl,?_⟩;have e2:c.od.getD j 0=c.od[j]:=by rw[ac,aa hj];rfl
 unfold JT at h⊢;rw[e,hq,au]at h;rw[e2,ej,au];have h:(decide ((eN f t c.hs q).hart≠(eN f t c.hs n).hart)&&((eN f t c.hs q).writes&&decide ((eN f t c.hs q).addr=(eN f t c.hs n).addr)))=true:=h;rw[(X6 R hql).2.1,(X6 R hn).2.1,(ZL hck hql).1,(X6 R hql).2.2.2.1,(X6 R hn).2.2.2.1]at h;exact h
theorem SU(J:JOk (esO c.hs) c.fr c.od (X5 c.fr.length c.od)):JOk (esN f t c.hs) (frN f t c) (odN f t c) (X5 (frN f t c).length (odN f t c)):=by
 obtain⟨R,hrow⟩:=Jp hck;have GO:=AD hck;obtain⟨J1,J2,J3⟩:=J;refine⟨fun x y h=>?_,fun n hn hr=>?_,fun n hn h4=>?_⟩
 ·obtain⟨h1,h2,h3,h4⟩:=h;obtain⟨r,r1,r2,hh⟩:=Br.1 h4;obtain⟨hx,hy,hmx,hmy,ho⟩:=Aw hck hh;have hlt:=(RH (f:=f) (t:=t) (hs:=c.hs) (by rw[YM];exact hx) (by rw[YM];exact hy)).1.2 h1;have hht:(eO c.hs (gO f t c.hs x)).hart=(eO c.hs (gO f t c.hs y)).hart:=by
   rw[←(X6 R hx).2.1,←(X6 R hy).2.1];exact(h3 y h1 (ak _)).symm
  have hyl:=(X6 R hy).1;have hle:pO c (gO f t c.hs x)≤pO c (gO f t c.hs y):=J1 _ _ ⟨hlt,by rw[ai];exact hyl,fun m m1 m2=>(GO.row _ _ hlt (by rw[ai];exact hyl) hht).2 m (fx m1) m2,Br.2 ⟨r,r1,r2,ho⟩⟩;have:=Hq (f:=f) (t:=t) hck hy hx hmy hmx
  show pN f t c x≤pN f t c y
  omega
 ·rw[ai]at hn;have hr:(eN f t c.hs n).reads=true:=hr;have hgl:=(X6 R hn).1;have hs:=J2 (gO f t c.hs n) (by rw[ai];exact hgl) (by rw[←(ZL hck hn).2.1];exact hr);unfold Jz at hs⊢;rcases Zp (esO c.hs) (X5 c.fr.length c.od) (gO f t c.hs n) (esO c.hs).length with⟨s1,s2⟩|⟨s,s0,s1,s2,s3⟩
  ·rw[s1]at hs;rcases ZC hck hn with⟨f1,f2⟩|⟨a,a1,a2, -⟩
   ·rw[f2];rcases Zp (esN f t c.hs) (X5 (frN f t c).length (odN f t c)) n (esN f t c.hs).length with⟨u1, -⟩|⟨u,u0,u1,u2, -⟩
    ·exact u1
    ·rw[ai]at u0;exact absurd ((Qs hck hn u0 hr).1 u2) (s2 _ (by rw[ai];exact(X6 R u0).1))
   ·omega
  ·rw[s1]at hs;rw[ai]at s0;rcases ZC hck hn with⟨f1,f2⟩|⟨a,a1,a2,a3, -, -⟩
   ·omega
   ·have hsa:s=gO f t c.hs a:=by omega
    subst hsa;rw[a3];rcases Zp (esN f t c.hs) (X5 (frN f t c).length (odN f t c)) n (esN f t c.hs).length with⟨-,u2⟩|⟨u,u0,u1,u2,u3⟩
    ·exact absurd ((Qs hck hn a1 hr).2 s2) (u2 _ (by rw[ai];exact a1))
    ·rw[u1];rw[ai]at u0;have hma:(eN f t c.hs a).mem=true:=Vh (by rw[(ZL hck a1).1];exact s2.2.1);have hmu:(eN f t c.hs u).mem=true:=Vh u2.2.1;have h1:pN f t c a≤pN f t c u:=u3 a (by rw[ai];exact a1) ((Qs hck hn a1 hr).2 s2);have h2:pO c (gO f t c.hs u)≤pO c (gO f t c.hs a):=s3 _ (by rw[ai];exact(X6 R u0).1) ((Qs hck hn u0 hr).1 u2);have h3:=Hq (f:=f) (t:=t) hck a1 u0 hma hmu;have:a=u:=dK hck a1 u0 hma hmu (by omega);rw[this]
 ·rw[ai]at hn;have h4:(eN f t c.hs n).kind=4:=h4;have h4o:(eO c.hs (gO f t c.hs n)).kind=4:=by rw[←(X6 R hn).2.2.1];exact h4
  have hmn:(eN f t c.hs n).mem=true:=by unfold Ev.mem;rw[h4];rfl
  have hgl:=(X6 R hn).1;have hp:=J3 (gO f t c.hs n) (by rw[ai];exact hgl) h4o;obtain⟨a,b1,b2,b3,b4,b5,b6⟩:=IT R hrow hn h4;have ha:a<(Xh (Yg f t c.hs)).length:=by omega
  have r1:UF (esN f t c.hs) n=a:=by
   unfold UF;have:((n:Nat):Int) - (((esN f t c.hs).getD n default).pos - ((esN f t c.hs).getD n default).pair)=a:=b5.symm;rw[this,au]
  have r2:UF (esO c.hs) (gO f t c.hs n)=gO f t c.hs a:=by
   unfold UF;have:((gO f t c.hs n:Nat):Int) - (((esO c.hs).getD (gO f t c.hs n) default).pos - ((esO c.hs).getD (gO f t c.hs n) default).pair)=(gO f t c.hs a:Nat):=b6.symm;rw[this,au]
  have hod:∀v∈c.od,0≤v:=fun v hv=>(Ra hck hv).1;unfold Z4 at hp⊢;simp only[r1,r2]at hp⊢;rcases ZC hck ha with⟨f1,f2⟩|⟨s,a1,a2,a3,a4, -⟩
  ·rw[f1,if_neg (by omega)]at hp;have hp:=Pc hod hp;rw[f2,if_neg (by omega),QK]
   ·omega
   ·intro i i1 i2;rw[km];intro hy;obtain⟨q,j, -, -, -, -,j1,j2⟩:=Pd hck hn hmn (by unfold pN;omega) hy;rw[hp j (eu _) (by unfold pO at j1;omega)]at j2;cases j2
  ·have hms:(eN f t c.hs s).mem=true:=Vh (by rw[(ZL hck a1).1];exact a4);rw[a2,if_pos (by omega),au]at hp;split at hp
   ·omega
   ·rename_i hlt;have hp:=Pc hod hp;have hlt:pO c (gO f t c.hs s)<pO c (gO f t c.hs n):=by unfold pO;omega
    have hns:=(Hq (f:=f) (t:=t) hck a1 hn hms hmn).2 hlt;rw[a3,if_pos (by omega),au,if_neg (by unfold pN at hns;omega),QK]
    ·omega
    ·intro i i1 i2;rw[km];intro hy;obtain⟨q,j,q1,q2,q3,q4,j1,j2⟩:=Pd hck hn hmn (by unfold pN;omega) hy;have hsq:=(Hq (f:=f) (t:=t) hck a1 q1 hms q2).1 (by rw[q3];unfold pN;omega);rw[hp j (by rw[q4]at hsq;unfold pO at hsq;omega) (by unfold pO at j1;omega)]at j2;cases j2
theorem SC(J:JOk (allB (Yr c)) c.fr c.od (X5 c.fr.length c.od)):JOk (allB (Yr (shC f t c))) (shC f t c).fr (shC f t c).od (X5 (shC f t c).fr.length (shC f t c).od):=by
 rw[Qt hck,←YU]at J;rw[Qt (GA hck),←YU];exact SU hck J
end
end
end Go.Proofs.YtbkpmfjfpcoehaaGreatDoor
