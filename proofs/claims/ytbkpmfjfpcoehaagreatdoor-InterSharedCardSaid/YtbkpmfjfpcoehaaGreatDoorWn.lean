/- What is computed, as data, and laws of it. No condition. -/
import Derived.Carry
import Derived.ChangeMaps5
import Derived.ChangeSame
import Derived.ChangeVars
import Derived.JoinedOf
import Derived.LaidLaws
import Derived.OpenShut
import Derived.ProofKit
import Derived.Test.YtbkpmfjfpcoehaaGreatDoorWm
set_option maxHeartbeats 16000000
namespace Go.Proofs.YtbkpmfjfpcoehaaGreatDoor
open Go Go.RowKit Dw
set_option maxRecDepth 100000
section
section
variable {f t:Int} {c:Cz} (hck:XV (Yr c)=true)
include hck
theorem TN(r:List Int):∀(at1 at2:List Int) (by1 by2:List (Int×Int)),(∀v∈r,v∈c.od)→at1.length=at2.length→
  (∀h:Nat,at2.getD h 0≤0∨∃k,k<(Xh (Yg f t c.hs)).length∧(eN f t c.hs k).hart=h∧at2.getD h 0=(eN f t c.hs k).pos∧(eO c.hs (gO f t c.hs k)).pos≤at1.getD h 0)→
  (∀a,rgB f t a=true→(Gp a by1= -1∧Gp a by2= -1)∨∃k,k<(Xh (Yg f t c.hs)).length∧Gp a by1=((gO f t c.hs k:Nat):Int)∧Gp a by2=(k:Int))→
  Jd (esO c.hs) c.fr r at1 by1=true→Jd (esN f t c.hs) (frN f t c) (mvI (nk f t c.hs) r) at2 by2=true:=by
 obtain⟨R,hrow⟩:=Jp hck;have GO:=AD hck;have GN:=Og (f:=f) (t:=t) hck
 induction r with
 |nil=>intros;rfl
 |cons v r ih=>
  intro at1 at2 by1 by2 hv hlen hat hby hp;obtain⟨v0,v1,v2⟩:=Ra hck (hv v br);unfold Jd at hp;split at hp
  ·cases hp
  rename_i hp1;split at hp
  ·cases hp
  rename_i hp2;have hp1:at1.getD (eO c.hs v.toNat).hart.toNat 0≤(eO c.hs v.toNat).pos:=by unfold eO;omega
  have hset:∀h:Nat,at1.getD h 0≤(at1.set (eO c.hs v.toNat).hart.toNat (eO c.hs v.toNat).pos).getD h 0:=by
   intro h;rw[ac,ac,cq];rw[ac]at hp1;split
   ·rename_i e;subst e;split
    ·exact hp1
    ·rename_i e;rw[gf (by omega)];exact jz _
   ·exact jz _
  simp only[mvI];cases hq:V6 v 0 (nk f t c.hs)with
  |none=>
   have hnr:rgB f t (eO c.hs v.toNat).addr=false:=by
    rw[km];intro hr;obtain⟨a,ha,e⟩:=Rr v1 hr;have:V6 ((v.toNat:Nat):Int) 0 (nk f t c.hs)=some a:=CC.2 ⟨by rw[YM];exact ha,e⟩;rw[jm v0,hq]at this;cases this
   refine ih _ _ _ _ (fun u hu=>hv u (bc _ hu)) (by rw[jb];exact hlen) (fun h=>?_) (fun a ha=>?_) hp
   ·rcases hat h with q|⟨k,k1,k2,k3,k4⟩
    ·exact .inl q
    ·exact .inr ⟨k,k1,k2,k3,Int.le_trans k4 (hset h)⟩
   ·split
    ·rw[Gn _ _ _ (fun e=>by
      subst e;have:rgB f t (eO c.hs v.toNat).addr=true:=ha;rw[hnr]at this;cases this)]
     exact hby a ha
    ·exact hby a ha
  |some n=>
   have hvn:v=((v.toNat:Nat):Int):=(jm v0).symm;obtain⟨hn,hg⟩:=CC.1 (by rw[←hvn];exact hq:V6 ((v.toNat:Nat):Int) 0 (nk f t c.hs)=some n);rw[YM]at hn;rw[←hg]at hp hp1 hp2 hset v2;obtain⟨glt,ght,gkd,gad, -⟩:=X6 R hn;have hrg:=Qp R hn v2;obtain⟨hw,hr, -⟩:=ZL hck hn;have hh0:=GN.hart n (by rw[ai];exact hn);have hp0:=GN.pos n (by rw[ai];exact hn);simp only;unfold Jd;rw[au];rw[if_neg ?c1,if_neg ?c2]
   case c1=>
    rcases hat (eN f t c.hs n).hart.toNat with q|⟨k,k1,k2,k3,k4⟩
    ·unfold eN at q;omega
    ·have hkh:(eN f t c.hs k).hart=(eN f t c.hs n).hart:=by rw[k2];unfold eN;omega
     have hkho:(eO c.hs (gO f t c.hs k)).hart=(eO c.hs (gO f t c.hs n)).hart:=by rw[←(X6 R k1).2.1,←ght];exact hkh
     rw[ght]at k4;have hnk:¬n<k:=fun q=>by
      have:=(RH (f:=f) (t:=t) (hs:=c.hs) (by rw[YM];exact hn) (by rw[YM];exact k1)).1.2 q;have:=(Rw hck glt (X6 R k1).1 hkho.symm).2 this;omega
     have:=(Q9 hck hn k1 hkh.symm).1
     show ¬(eN f t c.hs n).pos<at2.getD (eN f t c.hs n).hart.toNat 0
     omega
   case c2=>
    rintro⟨r1,r2⟩;have r1:(eN f t c.hs n).reads=true:=r1;have hm:Gp (eO c.hs (gO f t c.hs n)).addr by1=c.fr.getD (gO f t c.hs n) 0:=by
     by_cases e:Gp (eO c.hs (gO f t c.hs n)).addr by1=c.fr.getD (gO f t c.hs n) 0
     ·exact e
     ·exact absurd ⟨by rw[←hr];exact r1,e⟩ hp2
    refine r2 ?_
    show Gp (eN f t c.hs n).addr by2=_
    rw[gad];rcases hby _ hrg with⟨b1,b2⟩|⟨k,k1,b1,b2⟩
    ·rcases ZC hck hn with⟨f1,f2⟩|⟨a,a1,a2, -⟩
     ·rw[b2,f2]
     ·omega
    ·rcases ZC hck hn with⟨f1,f2⟩|⟨a,a1,a2,a3, -⟩
     ·omega
     ·have:=(RH (f:=f) (t:=t) (hs:=c.hs) (by rw[YM];exact k1) (by rw[YM];exact a1)).2.1 (by omega);rw[b2,a3,this]
   refine ih _ _ _ _ (fun u hu=>hv u (bc _ hu)) (by rw[jb,jb];exact hlen) (fun h=>?_) (fun a ha=>?_) hp
   ·by_cases e:(eN f t c.hs n).hart.toNat=h
    ·by_cases hl:h<at2.length
     ·refine .inr ⟨n,hn,by unfold eN at*;omega,?_,?_⟩
      ·rw[ac,cq,if_pos e,if_pos (by subst e;exact hl)];rfl
      ·rw[ac,cq,if_pos (by rw[ght]at e;exact e),if_pos (by rw[ght]at e;unfold eO at e;omega)];exact jz _
     ·left;rw[ac,gf (by rw[jb];omega)];exact jz _
    ·have e2:(at2.set (eN f t c.hs n).hart.toNat (eN f t c.hs n).pos).getD h 0=at2.getD h 0:=by
      rw[ac,cq,if_neg e,ac]
     have:∀q:Int,(at2.set ((esN f t c.hs).getD n default).hart.toNat ((esN f t c.hs).getD n default).pos).getD h 0=q↔at2.getD h 0=q:=fun q=>by
      constructor
      ·intro w;rw[←e2];exact w
      ·intro w;rw[←w];exact e2
     rcases hat h with q|⟨k,k1,k2,k3,k4⟩
     ·left;rw[(this _).2 rfl];exact q
     ·exact .inr ⟨k,k1,k2,(this _).2 k3,Int.le_trans k4 (hset h)⟩
   ·by_cases hwt:(eO c.hs (gO f t c.hs n)).writes=true
    ·have hwn:((esN f t c.hs).getD n default).writes=true:=by have:=hw;rw[hwt]at this;exact this
     rw[if_pos hwt,if_pos hwn];by_cases ea:a=(eO c.hs (gO f t c.hs n)).addr
     ·refine .inr ⟨n,hn,?_,?_⟩
      ·rw[ea,Hc];omega
      ·rw[show((esN f t c.hs).getD n default).addr=a by rw[ea];exact gad,Hc]
     ·rw[Gn _ _ _ ea,Gn _ _ _ (by rw[show((esN f t c.hs).getD n default).addr=(eO c.hs (gO f t c.hs n)).addr from gad];exact ea)];exact hby a ha
    ·have hwn:¬((esN f t c.hs).getD n default).writes=true:=by have:=hw;intro q;exact hwt (by rw[←this];exact q)
     rw[if_neg hwt,if_neg hwn];exact hby a ha
end
theorem TP{f t:Int}{c:Cz}(h:Y9 c=true):Y9 (shC f t c)=true:=by
 unfold Y9 at h⊢;rw[aj]at h⊢;obtain⟨h1,h2⟩:=h;have hck:=h1;rw[Kt]at hck;refine⟨by rw[Kt];exact GA hck,?_⟩;have:=TN (f:=f) (t:=t) hck c.od (List.replicate c.hs.length (-1)) (List.replicate (Yg f t c.hs).length (-1)) [] [] (fun v hv=>hv) (by rw[fj,fj,VE]) (fun h=> .inl ?_) (fun a _=> .inl ⟨rfl,rfl⟩) h2
 ·exact this
 ·rw[ac,gb];split<;>simp
end
theorem El(hs:List (Bool×List Ez)):Xh (KL hs)=(Xh hs).map fzE:=by
 unfold Xh KL;rw[fu,gz,fu];rfl
theorem Ze(c:Cz):Yr (Pe c)=Yr c:=by
 unfold Yr Pe KL;simp only[fu]
 congr 1
 refine kc fun p _=>?_;simp only[Function.comp,fu];exact kc fun _ _=>rfl
theorem SB(c:Cz):okB (Pe c)=okB c:=by unfold okB;rw[Ze];rfl
theorem TO(c:Cz):Y9 (Pe c)=Y9 c:=by
 unfold Y9;rw[Kt,Kt,Ze];have:(Xh (Pe c).hs).map Ez.e=(Xh c.hs).map Ez.e:=by
  show(Xh (KL c.hs)).map Ez.e=_
  rw[El,fu];exact kc fun _ _=>rfl
 rw[this];have:(Pe c).hs.length=c.hs.length:=by show(KL c.hs).length=_;unfold KL;rw[ai]
 rw[this];rfl
theorem OF{c:Cz}(h:GI c):GI (Pe c):=by
 refine⟨h.f,?_,?_,h.fr,h.od,fun p hp x hx=>?_⟩
 ·show(KL c.hs).length≤1000;unfold KL;rw[ai];exact h.hs
 ·show(Xh (KL c.hs)).length≤1000;rw[El,ai];exact h.all
 ·obtain⟨q,hq,rfl⟩:=cy.1 (show p∈c.hs.map _ from hp);obtain⟨y,hy,rfl⟩:=cy.1 hx;obtain⟨w,e⟩:=h.ev q hq y hy;exact⟨⟨(fun z=>by cases z),(fun z=>by cases z),(fun z=>by cases z),w.l1,w.l2,w.l3⟩,e⟩
theorem IP{c:Cz}(h:GI c):WG c:=by
 refine⟨h.hs,h.f,h.fr,h.od,fun p hp=>⟨?_,fun x hx=>?_⟩⟩
 ·obtain⟨k,hk,rfl⟩:=be hp;have:=h.all;have h1:=Yy (hs:=c.hs) hk;have:=ee List.length h1;rw[az]at this;have:=Jb c.hs (k+1);omega
 ·obtain⟨w, -⟩:=h.ev p hp x hx;exact⟨w.l1,w.l2,w.l3⟩
theorem Sr{c:Cz}(hk:XV (Yr c)=true):bF (Pe c).hs:=NE (c:=Pe c) (by rw[Ze];exact hk)
theorem Td{f t:Int}{l:List Ez}{K:List Int}{y:Ez}(h:y∈Yo f t K l):∃K',∃x∈l,y=shE K' x:=by
 induction l generalizing K with
 |nil=>cases h
 |cons x r ih=>
  simp only[Yo]at h;split at h
  ·rcases av.1 h with rfl|h
   ·exact⟨K,x,br,rfl⟩
   ·obtain⟨K',z,h1,h2⟩:=ih h;exact⟨K',z,bc _ h1,h2⟩
  ·obtain⟨K',z,h1,h2⟩:=ih h;exact⟨K',z,bc _ h1,h2⟩
theorem WP{c:Cz}(f t:Int)(h:GI c):GI (shC f t c):=by
 have z:∀(K xs:List Int),decide ((mvI K xs).length=0)=true→mvI K xs=[]:=fun K xs h=>cn (bo h);refine⟨?_,?_,?_,?_,?_,fun p hp x hx=>?_⟩
 ·exact bd (gm _ _) h.f
 ·show(Yg f t c.hs).length≤1000;rw[VE];exact h.hs
 ·show(Xh (Yg f t c.hs)).length≤1000
  rw[←QX f t c.hs 0,Rb];refine bd ?_ h.all;unfold XT;exact gm _ _
 ·exact bd (Tg _ _ _) h.fr
 ·exact bd (Hb _ _) h.od
 ·obtain⟨q,hq,rfl⟩:=cy.1 (show p∈c.hs.map _ from hp);obtain⟨K,y,hy,rfl⟩:=Td hx;obtain⟨w,e1,e2,e3⟩:=h.ev q hq y hy;exact⟨⟨z _ _,z _ _,z _ _,bd (Hb _ _) w.l1,bd (Hb _ _) w.l2,bd (Hb _ _) w.l3⟩,bd (Hb _ _) e1,bd (Hb _ _) e2,bd (Hb _ _) e3⟩
def EQ(f t:Int)(l:List Ez)(i:Nat):Nat:=(XN f t (l.take i)).length
def DK(f t:Int)(l:List Ez):List Ez:=Yo f t [] (l.map fzE)
theorem Rp(f t:Int)(l:List Ez):XN f t (l.map fzE)=XN f t l:=by
 unfold XN;rw[List.filter_map,fu];rfl
theorem OL(f t:Int)(l:List Ez):EQ f t l l.length=(DK f t l).length:=by
 unfold EQ DK;rw[bp (ak _),JA,Rp]
theorem WS{f t:Int}{l:List Ez}{i:Nat}(hi:i<l.length)(h:Ke f t l[i]=false):EQ f t l (i+1)=EQ f t l i:=by
 unfold EQ;rw[ax hi,Q6,az];simp[XN,h]
theorem WT{f t:Int}{l:List Ez}{i:Nat}:EQ f t l i≤l.length:=by
 unfold EQ;have:=IB f t (l.take i);rw[cf]at this;omega
theorem OK{f t:Int}{l:List Ez}{i:Nat}(hi:i<l.length)(h:Ke f t l[i]=true):EQ f t l (i+1)=EQ f t l i+1∧∃hn:EQ f t l i<(DK f t l).length,∃K,(DK f t l)[EQ f t l i]=shE K (fzE l[i]):=by
 refine⟨by unfold EQ;rw[ax hi,Q6,az];simp[XN,h],?_⟩;have e:l=l.take i++l[i]::l.drop (i+1):=by rw[←bj hi,fk]
 have e2:DK f t l=Yo f t [] ((l.take i).map fzE)++shE (XN f t (l.take i)) (fzE l[i])::Yo f t (XN f t (l.take i)++[l[i].e.pos]) ((l.drop (i+1)).map fzE):=by
  conv=>lhs;unfold DK;rw[e,dx,Bl]
  rw[Rp]
  congr 1
  rw[ft];simp only[Yo,lb];rw[if_pos (show Ke f t (fzE l[i])=true from h)];rfl
 have hl:(Yo f t [] ((l.take i).map fzE)).length=EQ f t l i:=by rw[JA,Rp];rfl
 have hg:(DK f t l)[EQ f t l i]? =some (shE (XN f t (l.take i)) (fzE l[i])):=by
  rw[e2,bz (by rw[hl];exact ak _),hl,fp];rfl
 obtain⟨h1,h2⟩:=ah.1 hg;exact⟨h1,_,h2⟩
theorem dB{f t:Int}{c:Cz}{h:Nat}(hh:h<c.hs.length):(shC f t (Pe c)).hs.length=c.hs.length∧(shC f t (Pe c)).hs[h]? =some (decide ((DK f t c.hs[h].2).length=0),DK f t c.hs[h].2):=by
 have hl:(KL c.hs).length=c.hs.length:=by unfold KL;rw[ai]
 refine⟨by show(Yg f t (KL c.hs)).length=_;rw[VE,hl],?_⟩
 show(Yg f t (KL c.hs))[h]? =_
 unfold Yg KL;rw[an,an,aa hh];rfl
theorem SR{c:Cz}(f t:Int):(XV (Yr c)=true→XV (Yr (shC f t (Pe c)))=true)∧(okB c=true→okB (shC f t (Pe c))=true)∧(Y9 c=true→Y9 (shC f t (Pe c))=true):=by
 refine⟨fun h=>GA (c:=Pe c) (by rw[Ze];exact h),fun h=>?_,fun h=>TP (by rw[TO];exact h)⟩;rw[←SB]at h;rw[T3]at h⊢;exact⟨GA h.1,SC h.1 h.2⟩
end Go.Proofs.YtbkpmfjfpcoehaaGreatDoor
namespace Go.Proofs.YtbkpmfjfpcoehaaGreatDoor
open Go Go.RowKit Dw
set_option maxRecDepth 100000
attribute [simp] fB eB eA
theorem E6(c:Cz)(f t:Int)(hc0:GI c)(hck:YC c=true)(hz1:c.z1=false)(hpos:∀p∈c.hs,∀j (h:j<p.2.length),p.2[j].e.pos=j):Xq Tryz.prog 7 [X9 c,iV .u64 f,iV .u64 t] (.val (X9 (shC f t c))):=by
 have b1:=hc0.f;have b2:=hc0.hs;have b3:=hc0.all;have b4:=hc0.fr;have b5:=hc0.od;have b6:=hc0.ev;have b1':c.f.length≤1000000:=by omega
 have bok:=eq_true hc0;generalize hR:shC f t c=R;unfold X9;refine Xk (rs:=[.cell 6 26]) (Xl _) Tryz.func7 rfl Tryz.ntmps7 rfl (by simp) ?_;refine We fun S Y=>?_
 first|refine Wa Xr fun K J=>?_|refine Wb Xr fun K J=>?_|refine Wc Xr [] fun K J=>?_|refine Wd Xr [] fun K J=>?_
 simp;apply J;clear J K;apply Y;clear Y S;refine Wp.frzBox (b:=3) (cs:=c.cv) rfl rfl ?_;refine Wp.frzBox (b:=4) (cs:=[.sc (.int .u64 f)]) rfl rfl ?_;refine Wp.frzBox (b:=5) (cs:=[.sc (.int .u64 t)]) rfl rfl ?_;change Wp _ _ _ _ (⟨[(0,X9 c),(1,iV .u64 f),(2,iV .u64 t),(3,cA c),(4, .ep 1 [[.sc (.int .u64 f)]] 0 0),(5, .ep 1 [[.sc (.int .u64 t)]] 0 0),(6, .one (.ptr 6 0))],[(6,zB)]⟩:St);refine We fun S Y=>?_;refine Wa Xr fun K J=>?_;simp[ssh,Xo,Hv,Xu,bok,hck,Yh];apply J;clear J K;refine Wf (by simp) ?_;refine Wp.skip ?_;apply Y;clear Y S;refine Wa Xr fun K J=>?_;simp;apply J;clear J K;refine We fun S Y=>?_;refine Wp.frzBox (b:=7) (cs:=[inF f t]) rfl (by rfl) ?_;refine Wp.gh (s':=⟨[(3,cA c),(6, .one (.ptr 6 0)),(7, .ep 1 [[inF f t]] 0 0)],[(6,zB)]⟩) ?_ ?_
 ·apply Go1<;>simp[DO,fzV,B3,Dw.del]
 refine Wp.rlX (Xl _) Xr 4 rfl rfl rfl fun K K1 K2 J h1 h2=>?_;simp[ssh,Xo,FG,Ya,b1',hz1];refine h1 _ _ (Nk (xs:=[.tmp 32]) (els':=Y1 (c.f.filter fun p=>rgB f t p.1)) rfl rfl rfl rfl rfl rfl ⟨⟨_,Tryz.func21,rfl,rfl⟩⟩ (Mh f t c.f b1') (fun es he cc hcc=>?_) rfl) ?_
 ·unfold Y1 at he;obtain⟨x, -,rfl⟩:=cy.1 he;simp at hcc;rcases hcc with rfl|rfl<;>exact⟨_,rfl⟩
 refine h2 _ ?_;simp;refine J _ ?_;clear J h1 h2 K K1 K2;apply Y;clear Y S;refine Wp.gh (.frz (b:=31) rfl) ?_;refine Wp.gh (s':=⟨[(3,cA c),(6, .one (.ptr 6 0)),(7, .ep 1 [[inF f t]] 0 0),(8, .one (.ptr 8 0))],[(6,zB),(8,fB c f t (.c (.sl true 0 [])) (.c (.sl true 0 [])))]⟩) ?_ ?_
 ·apply Go1<;>simp[Vx,IK,UQ,Bc,B3,Dw.del,hz1]
 refine Wa Xr fun K J=>?_;simp;apply J;clear J K;refine Wa Xr fun K J=>?_;simp;apply J;clear J K;refine We fun S Y=>?_;refine Wa Xr fun K J=>?_;simp[Xm];apply J;clear J K;refine Wp.block ?_;refine Wp.adoptBox (k:=8) (b:=91) (i:=1) rfl rfl rfl 34 1 ?_;refine Wp.loop (fun k s=>∃h:Nat,h+k=c.hs.length∧s=⟨[(3,cA c),(6, .one (.ptr 6 0)),(7, .ep 1 [[inF f t]] 0 0),(8, .one (.ptr 8 0)),(9, .one (.map 35)),(10,iV .i64 (Xh (c.hs.take h)).length),(37,sV c.z2 1 (Xw c.hs)),(38,iV .i64 c.hs.length),(39,iV .i64 h)],[(6,zB),(8,fB c f t (.own 91) (.c (.sl true 0 []))),(91, .row (decide (h=0)) 34 1 (Xw (Yg f t (c.hs.take h)))),(35, .map (mpI 0 (Jq f t 0 (Xh (c.hs.take h)))))]⟩)
  c.hs.length (s0:=⟨[(3,cA c),(6, .one (.ptr 6 0)),(7, .ep 1 [[inF f t]] 0 0),(8, .one (.ptr 8 0)),(9, .one (.map 35)),(10,iV .i64 (0:Nat)),(37,sV c.z2 1 (Xw c.hs)),(38,iV .i64 c.hs.length),(39,iV .i64 (0:Nat))],[(6,zB),(8,fB c f t (.own 91) (.c (.sl true 0 []))),(91, .row true 34 1 []),(35, .map [])]⟩) ?_ ⟨0,by simp,by simp[Yg,Xw,Xh,Jq,mpI]⟩ fun kk s ⟨h,hhk,hs⟩=>?_
 ·apply Go1<;>simp
 subst hs;refine Wa Xr fun K J=>?_;simp;apply J;clear J K;refine We fun S Y=>?_;refine Wp.cond rfl (fun hc=>?_) (fun hc=>?_)
 ·have hh:h<c.hs.length:=by simpa using hc
  have hwh:IntKind.i64.wrap ((h:Int)+1)=(h+1:Nat):=by rw[wrap_small]<;>omega
  have hrow:=hpos _ (ba hh);have hev:=b6 _ (ba hh);have hfl:(Xh (c.hs.take h)).length+c.hs[h].2.length≤1000:=by
   have h1:=ee List.length (Yy hh);rw[az]at h1;have:=Jb c.hs (h+1);omega
  have hflat:=Yy hh;obtain⟨l,hl⟩:∃l,c.hs[h].2=l:=⟨_,rfl⟩;obtain⟨zl,hzl⟩:∃z,c.hs[h].1=z:=⟨_,rfl⟩;obtain⟨P,hP⟩:∃P,Xh (c.hs.take h)=P:=⟨_,rfl⟩;rw[hl]at hrow hev hfl hflat;rw[hP]at hfl hflat;rw[hP];refine Wp.skip ?_;apply Y;clear Y S;refine We fun S Y=>?_;refine Wp.block ?_;refine Wa Xr fun K J=>?_;simp[hh,Xm,Xs,hl,hzl];apply J;clear J K;refine Wa Xr fun K J=>?_;simp;apply J;clear J K;refine Wa Xr fun K J=>?_;simp;apply J;clear J K;refine We fun S Y=>?_;refine Wa Xr fun K J=>?_;simp[Xe];apply J;clear J K;refine Wp.block ?_;refine Wp.loop (fun k s=>∃i n:Nat,i+k=l.length∧n=P.length+i∧s=⟨[(3,cA c),(6, .one (.ptr 6 0)),(7, .ep 1 [[inF f t]] 0 0),(8, .one (.ptr 8 0)),(9, .one (.map 35)),(10,iV .i64 n),(13, .one (.own 13)),(14, .one (.map 43)),(37,sV c.z2 1 (Xw c.hs)),(38,iV .i64 c.hs.length),(39,iV .i64 h),(44,sV zl 14 (XS l)),(45,iV .i64 l.length),(46,iV .i64 i)],[(6,zB),(8,fB c f t (.own 91) (.c (.sl true 0 []))),(91, .row (decide (h=0)) 34 1 (Xw (Yg f t (c.hs.take h)))),(35, .map (mpI 0 (Jq f t 0 (P++l.take i)))),(13, .row (decide ((Yo f t [] (l.take i)).length=0)) 38 14 (XS (Yo f t [] (l.take i)))),(43, .map (mpI 0 (XN f t (l.take i))))]⟩)
   l.length (s0:=⟨[(3,cA c),(6, .one (.ptr 6 0)),(7, .ep 1 [[inF f t]] 0 0),(8, .one (.ptr 8 0)),(9, .one (.map 35)),(10,iV .i64 P.length),(13, .one (.own 13)),(14, .one (.map 43)),(37,sV c.z2 1 (Xw c.hs)),(38,iV .i64 c.hs.length),(39,iV .i64 h),(44,sV zl 14 (XS l)),(45,iV .i64 l.length),(46,iV .i64 (0:Nat))],[(6,zB),(8,fB c f t (.own 91) (.c (.sl true 0 []))),(91, .row (decide (h=0)) 34 1 (Xw (Yg f t (c.hs.take h)))),(35, .map (mpI 0 (Jq f t 0 P))),(13, .row true 38 14 []),(43, .map [])]⟩) ?_ ⟨0,P.length,by simp,rfl,by simp[Yo,XS,XN,mpI]⟩ fun k s ⟨i,n,hik,hn,hs⟩=>?_
  ·refine .trans (.adopt (t:=13) (b:=13) rfl rfl 38 14) ?_;apply Go1<;>simp
  subst hs;refine Wa Xr fun K J=>?_;simp;apply J;clear J K;refine We fun S Y=>?_;refine Wp.cond rfl (fun hc=>?_) (fun hc=>?_)
  ·have hi:i<l.length:=by simpa using hc
   have hpx:=hrow i hi;obtain⟨wfx,fewx⟩:=hev _ (ba hi);have hwi:IntKind.i64.wrap ((i:Int)+1)=(i+1:Nat):=by rw[wrap_small]<;>omega
   have hwn:IntKind.i64.wrap ((n:Int)+1)=(n+1:Nat):=by rw[wrap_small]<;>omega
   have tk1:=ax hi;have hkl:=JA f t (l.take i) [];have hkle:=IB f t (l.take i);rw[cf]at hkle;have hKn:∀k∈XN f t (l.take i),k≠l[i].e.pos:=by
    intro k hk;unfold XN at hk;obtain⟨y,hy,rfl⟩:=cy.1 hk;obtain⟨j,hj,rfl⟩:=be (ct.1 hy).1;rw[cf]at hj;rw[List.getElem_take,hrow j (by omega),hpx];omega
   have hNn:∀k∈Jq f t 0 (P++l.take i),k≠(n:Int):=by
    intro k hk;have:=QW f t _ _ k hk;rw[az,cf]at this;omega
   have hKn:=QH 0 hKn;have hNn:=QH 0 hNn;have hK1:XN f t (l.take (i+1))=XN f t (l.take i)++XN f t [l[i]]:=by rw[tk1,Q6]
   have hS1:Yo f t [] (l.take (i+1))=Yo f t [] (l.take i)++Yo f t (XN f t (l.take i)) [l[i]]:=by rw[tk1,Bl];rfl
   have hN1:Jq f t 0 (P++l.take (i+1))=Jq f t 0 (P++l.take i)++Jq f t n [l[i]]:=by
    rw[tk1,←fg,Qg,bf,az,cf,jn (fx hi),←hn]
   obtain⟨x,hx⟩:∃x,l[i]=x:=⟨_,rfl⟩;obtain⟨KK,hKK⟩:∃K,XN f t (l.take i)=K:=⟨_,rfl⟩;obtain⟨NM,hNM⟩:∃K,Jq f t 0 (P++l.take i)=K:=⟨_,rfl⟩;obtain⟨now,hnow⟩:∃r,Yo f t [] (l.take i)=r:=⟨_,rfl⟩;simp only[hKK,hnow,hx]at hkl hkle hKn hK1 hS1 hpx wfx fewx;simp only[hNM,hx]at hNn hN1;rw[hKK,hNM,hnow];refine Wp.skip ?_;apply Y;clear Y S;refine We fun S Y=>?_;refine Wp.block ?_;refine We fun S Y=>?_
   first|refine Wa Xr fun K J=>?_|refine Wb Xr fun K J=>?_|refine Wc Xr [] fun K J=>?_|refine Wd Xr [] fun K J=>?_
   simp[hi,Xe,Xd,hx,Ez.cv];apply J;clear J K;apply Y;clear Y S;refine We fun S Y=>?_;refine We fun S Y=>?_;obtain⟨X,hX1,hX2⟩:=dY Y;have key:Ke f t x=true→X ⟨[(3,cA c),(6, .one (.ptr 6 0)),(7, .ep 1 [[inF f t]] 0 0),(8, .one (.ptr 8 0)),(9, .one (.map 35)),(10,iV .i64 n),(13, .one (.own 13)),(14, .one (.map 43)),(37,sV c.z2 1 (Xw c.hs)),(38,iV .i64 c.hs.length),(39,iV .i64 h),(44,sV zl 14 (XS l)),(45,iV .i64 l.length),(46,iV .i64 i),(16, .one (.ptr 16 0)),(58,bV true)],[(6,zB),(8,fB c f t (.own 91) (.c (.sl true 0 []))),(91, .row (decide (h=0)) 34 1 (Xw (Yg f t (c.hs.take h)))),(35, .map (mpI 0 NM)),(13, .row (decide (now.length=0)) 38 14 (XS now)),(43, .map (mpI 0 KK)),(16, .box (eB x))]⟩:=by
    intro hkeep;refine hX2 _ ?_;clear hX1 hX2 X;apply Wp.condT
    ·simp
    have hk1:XN f t [x]=[x.e.pos]:=by simp[XN,hkeep]
    have hk2:Yo f t KK [x]=[shE KK x]:=by simp[Yo,hkeep]
    have hk3:Jq f t n [x]=[(n:Int)]:=by simp[Jq,hkeep]
    rw[hk1]at hK1;rw[hk2]at hS1;rw[hk3]at hN1;obtain⟨d1,d2,d3⟩:=fewx;have d1':x.e.da.length≤1000:=by omega
    have d2':x.e.dd.length≤1000:=by omega
    have d3':x.e.dw.length≤1000:=by omega
    have hfN:=(T9 0 NM n).symm;have hfK:=(T9 0 KK x.e.pos).symm;rw[bf]at hfN hfK;refine We fun S Y=>?_
    first|refine Wa Xr fun K J=>?_|refine Wb Xr fun K J=>?_|refine Wc Xr [] fun K J=>?_|refine Wd Xr [] fun K J=>?_
    simp[KH,hNn,hfN,SI];apply J;clear J K;apply Y;clear Y S;refine We fun S Y=>?_
    first|refine Wa Xr fun K J=>?_|refine Wb Xr fun K J=>?_|refine Wc Xr [] fun K J=>?_|refine Wd Xr [] fun K J=>?_
    simp[KH,hKn,hfK,hkl,Xe];apply J;clear J K;apply Y;clear Y S;refine We fun S Y=>?_
    first|refine Wa Xr fun K J=>?_|refine Wb Xr fun K J=>?_|refine Wc Xr [] fun K J=>?_|refine Wd Xr [] fun K J=>?_
    simp;apply J;clear J K;obtain⟨KP,hKP⟩:∃K,KK++[x.e.pos]=K:=⟨_,rfl⟩;rw[hKP];apply Y;clear Y S;refine Wp.gh (s':=⟨[(3,cA c),(6, .one (.ptr 6 0)),(7, .ep 1 [[inF f t]] 0 0),(8, .one (.ptr 8 0)),(9, .one (.map 35)),(10,iV .i64 n),(13, .one (.own 13)),(14, .one (.map 43)),(37,sV c.z2 1 (Xw c.hs)),(38,iV .i64 c.hs.length),(39,iV .i64 h),(44,sV zl 14 (XS l)),(45,iV .i64 l.length),(46,iV .i64 i),(16, .one (.ptr 16 0)),(17, .one (.ptr 17 0))],[(6,zB),(8,fB c f t (.own 91) (.c (.sl true 0 []))),(91, .row (decide (h=0)) 34 1 (Xw (Yg f t (c.hs.take h)))),(35, .map (mpI 0 (NM++[(n:Int)]))),(13, .row (decide (now.length=0)) 38 14 (XS now)),(43, .map (mpI 0 KP)),(16, .box (eB x)),(17, .box [.c (.sl x.z1 1 (Xj x.e.da)), .c (.sl x.z2 1 (Xj x.e.dd)), .c (.sl x.z3 1 (Xj x.e.dw))])]⟩) ?_ ?_
    ·apply Go1<;>simp[hkl];rw[←dj,←dj,hkl]
    refine We fun S Y=>?_
    ((first|refine Wa Xr fun K J=>?_|refine Wb Xr fun K J=>?_|refine Wc Xr [16] fun K J=>?_|refine Wd Xr [16] fun K J=>?_);simp[ssh,Xo,IJ,Xa,F8,Pm,d1',d2',d3'];apply And.intro;(·kernel_rfl);with_reducible refine J _ ?_;clear J K)
    apply Y;clear Y S;refine We fun S Y=>?_
    first|refine Wa Xr fun K J=>?_|refine Wb Xr fun K J=>?_|refine Wc Xr [] fun K J=>?_|refine Wd Xr [] fun K J=>?_
    simp[hkl,Xe];apply J;clear J K;apply Y;clear Y S;refine Wp.gh (s':=⟨[(3,cA c),(6, .one (.ptr 6 0)),(7, .ep 1 [[inF f t]] 0 0),(8, .one (.ptr 8 0)),(9, .one (.map 35)),(10,iV .i64 n),(13, .one (.own 13)),(14, .one (.map 43)),(37,sV c.z2 1 (Xw c.hs)),(38,iV .i64 c.hs.length),(39,iV .i64 h),(44,sV zl 14 (XS l)),(45,iV .i64 l.length),(46,iV .i64 i),(16, .one (.ptr 16 0))],[(6,zB),(8,fB c f t (.own 91) (.c (.sl true 0 []))),(91, .row (decide (h=0)) 34 1 (Xw (Yg f t (c.hs.take h)))),(35, .map (mpI 0 (NM++[(n:Int)]))),(13, .row (decide (now.length=0)) 38 14 (XS now)),(43, .map (mpI 0 KP)),(16, .box [.c (.sc (.int .i64 x.e.hart)), .c (.sc (.int .i64 KK.length)), .c (.sc (.int .i64 x.e.kind)), .c (.sc (.int .u64 x.e.addr)), .c (.sc (.int .u64 x.e.load)), .c (.sc (.int .u64 x.e.store)), .c (.sc (.bool x.e.aq)), .c (.sc (.bool x.e.rl)), .c (.sc (.int .i64 x.e.pred)), .c (.sc (.int .i64 x.e.succ)), .c (.sc (.int .i64 x.e.pair)), .c (.sl (decide ((mvI KP x.e.da).length=0)) 1 (Xj (mvI KP x.e.da))), .c (.sl (decide ((mvI KP x.e.dd).length=0)) 1 (Xj (mvI KP x.e.dd))), .c (.sl (decide ((mvI KP x.e.dw).length=0)) 1 (Xj (mvI KP x.e.dw)))])]⟩) ?_ ?_
    ·apply Go1<;>simp[hkl];rw[←dj,←dj,hkl]
    refine Wp.seqk fun S2 hS2=>?_;obtain⟨X,hX1,hX2⟩:=dY hS2;have big:∀pv,pv=J7 KP x→X ⟨[(3,cA c),(6, .one (.ptr 6 0)),(7, .ep 1 [[inF f t]] 0 0),(8, .one (.ptr 8 0)),(9, .one (.map 35)),(10,iV .i64 n),(13, .one (.own 13)),(14, .one (.map 43)),(37,sV c.z2 1 (Xw c.hs)),(38,iV .i64 c.hs.length),(39,iV .i64 h),(44,sV zl 14 (XS l)),(45,iV .i64 l.length),(46,iV .i64 i),(16, .one (.ptr 16 0))],[(6,zB),(8,fB c f t (.own 91) (.c (.sl true 0 []))),(91, .row (decide (h=0)) 34 1 (Xw (Yg f t (c.hs.take h)))),(35, .map (mpI 0 (NM++[(n:Int)]))),(13, .row (decide (now.length=0)) 38 14 (XS now)),(43, .map (mpI 0 KP)),(16, .box [.c (.sc (.int .i64 x.e.hart)), .c (.sc (.int .i64 KK.length)), .c (.sc (.int .i64 x.e.kind)), .c (.sc (.int .u64 x.e.addr)), .c (.sc (.int .u64 x.e.load)), .c (.sc (.int .u64 x.e.store)), .c (.sc (.bool x.e.aq)), .c (.sc (.bool x.e.rl)), .c (.sc (.int .i64 x.e.pred)), .c (.sc (.int .i64 x.e.succ)), .c (.sc (.int .i64 pv)), .c (.sl (decide ((mvI KP x.e.da).length=0)) 1 (Xj (mvI KP x.e.da))), .c (.sl (decide ((mvI KP x.e.dd).length=0)) 1 (Xj (mvI KP x.e.dd))), .c (.sl (decide ((mvI KP x.e.dw).length=0)) 1 (Xj (mvI KP x.e.dw)))])]⟩:=by
     intro pv hpv;refine hX2 _ ?_;clear hS2 S2 hX1 hX2 X;have hl1:KK.length+1≤maxLen:=by unfold maxLen;omega
     have hl2:(KK.length+1)*152≤140737488355328:=by omega
     refine Wb Xr fun K J=>?_;simp[Xe,hkl,hl1,hl2];apply J;clear J K;clear Y S;apply Y;clear Y S;refine Wb Xr fun K J=>?_;simp[hwn];apply J;clear J K;apply Y;clear Y S;refine Wb Xr fun K J=>?_;simp[hwi];apply J;clear J K;refine⟨⟨[(3,cA c),(6, .one (.ptr 6 0)),(7, .ep 1 [[inF f t]] 0 0),(8, .one (.ptr 8 0)),(9, .one (.map 35)),(10,iV .i64 (n+1:Nat)),(13, .one (.own 13)),(14, .one (.map 43)),(37,sV c.z2 1 (Xw c.hs)),(38,iV .i64 c.hs.length),(39,iV .i64 h),(44,sV zl 14 (XS l)),(45,iV .i64 l.length),(46,iV .i64 (i+1:Nat))],[(6,zB),(8,fB c f t (.own 91) (.c (.sl true 0 []))),(91, .row (decide (h=0)) 34 1 (Xw (Yg f t (c.hs.take h)))),(35, .map (mpI 0 (Jq f t 0 (P++l.take (i+1))))),(13, .row (decide ((Yo f t [] (l.take (i+1))).length=0)) 38 14 (XS (Yo f t [] (l.take (i+1))))),(43, .map (mpI 0 (XN f t (l.take (i+1)))))]⟩,k - 1,?_,by omega,i+1,n+1,by omega,by omega,rfl⟩;have hev1:XS (now++[shE KK x])=XS now++[(shE KK x).cv]:=by simp[XS]
     rw[hK1,hS1,hN1,hev1];apply Go1<;>simp[shE,Ez.cv,hKP,hpv]
    by_cases hk4:x.e.kind=4
    ·have hk4':=eq_true hk4;cases hq:V6 x.e.pair 0 KP with
     |none=>
      have hpv:(0:Int)=J7 KP x:=by simp[J7,hk4,hq]
      refine We fun S Y=>?_
      first|refine Wa Xr fun K J=>?_|refine Wb Xr fun K J=>?_|refine Wc Xr [] fun K J=>?_|refine Wd Xr [] fun K J=>?_
      simp[hk4'];apply J;clear J K;apply Y;clear Y S;refine Wt (by simp) ?_;refine Wb Xr fun K J=>?_;simp[KH,hq];apply J;clear J K;refine hX1 _ ⟨[(3,cA c),(6, .one (.ptr 6 0)),(7, .ep 1 [[inF f t]] 0 0),(8, .one (.ptr 8 0)),(9, .one (.map 35)),(10,iV .i64 n),(13, .one (.own 13)),(14, .one (.map 43)),(37,sV c.z2 1 (Xw c.hs)),(38,iV .i64 c.hs.length),(39,iV .i64 h),(44,sV zl 14 (XS l)),(45,iV .i64 l.length),(46,iV .i64 i),(16, .one (.ptr 16 0))],[(6,zB),(8,fB c f t (.own 91) (.c (.sl true 0 []))),(91, .row (decide (h=0)) 34 1 (Xw (Yg f t (c.hs.take h)))),(35, .map (mpI 0 (NM++[(n:Int)]))),(13, .row (decide (now.length=0)) 38 14 (XS now)),(43, .map (mpI 0 KP)),(16, .box [.c (.sc (.int .i64 x.e.hart)), .c (.sc (.int .i64 KK.length)), .c (.sc (.int .i64 x.e.kind)), .c (.sc (.int .u64 x.e.addr)), .c (.sc (.int .u64 x.e.load)), .c (.sc (.int .u64 x.e.store)), .c (.sc (.bool x.e.aq)), .c (.sc (.bool x.e.rl)), .c (.sc (.int .i64 x.e.pred)), .c (.sc (.int .i64 x.e.succ)), .c (.sc (.int .i64 0)), .c (.sl (decide ((mvI KP x.e.da).length=0)) 1 (Xj (mvI KP x.e.da))), .c (.sl (decide ((mvI KP x.e.dd).length=0)) 1 (Xj (mvI KP x.e.dd))), .c (.sl (decide ((mvI KP x.e.dw).length=0)) 1 (Xj (mvI KP x.e.dw)))])]⟩ ?_ (big _ hpv);apply Go1<;>simp
     |some q=>
      have hpv:(q:Int)=J7 KP x:=by simp[J7,hk4,hq]
      refine We fun S Y=>?_
      first|refine Wa Xr fun K J=>?_|refine Wb Xr fun K J=>?_|refine Wc Xr [] fun K J=>?_|refine Wd Xr [] fun K J=>?_
      simp[hk4'];apply J;clear J K;apply Y;clear Y S;refine Wt (by simp) ?_;refine Wb Xr fun K J=>?_;simp[KH,hq];apply J;clear J K;refine hX1 _ ⟨[(3,cA c),(6, .one (.ptr 6 0)),(7, .ep 1 [[inF f t]] 0 0),(8, .one (.ptr 8 0)),(9, .one (.map 35)),(10,iV .i64 n),(13, .one (.own 13)),(14, .one (.map 43)),(37,sV c.z2 1 (Xw c.hs)),(38,iV .i64 c.hs.length),(39,iV .i64 h),(44,sV zl 14 (XS l)),(45,iV .i64 l.length),(46,iV .i64 i),(16, .one (.ptr 16 0))],[(6,zB),(8,fB c f t (.own 91) (.c (.sl true 0 []))),(91, .row (decide (h=0)) 34 1 (Xw (Yg f t (c.hs.take h)))),(35, .map (mpI 0 (NM++[(n:Int)]))),(13, .row (decide (now.length=0)) 38 14 (XS now)),(43, .map (mpI 0 KP)),(16, .box [.c (.sc (.int .i64 x.e.hart)), .c (.sc (.int .i64 KK.length)), .c (.sc (.int .i64 x.e.kind)), .c (.sc (.int .u64 x.e.addr)), .c (.sc (.int .u64 x.e.load)), .c (.sc (.int .u64 x.e.store)), .c (.sc (.bool x.e.aq)), .c (.sc (.bool x.e.rl)), .c (.sc (.int .i64 x.e.pred)), .c (.sc (.int .i64 x.e.succ)), .c (.sc (.int .i64 q)), .c (.sl (decide ((mvI KP x.e.da).length=0)) 1 (Xj (mvI KP x.e.da))), .c (.sl (decide ((mvI KP x.e.dd).length=0)) 1 (Xj (mvI KP x.e.dd))), .c (.sl (decide ((mvI KP x.e.dw).length=0)) 1 (Xj (mvI KP x.e.dw)))])]⟩ ?_ (big _ hpv);apply Go1<;>simp
    ·have hk4':=bh hk4;have hpv:x.e.pair=J7 KP x:=by simp[J7,hk4]
     refine We fun S Y=>?_
     first|refine Wa Xr fun K J=>?_|refine Wb Xr fun K J=>?_|refine Wc Xr [] fun K J=>?_|refine Wd Xr [] fun K J=>?_
     simp[hk4'];apply J;clear J K;apply Y;clear Y S;refine Wf (by simp) ?_;refine Wp.skip ?_;refine hX1 _ ⟨[(3,cA c),(6, .one (.ptr 6 0)),(7, .ep 1 [[inF f t]] 0 0),(8, .one (.ptr 8 0)),(9, .one (.map 35)),(10,iV .i64 n),(13, .one (.own 13)),(14, .one (.map 43)),(37,sV c.z2 1 (Xw c.hs)),(38,iV .i64 c.hs.length),(39,iV .i64 h),(44,sV zl 14 (XS l)),(45,iV .i64 l.length),(46,iV .i64 i),(16, .one (.ptr 16 0))],[(6,zB),(8,fB c f t (.own 91) (.c (.sl true 0 []))),(91, .row (decide (h=0)) 34 1 (Xw (Yg f t (c.hs.take h)))),(35, .map (mpI 0 (NM++[(n:Int)]))),(13, .row (decide (now.length=0)) 38 14 (XS now)),(43, .map (mpI 0 KP)),(16, .box [.c (.sc (.int .i64 x.e.hart)), .c (.sc (.int .i64 KK.length)), .c (.sc (.int .i64 x.e.kind)), .c (.sc (.int .u64 x.e.addr)), .c (.sc (.int .u64 x.e.load)), .c (.sc (.int .u64 x.e.store)), .c (.sc (.bool x.e.aq)), .c (.sc (.bool x.e.rl)), .c (.sc (.int .i64 x.e.pred)), .c (.sc (.int .i64 x.e.succ)), .c (.sc (.int .i64 x.e.pair)), .c (.sl (decide ((mvI KP x.e.da).length=0)) 1 (Xj (mvI KP x.e.da))), .c (.sl (decide ((mvI KP x.e.dd).length=0)) 1 (Xj (mvI KP x.e.dd))), .c (.sl (decide ((mvI KP x.e.dw).length=0)) 1 (Xj (mvI KP x.e.dw)))])]⟩ ?_ (big _ hpv);apply Go1<;>simp
   cases hm:x.e.mem
   ·first|refine Wa Xr fun K J=>?_|refine Wb Xr fun K J=>?_|refine Wc Xr [] fun K J=>?_|refine Wd Xr [] fun K J=>?_
    simp[ssh,Xo,CJ,X2,unS,Xa,Ev.eta,hm];apply J;clear J K;refine hX1 _ ⟨[(3,cA c),(6, .one (.ptr 6 0)),(7, .ep 1 [[inF f t]] 0 0),(8, .one (.ptr 8 0)),(9, .one (.map 35)),(10,iV .i64 n),(13, .one (.own 13)),(14, .one (.map 43)),(37,sV c.z2 1 (Xw c.hs)),(38,iV .i64 c.hs.length),(39,iV .i64 h),(44,sV zl 14 (XS l)),(45,iV .i64 l.length),(46,iV .i64 i),(16, .one (.ptr 16 0)),(58,bV true)],[(6,zB),(8,fB c f t (.own 91) (.c (.sl true 0 []))),(91, .row (decide (h=0)) 34 1 (Xw (Yg f t (c.hs.take h)))),(35, .map (mpI 0 NM)),(13, .row (decide (now.length=0)) 38 14 (XS now)),(43, .map (mpI 0 KK)),(16, .box (eB x))]⟩ ?_ (key (by simp[Ke,hm]));apply Go1<;>simp
   cases hrg:rgB f t x.e.addr
   ·clear key hX1 hX2 X;have hk0:¬Ke f t x=true:=by simp[Ke,hm,hrg]
    have hk1:XN f t [x]=[]:=by simp[XN,hk0]
    have hk2:Yo f t KK [x]=[]:=by simp[Yo,hk0]
    have hk3:Jq f t n [x]=[]:=by simp[Jq,hk0]
    rw[hk1,ez]at hK1;rw[hk2,ez]at hS1;rw[hk3,ez]at hN1;refine Wb Xr fun K J=>?_;simp[ssh,Xo,CJ,gIn,ER,X2,unS,Xa,Ev.eta,hm,hrg,sa1];apply J;clear J K;apply Y;clear Y S;refine Wf (by simp) ?_;refine Wp.skip ?_;apply Y;clear Y S;refine Wb Xr fun K J=>?_;simp[hwn];apply J;clear J K;apply Y;clear Y S;refine Wb Xr fun K J=>?_;simp[hwi];apply J;clear J K;refine⟨⟨[(3,cA c),(6, .one (.ptr 6 0)),(7, .ep 1 [[inF f t]] 0 0),(8, .one (.ptr 8 0)),(9, .one (.map 35)),(10,iV .i64 (n+1:Nat)),(13, .one (.own 13)),(14, .one (.map 43)),(37,sV c.z2 1 (Xw c.hs)),(38,iV .i64 c.hs.length),(39,iV .i64 h),(44,sV zl 14 (XS l)),(45,iV .i64 l.length),(46,iV .i64 (i+1:Nat))],[(6,zB),(8,fB c f t (.own 91) (.c (.sl true 0 []))),(91, .row (decide (h=0)) 34 1 (Xw (Yg f t (c.hs.take h)))),(35, .map (mpI 0 (Jq f t 0 (P++l.take (i+1))))),(13, .row (decide ((Yo f t [] (l.take (i+1))).length=0)) 38 14 (XS (Yo f t [] (l.take (i+1))))),(43, .map (mpI 0 (XN f t (l.take (i+1)))))]⟩,k - 1,?_,by omega,i+1,n+1,by omega,by omega,rfl⟩;rw[hK1,hS1,hN1];apply Go1<;>simp
   ·first|refine Wa Xr fun K J=>?_|refine Wb Xr fun K J=>?_|refine Wc Xr [] fun K J=>?_|refine Wd Xr [] fun K J=>?_
    simp[ssh,Xo,CJ,gIn,ER,X2,unS,Xa,Ev.eta,hm,hrg,sa1];apply J;clear J K;refine hX1 _ ⟨[(3,cA c),(6, .one (.ptr 6 0)),(7, .ep 1 [[inF f t]] 0 0),(8, .one (.ptr 8 0)),(9, .one (.map 35)),(10,iV .i64 n),(13, .one (.own 13)),(14, .one (.map 43)),(37,sV c.z2 1 (Xw c.hs)),(38,iV .i64 c.hs.length),(39,iV .i64 h),(44,sV zl 14 (XS l)),(45,iV .i64 l.length),(46,iV .i64 i),(16, .one (.ptr 16 0)),(58,bV true)],[(6,zB),(8,fB c f t (.own 91) (.c (.sl true 0 []))),(91, .row (decide (h=0)) 34 1 (Xw (Yg f t (c.hs.take h)))),(35, .map (mpI 0 NM)),(13, .row (decide (now.length=0)) 38 14 (XS now)),(43, .map (mpI 0 KK)),(16, .box (eB x))]⟩ ?_ (key (by simp[Ke,hrg]));apply Go1<;>simp
  ·have hi:¬i<l.length:=by simpa using hc
   refine Wp.exit ?_;simp only[XW,XG,if_true];have hi0:i=l.length:=by omega
   rw[bp (show l.length≤i by omega)];have hl0:(Yg f t (c.hs.take h)).length=h:=by simp[Yg];omega
   have hl1:(Yg f t (c.hs.take h)).length+1≤maxLen:=by rw[hl0];unfold maxLen;omega
   have hl2:((Yg f t (c.hs.take h)).length+1)*24≤140737488355328:=by rw[hl0];omega
   have htk:Xw (Yg f t (c.hs.take (h+1)))=Xw (Yg f t (c.hs.take h))++[[.sl (decide ((Yo f t [] l).length=0)) 14 (XS (Yo f t [] l))]]:=by rw[ax hh,D7];unfold Xw;rw[dx];simp[Yg,hl]
   have hn2:(n:Int)=((P++l).length:Nat):=by rw[hn,az,hi0]
   obtain⟨rw1,hrw⟩:∃r,Yo f t [] l=r:=⟨_,rfl⟩;obtain⟨NM,hNM⟩:∃r,Jq f t 0 (P++l)=r:=⟨_,rfl⟩;rw[hrw]at htk;rw[hrw,hNM];clear hc hi hik;clear Y S;apply Y;clear Y S;refine Wp.gh (.frz (b:=13) rfl) ?_
   first|refine Wa Xr fun K J=>?_|refine Wb Xr fun K J=>?_|refine Wc Xr [] fun K J=>?_|refine Wd Xr [] fun K J=>?_
   simp[Xm,hl1,hl2,Vx,IK,UQ,Bc,B3,Dw.del];apply J;clear J K;apply Y;clear Y S
   first|refine Wa Xr fun K J=>?_|refine Wb Xr fun K J=>?_|refine Wc Xr [] fun K J=>?_|refine Wd Xr [] fun K J=>?_
   simp[hwh];apply J;clear J K;refine⟨⟨[(3,cA c),(6, .one (.ptr 6 0)),(7, .ep 1 [[inF f t]] 0 0),(8, .one (.ptr 8 0)),(9, .one (.map 35)),(10,iV .i64 (Xh (c.hs.take (h+1))).length),(37,sV c.z2 1 (Xw c.hs)),(38,iV .i64 c.hs.length),(39,iV .i64 (h+1:Nat))],[(6,zB),(8,fB c f t (.own 91) (.c (.sl true 0 []))),(91, .row (decide (h+1=0)) 34 1 (Xw (Yg f t (c.hs.take (h+1))))),(35, .map (mpI 0 (Jq f t 0 (Xh (c.hs.take (h+1))))))]⟩,kk - 1,?_,by omega,h+1,by omega,rfl⟩;rw[hflat,htk,hNM];apply Go1<;>simp[hn2]
 ·have hh:¬h<c.hs.length:=by simpa using hc
  refine Wp.exit ?_;simp only[XW,XG,if_true];have hh0:h=c.hs.length:=by omega
  have hz:decide (h=0)=decide (c.hs.length=0):=by rw[hh0]
  rw[bp (show c.hs.length≤h by omega),hz];unfold shC at hR;obtain⟨NM,hNM⟩:∃r,Jq f t 0 (Xh c.hs)=r:=⟨_,rfl⟩;rw[hNM]at hR⊢;clear hc hh hhk hh0 hz;clear Y S;apply Y;clear Y S;refine We fun S Y=>?_;refine We fun S Y=>?_;refine Wp.gh (.frz (b:=91) rfl) ?_;refine Wp.gh (s':=⟨[(3,cA c),(6, .one (.ptr 6 0)),(8, .one (.ptr 8 0)),(9, .one (.map 35))],[(6,zB),(8,fB c f t (.c (.sl (decide (c.hs.length=0)) 1 (Xw (Yg f t c.hs)))) (.c (.sl true 0 []))),(35, .map (mpI 0 NM))]⟩) ?_ ?_
  ·apply Go1<;>simp[Vx,IK,UQ,Bc,B3,Dw.del]
  refine Wb Xr fun K J=>?_;simp[Xg];apply J;clear J K;apply Y;clear Y S;refine Wp.block ?_;refine Wp.adoptBox (k:=8) (b:=92) (i:=2) rfl rfl rfl 3 1 ?_;refine Wp.loop (fun k s=>∃n:Nat,n+k=c.fr.length∧s=⟨[(3,cA c),(6, .one (.ptr 6 0)),(8, .one (.ptr 8 0)),(9, .one (.map 35)),(110,sV c.z3 1 (Xj c.fr)),(111,iV .i64 c.fr.length),(112,iV .i64 n)],[(6,zB),(8,fB c f t (.c (.sl (decide (c.hs.length=0)) 1 (Xw (Yg f t c.hs)))) (.own 92)),(35, .map (mpI 0 NM)),(92, .row (decide ((Ga NM 0 (c.fr.take n)).length=0)) 3 1 (Xj (Ga NM 0 (c.fr.take n))))]⟩)
   c.fr.length (s0:=⟨[(3,cA c),(6, .one (.ptr 6 0)),(8, .one (.ptr 8 0)),(9, .one (.map 35)),(110,sV c.z3 1 (Xj c.fr)),(111,iV .i64 c.fr.length),(112,iV .i64 (0:Nat))],[(6,zB),(8,fB c f t (.c (.sl (decide (c.hs.length=0)) 1 (Xw (Yg f t c.hs)))) (.own 92)),(35, .map (mpI 0 NM)),(92, .row true 3 1 [])]⟩) ?_ ⟨0,by simp,by simp[Ga,Xj]⟩ fun k s ⟨n,hnk,hs⟩=>?_
  ·apply Go1<;>simp
  subst hs;refine Wa Xr fun K J=>?_;simp;apply J;clear J K;refine We fun S Y=>?_;refine Wp.cond rfl (fun hc=>?_) (fun hc=>?_)
  ·have hn:n<c.fr.length:=by simpa using hc
   have hwn:IntKind.i64.wrap ((n:Int)+1)=(n+1:Nat):=by rw[wrap_small]<;>omega
   have hF1:Ga NM 0 (c.fr.take (n+1))=Ga NM 0 (c.fr.take n)++Ga NM n [c.fr[n]]:=by
    rw[ax hn,D8,cf,jn (fx hn),bf]
   have hle:=Tg NM (c.fr.take n) 0;rw[cf]at hle;obtain⟨fr,hfr⟩:∃r,Ga NM 0 (c.fr.take n)=r:=⟨_,rfl⟩;rw[hfr]at hF1 hle⊢;have hl1:fr.length+1≤maxLen:=by unfold maxLen;omega
   have hl2:(fr.length+1)*8≤140737488355328:=by omega
   cases hq1:V6 (n:Int) 0 NM with
   |none=>
    have hk:Ga NM n [c.fr[n]]=[]:=by simp[Ga,hq1]
    rw[hk,ez]at hF1;refine Wp.skip ?_;apply Y;clear Y S;refine We fun S Y=>?_;refine Wp.block ?_;refine Wa Xr fun K J=>?_;simp[hn,Xg,Xf];apply J;clear J K;refine We fun S Y=>?_;refine Wa Xr fun K J=>?_;simp[KH,hq1];apply J;clear J K;refine Wa Xr fun K J=>?_;simp;apply J;clear J K;refine Wt (by simp) ?_;refine Wp.exit ?_;simp only[XW,XG,if_true];clear Y S;apply Y;clear Y S;refine Wb Xr fun K J=>?_;simp[hwn];apply J;clear J K;refine⟨⟨[(3,cA c),(6, .one (.ptr 6 0)),(8, .one (.ptr 8 0)),(9, .one (.map 35)),(110,sV c.z3 1 (Xj c.fr)),(111,iV .i64 c.fr.length),(112,iV .i64 (n+1:Nat))],[(6,zB),(8,fB c f t (.c (.sl (decide (c.hs.length=0)) 1 (Xw (Yg f t c.hs)))) (.own 92)),(35, .map (mpI 0 NM)),(92, .row (decide ((Ga NM 0 (c.fr.take (n+1))).length=0)) 3 1 (Xj (Ga NM 0 (c.fr.take (n+1)))))]⟩,k - 1,?_,by omega,n+1,by omega,rfl⟩;rw[hF1];apply Go1<;>simp
   |some q1=>
    cases hq2:V6 c.fr[n] 0 NM with
    |none=>
     have hk:Ga NM n [c.fr[n]]=[c.fr[n]]:=by simp[Ga,hq1,hq2]
     have hi1:Xj (fr++[c.fr[n]])=Xj fr++[[.sc (.int .i64 c.fr[n])]]:=by simp[Xj]
     rw[hk]at hF1
     repeat(first|((first|refine Wa Xr fun K J=>?_|refine Wb Xr fun K J=>?_|refine Wc Xr [] fun K J=>?_|refine Wd Xr [] fun K J=>?_);simp[hn,Xg,Xf,KH,hq1,hq2,hl1,hl2,hwn];first|done|(with_reducible refine J _ ?_;clear J K)|(apply And.intro;(·kernel_rfl);with_reducible refine J _ ?_;clear J K))|refine We fun S Y=>?_|refine Wp.block ?_|refine Wp.skip ?_|(apply Wt;· (simp;done))|(apply Wf;· (simp;done))|(apply Y;clear Y S)|(clear Y S;apply Y;clear Y S))
     refine⟨⟨[(3,cA c),(6, .one (.ptr 6 0)),(8, .one (.ptr 8 0)),(9, .one (.map 35)),(110,sV c.z3 1 (Xj c.fr)),(111,iV .i64 c.fr.length),(112,iV .i64 (n+1:Nat))],[(6,zB),(8,fB c f t (.c (.sl (decide (c.hs.length=0)) 1 (Xw (Yg f t c.hs)))) (.own 92)),(35, .map (mpI 0 NM)),(92, .row (decide ((Ga NM 0 (c.fr.take (n+1))).length=0)) 3 1 (Xj (Ga NM 0 (c.fr.take (n+1)))))]⟩,k - 1,?_,by omega,n+1,by omega,rfl⟩;rw[hF1,hi1];apply Go1<;>simp
    |some q2=>
     have hk:Ga NM n [c.fr[n]]=[(q2:Int)]:=by simp[Ga,hq1,hq2]
     have hi1:Xj (fr++[(q2:Int)])=Xj fr++[[.sc (.int .i64 q2)]]:=by simp[Xj]
     rw[hk]at hF1
     repeat(first|((first|refine Wa Xr fun K J=>?_|refine Wb Xr fun K J=>?_|refine Wc Xr [] fun K J=>?_|refine Wd Xr [] fun K J=>?_);simp[hn,Xg,Xf,KH,hq1,hq2,hl1,hl2,hwn];first|done|(with_reducible refine J _ ?_;clear J K)|(apply And.intro;(·kernel_rfl);with_reducible refine J _ ?_;clear J K))|refine We fun S Y=>?_|refine Wp.block ?_|refine Wp.skip ?_|(apply Wt;· (simp;done))|(apply Wf;· (simp;done))|(apply Y;clear Y S)|(clear Y S;apply Y;clear Y S))
     refine⟨⟨[(3,cA c),(6, .one (.ptr 6 0)),(8, .one (.ptr 8 0)),(9, .one (.map 35)),(110,sV c.z3 1 (Xj c.fr)),(111,iV .i64 c.fr.length),(112,iV .i64 (n+1:Nat))],[(6,zB),(8,fB c f t (.c (.sl (decide (c.hs.length=0)) 1 (Xw (Yg f t c.hs)))) (.own 92)),(35, .map (mpI 0 NM)),(92, .row (decide ((Ga NM 0 (c.fr.take (n+1))).length=0)) 3 1 (Xj (Ga NM 0 (c.fr.take (n+1)))))]⟩,k - 1,?_,by omega,n+1,by omega,rfl⟩;rw[hF1,hi1];apply Go1<;>simp
  ·have hn:¬n<c.fr.length:=by simpa using hc
   refine Wp.exit ?_;simp only[XW,XG,if_true];rw[bp (show c.fr.length≤n by omega)];clear hc hn hnk;clear Y S;apply Y;clear Y S;refine We fun S Y=>?_;refine Wp.gh (.frz (b:=92) rfl) ?_
   first|refine Wa Xr fun K J=>?_|refine Wb Xr fun K J=>?_|refine Wc Xr [] fun K J=>?_|refine Wd Xr [] fun K J=>?_
   simp[ssh,Xo,IJ,Xa,F8,Pm,b5,Vx,IK,UQ,Bc,B3,Dw.del];apply J;clear J K;subst hR;apply Y;clear Y S;refine Wa Xr fun K J=>?_;simp;apply J;clear J K;refine Wp.ret ?_;simp
def D1(ty:TypeId→Option Ty)(spec:Dw.Spec)(b:Bool)(st:St)(o:Oper)(F:St→Prop):Prop:=match b with
 |true=>(match Me ty spec [] st o with|some (p,v,none)=>p∧F (Zi st o.dst v none)|_=>False)
 |false=>F (Zi st o.dst (.tup []) none)
theorem Bg{ty:TypeId→Option Ty}{spec:Dw.Spec}{ops r:List Oper}{o:Oper}{k:Nat}{wr:List (Nat×Nat×Bool)}{Q:List (Nat×Nat×Bool)→St→Prop}{st:St}{b:Bool}(hg:Jf st ops o=some b)
  (h:∀F:St→Prop,(∀st',V8 ty spec [] ops r (k+1) wr Q st'→F st')→D1 ty spec b st o F):V8 ty spec [] ops (o::r) k wr Q st:=by
 have hr:rdL [] ops st o k wr=wr:=by
  unfold rdL rdG;rw[hg];cases b
  ·rfl
  ·have:rdO [] st o=none:=by unfold rdO;split<;>(try rfl);split<;>simp
   simp only[this]
 have h:=h _ fun _ h=>h;unfold D1 at h;unfold V8 MU;rw[hg,hr];cases b
 ·exact⟨trivial,h⟩
 ·simp only at h⊢;split at h
  ·rename_i p v e;rw[e];exact h
  ·exact h.elim
def qX(c:Cz):Prop:=GI c∧YC c=true∧c.z1=false∧bF c.hs
def AH:List EV→Option (Prop×Yw)
 |[v]=>(match Kn v with|some c=>some (WG c, .val (X9 (Pe c)))|none=>none)
 |_=>none
def lZ:List EV→Option (Prop×Yw)
 |[v, .one (.c (.sc (.int .u64 f))), .one (.c (.sc (.int .u64 t)))]=>(match Kn v with|some c=>some (qX c, .val (X9 (shC f t c)))|none=>none)
 |_=>none
noncomputable def sv:Dw.Spec:=Xo 5 Uc (Xo 8 AH (Xo 7 lZ (Xo 9 (Kb Ev.mem) (Xo 10 bT (Xo 11 ZA sj)))))
theorem YB:XA Tryz.prog sv:=by
 refine Xp ⟨⟨_,Tryz.func5,rfl,rfl⟩⟩ (fun vs p r h hp=>?_) (Xp ⟨⟨_,Tryz.func8,rfl,rfl⟩⟩ (fun vs p r h hp=>?_) (Xp ⟨⟨_,Tryz.func7,rfl,rfl⟩⟩ (fun vs p r h hp=>?_) (Xp ⟨⟨_,Tryz.func9,rfl,rfl⟩⟩ (ZB HM) (Xp ⟨⟨_,Tryz.func10,rfl,rfl⟩⟩ (fun vs p r h hp=>?_) (Xp ⟨⟨_,Tryz.func11,rfl,rfl⟩⟩ (fun vs p r h hp=>?_) V9)))))
 ·unfold Uc at h;split at h
  ·split at h
   ·rename_i c hc;simp only[ab,af]at h;obtain⟨rfl,rfl⟩:=h;subst hp;rw[Yf hc];exact UP c
   ·cases h
  ·cases h
 ·unfold AH at h;split at h
  ·split at h
   ·rename_i c hc;simp only[ab,af]at h;obtain⟨rfl,rfl⟩:=h;rw[Yf hc];exact BC c hp
   ·cases h
  ·cases h
 ·unfold lZ at h;split at h
  ·split at h
   ·rename_i c hc;simp only[ab,af]at h;obtain⟨rfl,rfl⟩:=h;rw[Yf hc];exact E6 c _ _ hp.1 hp.2.1 hp.2.2.1 hp.2.2.2
   ·cases h
  ·cases h
 ·unfold bT at h;split at h
  ·split at h
   ·rename_i c hc;simp only[ab,af]at h;obtain⟨rfl,rfl⟩:=h;rw[Yf hc];exact NT c hp.1 hp.2
   ·cases h
  ·cases h
 ·unfold ZA at h;split at h
  ·split at h
   ·rename_i c hc;simp only[ab,af]at h;obtain⟨rfl,rfl⟩:=h;rw[Yf hc];exact Lw c hp
   ·cases h
  ·cases h
theorem L3(c:Cz)(f t:Int)(hw:kL c):∃a b x d,Tryz.f3.body=some (.seq a (.seq (.seq b x) d))∧Wp Tryz.prog 168 x (XW (Wp Tryz.prog 168 d (Gx (Yk Tryz.prog) [.tmp 6] (.val (bV true)))) (Gx (Yk Tryz.prog) [.tmp 6] (.val (bV true)))) ⟨[(1,iV .u64 f),(2,iV .u64 t),(3,cA c),(6,bV false),(13,bV false)],[]⟩:=by
 cases hf:DP c
 ·refine Fg rfl fun S Y=>?_;refine Wf (by simp) ?_;refine Wp.skip ?_;apply Y;clear Y S;refine We fun S Y=>?_;refine Wa YB fun K J=>?_;simp[sv,Xo,Uc,Xu,hf];apply J;clear J K;refine Wt (by simp) ?_;refine Wa YB fun K J=>?_;simp;apply J;clear J K;refine Wp.ret ?_;simp
 have hc0:=WQ hw hf;have bok:=eq_true hc0;cases hk:XV (Yr c)
 ·refine Fg rfl fun S Y=>?_;refine Wf (by simp) ?_;refine Wp.skip ?_;apply Y;clear Y S;refine We fun S Y=>?_;refine Wa YB fun K J=>?_;simp[sv,sj,Xo,Uc,Vc,Xu,hf,bok,hk,Yh];apply J;clear J K;refine Wt (by simp) ?_;refine Wa YB fun K J=>?_;simp;apply J;clear J K;refine Wp.ret ?_;simp
 have bfew:=eq_true (IP hc0);have bev:=eq_true (A8 hc0);have osh:qX (Pe c):=⟨OF hc0,by rw[Kt,Ze];exact hk,rfl,Sr hk⟩;have hd0:=WP f t osh.1;have hL:=SR (c:=c) f t;obtain⟨hL1,hL2,hL3⟩:=hL;have hkd:=hL1 hk;have hrow:=fun h (hh:h<c.hs.length)=>dB (f:=f) (t:=t) hh;have hdl:(shC f t (Pe c)).hs.length=c.hs.length:=by show(Yg f t (KL c.hs)).length=_;rw[VE];unfold KL;rw[ai]
 obtain⟨o,ho⟩:∃o,Pe c=o:=⟨_,rfl⟩;rw[ho]at osh hd0 hkd hrow hL2 hL3 hdl;obtain⟨d,hd⟩:∃d,shC f t o=d:=⟨_,rfl⟩;rw[hd]at hd0 hkd hrow hL2 hL3 hdl;have osh:=eq_true osh;have dok:=eq_true hd0;have dev:=eq_true (A8 hd0);clear hL1;refine Fg rfl fun S Y=>?_;refine Wf (by simp) ?_;refine Wp.skip ?_;apply Y;clear Y S;refine We fun S Y=>?_;refine Wa YB fun K J=>?_;simp[sv,sj,Xo,Uc,Vc,Xu,hf,bok,hk,Yh];apply J;clear J K;refine Wf (by simp) ?_;refine Wp.skip ?_;apply Y;clear Y S;refine We fun S Y=>?_
 first|refine Wa YB fun K J=>?_|refine Wb YB fun K J=>?_|refine Wc YB [] fun K J=>?_|refine Wd YB [] fun K J=>?_
 simp[sv,Xo,AH,lZ,Xu,bfew,osh,ho,hd,X9];apply J;clear J K;apply Y;clear Y S;refine Wp.frzBox (b:=7) (cs:=d.cv) rfl rfl ?_;refine Wp.gh (s':=⟨[(1,iV .u64 f),(2,iV .u64 t),(3,cA c),(7,cA d)],[]⟩) ?_ ?_
 ·apply Go1<;>simp[DO,fzV,B3,Dw.del,Cz.cv]
 clear osh ho hd;refine We fun S Y=>?_;refine Wa YB fun K J=>?_;simp[sv,sj,Xo,Vc,Xu,dok,hkd,Yh,Xm,hdl];apply J;clear J K;refine Wf (by simp) ?_;refine Wp.skip ?_;apply Y;clear Y S;refine We fun S Y=>?_;refine Wa YB fun K J=>?_;simp;apply J;clear J K;refine Wp.block ?_;have b2:=hc0.hs;have b6:=IP hc0;have b6:=b6.2.2.2.2;refine Wp.loop (fun k s=>∃h:Nat,h+k=c.hs.length∧s=⟨[(1,iV .u64 f),(2,iV .u64 t),(3,cA c),(7,cA d),(8,iV .i64 h)],[]⟩) c.hs.length (s0:=⟨[(1,iV .u64 f),(2,iV .u64 t),(3,cA c),(7,cA d),(8,iV .i64 (0:Nat))],[]⟩) ?_ ⟨0,by simp,rfl⟩ fun kk s ⟨h,hhk,hs⟩=>?_
 ·apply Go1<;>simp
 subst hs;refine We fun S Y=>?_;refine Wa YB fun K J=>?_;simp[Xm];apply J;clear J K;refine Wp.cond rfl (fun hc=>?_) (fun hc=>?_)
 ·have hh:h<c.hs.length:=by simpa using hc
  have hwh:IntKind.i64.wrap ((h:Int)+1)=(h+1:Nat):=by rw[wrap_small]<;>omega
  have hfr:=(b6 _ (ba hh)).1;have hhd:h<d.hs.length:=by omega
  have hr2:=(hrow h hh).2;rw[aa hhd]at hr2;injection hr2 with hr2;obtain⟨l,hl⟩:∃l,c.hs[h].2=l:=⟨_,rfl⟩;obtain⟨zl,hzl⟩:∃z,c.hs[h].1=z:=⟨_,rfl⟩;obtain⟨r,hr⟩:∃r,DK f t l=r:=⟨_,rfl⟩;obtain⟨zr,hzr⟩:∃z,decide (r.length=0)=z:=⟨_,rfl⟩;rw[hl,hr,hzr]at hr2;rw[hl]at hfr;have hd1:d.hs[h].1=zr:=by rw[hr2]
  have hd2:d.hs[h].2=r:=by rw[hr2]
  have hall:=OL f t l;rw[hr]at hall;refine Wp.skip ?_;apply Y;clear Y S;refine We fun S Y=>?_;refine Wp.block ?_;refine Wa YB fun K J=>?_;simp;apply J;clear J K;refine We fun S Y=>?_;refine Wa YB fun K J=>?_;simp;apply J;clear J K;refine Wp.block ?_;refine Wp.loop (fun k s=>∃i n:Nat,i+k=l.length∧n=EQ f t l i∧s=⟨[(1,iV .u64 f),(2,iV .u64 t),(3,cA c),(7,cA d),(8,iV .i64 h),(9,iV .i64 n),(10,iV .i64 i)],[]⟩) l.length (s0:=⟨[(1,iV .u64 f),(2,iV .u64 t),(3,cA c),(7,cA d),(8,iV .i64 h),(9,iV .i64 (0:Nat)),(10,iV .i64 (0:Nat))],[]⟩) ?_ ⟨0,0,by simp,by simp[EQ,XN],rfl⟩ fun k s ⟨i,n,hik,hn,hs⟩=>?_
  ·apply Go1<;>simp
  subst hs;refine We fun S Y=>?_;refine Wa YB fun K J=>?_;simp[hh,Xm,Xs,Xe,hl,hzl];apply J;clear J K;refine Wp.cond rfl (fun hc=>?_) (fun hc=>?_)
  ·have hi:i<l.length:=by simpa using hc
   have hwi:IntKind.i64.wrap ((i:Int)+1)=(i+1:Nat):=by rw[wrap_small]<;>omega
   have hle:=WT (f:=f) (t:=t) (l:=l) (i:=i);have hwn:IntKind.i64.wrap ((n:Int)+1)=(n+1:Nat):=by rw[wrap_small]<;>omega
   have hno:=WS (f:=f) (t:=t) hi;have hyes:=OK (f:=f) (t:=t) hi;rw[←hn,hr]at hyes;rw[←hn]at hno;obtain⟨x,hx⟩:∃x,l[i]=x:=⟨_,rfl⟩;rw[hx]at hno hyes;refine Wp.skip ?_;apply Y;clear Y S;refine We fun S Y=>?_;refine Wp.block ?_;refine We fun S Y=>?_
   first|refine Wa YB fun K J=>?_|refine Wb YB fun K J=>?_|refine Wc YB [] fun K J=>?_|refine Wd YB [] fun K J=>?_
   simp[hh,Xm,Xs,Xe,Xd,hl,hzl,hi,hx,Ez.cv];apply J;clear J K;apply Y;clear Y S;refine Wp.frzBox (b:=11) (cs:=x.cv) rfl rfl ?_;refine Wp.gh (s':=⟨[(1,iV .u64 f),(2,iV .u64 t),(3,cA c),(7,cA d),(8,iV .i64 h),(9,iV .i64 n),(10,iV .i64 i),(11,eA x)],[]⟩) ?_ ?_
   ·apply Go1<;>simp[DO,fzV,B3,Dw.del,Ez.cv]
   cases hkp:Ke f t x
   ·have hno:=hno hkp;have hcs:x.e.mem=true∧(x.e.addr<f∨(¬x.e.addr<f∧t≤x.e.addr)):=by
     unfold Ke rgB at hkp;simp at hkp;refine⟨hkp.1,?_⟩;by_cases g:x.e.addr<f
     ·exact .inl g
     ·exact .inr ⟨g,hkp.2 (by omega)⟩
    obtain⟨hm,hcs⟩:=hcs;rcases hcs with ha|⟨ha,hb⟩
    ·refine We fun S Y=>?_;refine Wa YB fun K J=>?_;simp[sv,Xo,Kb,X2,unS,Xa,Ev.eta,hm,ha];apply J;clear J K;refine Wt (by simp) ?_;refine Wp.exit ?_;simp only[XW,XG,if_true];clear Y S;apply Y;clear Y S;refine Wb YB fun K J=>?_;simp[hwi];apply J;clear J K;refine⟨⟨[(1,iV .u64 f),(2,iV .u64 t),(3,cA c),(7,cA d),(8,iV .i64 h),(9,iV .i64 n),(10,iV .i64 (i+1:Nat))],[]⟩,k - 1,?_,by omega,i+1,n,by omega,by rw[hno],rfl⟩;apply Go1<;>simp
    ·refine We fun S Y=>?_;refine Wa YB fun K J=>?_;simp[sv,Xo,Kb,X2,unS,Xa,Ev.eta,hm,ha,hb];apply J;clear J K;refine Wt (by simp) ?_;refine Wp.exit ?_;simp only[XW,XG,if_true];clear Y S;apply Y;clear Y S;refine Wb YB fun K J=>?_;simp[hwi];apply J;clear J K;refine⟨⟨[(1,iV .u64 f),(2,iV .u64 t),(3,cA c),(7,cA d),(8,iV .i64 h),(9,iV .i64 n),(10,iV .i64 (i+1:Nat))],[]⟩,k - 1,?_,by omega,i+1,n,by omega,by rw[hno],rfl⟩;apply Go1<;>simp
   ·obtain⟨hn1,hnr,K0,hy⟩:=hyes hkp;obtain⟨y,hyy⟩:∃y,r[n]=y:=⟨_,rfl⟩;rw[hyy]at hy;have hnr2:¬r.length≤n:=by omega
    have y1:y.e.kind=x.e.kind:=by rw[hy];rfl
    have y2:y.e.addr=x.e.addr:=by rw[hy];rfl
    have y3:y.e.load=x.e.load:=by rw[hy];rfl
    have y4:y.e.store=x.e.store:=by rw[hy];rfl
    clear hy hyes hno;have hcs:x.e.mem=false∨(x.e.mem=true∧¬x.e.addr<f∧¬t≤x.e.addr):=by
     unfold Ke rgB at hkp;simp at hkp;rcases hkp with g|g
     ·exact .inl g
     ·cases hm:x.e.mem
      ·exact .inl rfl
      ·exact .inr ⟨rfl,by omega,by omega⟩
    rcases hcs with hm|⟨hm,ha,hb⟩
    ·refine We fun S Y=>?_;refine We fun S Y=>?_
     first|refine Wa YB fun K J=>?_|refine Wb YB fun K J=>?_|refine Wc YB [] fun K J=>?_|refine Wd YB [] fun K J=>?_
     simp[sv,Xo,Kb,X2,unS,Xa,Ev.eta,hm];apply J;clear J K;apply Y;clear Y S;apply Wp.condF
     ·simp
     refine Wp.skip ?_;apply Y;clear Y S;refine We fun S Y=>?_;refine We fun S Y=>?_;refine Wp.gh (s':=⟨[(1,iV .u64 f),(2,iV .u64 t),(3,cA c),(7,cA d),(8,iV .i64 h),(9,iV .i64 n),(10,iV .i64 i),(11,eA x)],[]⟩) ?_ ?_
     ·apply Go1<;>simp
     refine Wd YB [] fun K J=>?_
     repeat(refine Bg rfl fun F hF=>?_;simp[D1,Me,rdO,Lr,Gq,Qa,Zi,hhd,Xm,Xs,hd1,hd2,Xe,Xd,hnr,hnr2,hyy,Ez.cv,y1,y2,y3,y4];with_reducible refine hF _ ?_;clear hF F)
     refine⟨by kernel_rfl,?_⟩
     with_reducible refine J _ ?_
     clear J K;apply Y;clear Y S;refine Wf (by simp) ?_;refine Wp.skip ?_;apply Y;clear Y S;refine Wb YB fun K J=>?_;simp[hwn];apply J;clear J K;apply Y;clear Y S;refine Wb YB fun K J=>?_;simp[hwi];apply J;clear J K;refine⟨⟨[(1,iV .u64 f),(2,iV .u64 t),(3,cA c),(7,cA d),(8,iV .i64 h),(9,iV .i64 (n+1:Nat)),(10,iV .i64 (i+1:Nat))],[]⟩,k - 1,?_,by omega,i+1,n+1,by omega,by rw[hn1],rfl⟩;apply Go1<;>simp
    ·refine We fun S Y=>?_;refine We fun S Y=>?_
     first|refine Wa YB fun K J=>?_|refine Wb YB fun K J=>?_|refine Wc YB [] fun K J=>?_|refine Wd YB [] fun K J=>?_
     simp[sv,Xo,Kb,X2,unS,Xa,Ev.eta,hm,ha,hb];apply J;clear J K;apply Y;clear Y S;apply Wp.condF
     ·simp
     refine Wp.skip ?_;apply Y;clear Y S;refine We fun S Y=>?_;refine We fun S Y=>?_;refine Wp.gh (s':=⟨[(1,iV .u64 f),(2,iV .u64 t),(3,cA c),(7,cA d),(8,iV .i64 h),(9,iV .i64 n),(10,iV .i64 i),(11,eA x)],[]⟩) ?_ ?_
     ·apply Go1<;>simp
     refine Wd YB [] fun K J=>?_
     repeat(refine Bg rfl fun F hF=>?_;simp[D1,Me,rdO,Lr,Gq,Qa,Zi,hhd,Xm,Xs,hd1,hd2,Xe,Xd,hnr,hnr2,hyy,Ez.cv,y1,y2,y3,y4];with_reducible refine hF _ ?_;clear hF F)
     refine⟨by kernel_rfl,?_⟩
     with_reducible refine J _ ?_
     clear J K;apply Y;clear Y S;refine Wf (by simp) ?_;refine Wp.skip ?_;apply Y;clear Y S;refine Wb YB fun K J=>?_;simp[hwn];apply J;clear J K;apply Y;clear Y S;refine Wb YB fun K J=>?_;simp[hwi];apply J;clear J K;refine⟨⟨[(1,iV .u64 f),(2,iV .u64 t),(3,cA c),(7,cA d),(8,iV .i64 h),(9,iV .i64 (n+1:Nat)),(10,iV .i64 (i+1:Nat))],[]⟩,k - 1,?_,by omega,i+1,n+1,by omega,by rw[hn1],rfl⟩;apply Go1<;>simp
  ·have hi:¬i<l.length:=by simpa using hc
   refine Wp.exit ?_;simp only[XW,XG,if_true];have hnl:n=r.length:=by rw[hn,show i=l.length by omega];exact hall
   subst hnl;clear hn hc hi hik;clear Y S;apply Y;clear Y S;refine Wa YB fun K J=>?_;simp[hhd,Xm,Xs,hd1,hd2,Xe];apply J;clear J K;refine Wf (by simp) ?_;refine Wp.skip ?_;apply Y;clear Y S;refine Wb YB fun K J=>?_;simp[hwh];apply J;clear J K;refine⟨⟨[(1,iV .u64 f),(2,iV .u64 t),(3,cA c),(7,cA d),(8,iV .i64 (h+1:Nat))],[]⟩,kk - 1,?_,by omega,h+1,by omega,rfl⟩;apply Go1<;>simp
 ·refine Wp.exit ?_;simp only[XW,XG,if_true];clear hc hhk hrow;have hoc:okB c=false∨okB c=true∧okB d=true:=by
   cases h1:okB c
   ·exact .inl rfl
   ·exact .inr ⟨rfl,hL2 h1⟩
  have hpc:Y9 c=false∨Y9 c=true∧Y9 d=true:=by
   cases h1:Y9 c
   ·exact .inl rfl
   ·exact .inr ⟨rfl,hL3 h1⟩
  clear hL2 hL3;rcases hoc with o1|⟨o1,o2⟩
  ·rcases hpc with p1|⟨p1,p2⟩
   ·clear Y S;apply Y;clear Y S;refine Wa YB fun K J=>?_;simp[sv,Xo,bT,ZA,Xu,bok,bev,o1,p1];apply J;clear J K;refine Wp.ret ?_;simp
   ·clear Y S;apply Y;clear Y S;refine Wa YB fun K J=>?_;simp[sv,Xo,bT,ZA,Xu,bok,bev,dok,o1,p1,p2];apply J;clear J K;refine Wp.ret ?_;simp
  ·rcases hpc with p1|⟨p1,p2⟩
   ·clear Y S;apply Y;clear Y S;refine Wa YB fun K J=>?_;simp[sv,Xo,bT,ZA,Xu,bok,bev,dok,dev,o1,o2,p1];apply J;clear J K;refine Wp.ret ?_;simp
   ·clear Y S;apply Y;clear Y S;refine Wa YB fun K J=>?_;simp[sv,Xo,bT,ZA,Xu,bok,bev,dok,dev,o1,o2,p1,p2];apply J;clear J K;refine Wp.ret ?_;simp
end Go.Proofs.YtbkpmfjfpcoehaaGreatDoor
namespace Go.Proofs.YtbkpmfjfpcoehaaGreatDoor
open Go Go.RowKit Dw
set_option maxRecDepth 100000
theorem As(c:Cz)(f t:Int)(hw:kL c)(w:World)(u:Value)(hu:XY w (fun g=>g<w.heap.size) noB (X9 c) u)
  (L:∀w',Below w.heap.size w w'→Calls Tryz.prog 4 #[] w' fun e w''=>e= .returned (.bool true)∧Below w'.heap.size w' w''):
  Calls Tryz.prog 3 #[u, .int .u64 f, .int .u64 t] w fun e w'=>e= .returned (.bool true)∧Below w.heap.size w w':=by
 obtain⟨a,b,x,d,hb,hW⟩:=L3 c f t hw;have hx:∃us:Array Value,u= .agg us∧Yx (XH w fun g=>g<w.heap.size) c.cv us.toList:=by
  cases hu with
  | @agg _ us h=>
   refine⟨us,rfl,⟨by simpa[Cz.cv]using h.1,fun i y v hy hv=>?_⟩⟩;have:=h.2 i (.c y) v (by
    match i,hy with
    |0,hy=>simp[Cz.cv]at hy;subst hy;rfl
    |1,hy=>simp[Cz.cv]at hy;subst hy;rfl
    |2,hy=>simp[Cz.cv]at hy;subst hy;rfl
    |3,hy=>simp[Cz.cv]at hy;subst hy;rfl
    |i+4,hy=>simp[Cz.cv]at hy) hv
   exact this
 obtain⟨us,rfl,hc⟩:=hx;have B0:=(bg w.heap.size w).alloc (ak _) (.cells us 26)
 go_enter Tryz.func3,Tryz.ntmps3
 have hb':=hb;unfold Tryz.f3 at hb;simp only[ab,Code.seq.injEq]at hb;obtain⟨rfl,⟨rfl,rfl⟩,rfl⟩:=hb;refine Th (Q1:=fun e a' w'=>e= .normal∧a'.defers=[]∧a'.tmps.size=168∧a'.tmps[1]? =some (.int .u64 f)∧a'.tmps[2]? =some (.int .u64 t)∧a'.tmps[3]? =some (.pointer (some ⟨w.heap.size,0,none⟩))∧a'.tmps[6]? =some (.bool false)∧a'.tmps[13]? =some (.bool false)∧Below (w.alloc (.cells us 26)).heap.size (w.alloc (.cells us 26)) w') ?_ ?_
 ·go_wp2_with fail
  refine(L _ B0).mono ?_;rintro r wn ⟨rfl,hb⟩
  go_wp2
  exact(by simpa using hb)
 ·rintro e a' w' ⟨rfl,hd,hs,t1,t2,t3,t6,t13,hb⟩;have B:=B0.trans (hb.mono B0.size);have X:=(Box.new w us 26).below hb;have hep:XY w' (XP (fun _=>True) w' noB) noB (.ep 4 [c.cv] 0 0) (.pointer (some ⟨w.heap.size,0,none⟩)):=by
   have e0:((⟨w.heap.size,0,none⟩:Addr).add (0*4+0))=⟨w.heap.size,0,none⟩:=by simp[Addr.add]
   rw[←e0];have hat:∀i j y,Dw.cellAt [c.cv] i j=some y→i=0∧∃v,us[j]? =some v∧XH w (fun g=>g<w.heap.size) y v:=by
    intro i j y h;unfold Dw.cellAt at h
    match i,h with
    |0,h=>
     simp only[cj,fa]at h;obtain⟨v,h1,h2⟩:=hc.get h;exact⟨rfl,v,by simpa using h1,h2⟩
    |i+1,h=>simp at h
   refine .ep (len:=1) (cap:=1) (.sl (fun _ j=>(us[j]?).getD undef) rfl (ak _) (fun i es h=>?_) (fun i j y h=>?_) (fun i j y h=>?_)) (by simp)
   ·match i,h with
    |0,h=>simp at h;subst h;rfl
    |i+1,h=>simp at h
   ·obtain⟨rfl,v,h1,h2⟩:=hat i j y h;refine⟨⟨⟨X.1,trivial⟩,fun b u hb=>by cases hb⟩,?_⟩;have e1:((⟨w.heap.size,0,none⟩:Addr).add (0*4+j))=⟨w.heap.size,j,none⟩:=by
     unfold Addr.add;split
     ·rename_i h;simp at h;subst h;rfl
     ·simp
    rw[e1,X.2 j,h1];rfl
   ·obtain⟨rfl,v,h1,h2⟩:=hat i j y h;rw[h1];exact h2.mono (fun g hg=>⟨⟨bq hg B.size,trivial⟩,fun b u hb=>by cases hb⟩) fun p hp=>B.block p hp
  have R:Rel w.heap.size (fun _=>False) (fun _=>True) w noB ⟨[(1,iV .u64 f),(2,iV .u64 t),(3, .ep 4 [[.sl c.z1 2 (Y1 c.f), .sl c.z2 1 (Xw c.hs), .sl c.z3 1 (Xj c.fr), .sl c.z4 1 (Xj c.od)]] 0 0),(6,bV false),(13,bV false)],[]⟩ a'.tmps w':=by
   refine⟨Fr.of_below B,B.size,fun tt v h=>?_,fun b ob hb=>(by simp[Dw.look]at hb),fun b u g hb=>(by cases hb),fun b c u v g hb=>(by cases hb),fun b u hb=>(by cases hb),⟨fun tt v b h hr=>?_,fun k xs x b hk=>by simp[Dw.look]at hk⟩,fun _ _=>trivial⟩
   ·simp only[Dw.look]at h;split at h
    ·rename_i e;subst e;injection h with h;subst h;exact⟨_,t1, .one (.sc rfl)⟩
    split at h
    ·rename_i e;subst e;injection h with h;subst h;exact⟨_,t2, .one (.sc rfl)⟩
    split at h
    ·rename_i e;subst e;injection h with h;subst h;exact⟨_,t3,hep⟩
    split at h
    ·rename_i e;subst e;injection h with h;subst h;exact⟨_,t6, .one (.sc rfl)⟩
    split at h
    ·rename_i e;subst e;injection h with h;subst h;exact⟨_,t13, .one (.sc rfl)⟩
    ·cases h
   ·simp only[Dw.look]at h;split at h
    ·injection h with h;subst h;exact absurd hr (by rw[show iV .u64 f=EV.one (.c (.sc (.int .u64 f)))from rfl,Uh];exact id)
    split at h
    ·injection h with h;subst h;exact absurd hr (by rw[show iV .u64 t=EV.one (.c (.sc (.int .u64 t)))from rfl,Uh];exact id)
    split at h
    ·injection h with h;subst h;cases hr
    split at h
    ·injection h with h;subst h;exact absurd hr (by rw[show bV false=EV.one (.c (.sc (.bool false)))from rfl,Uh];exact id)
    split at h
    ·injection h with h;subst h;exact absurd hr (by rw[show bV false=EV.one (.c (.sc (.bool false)))from rfl,Uh];exact id)
    ·cases h
  have hR:∀w'' v,Below w.heap.size w w''→XY w'' (fun g=>g<w''.heap.size∧True) noB (bV true) v→Ending.returned v= .returned (.bool true)∧Below w.heap.size w w'':=by
   intro w'' v hb hv;have:v= .bool true:=by
    cases hv with|one hv=>
    have hv:XH w'' _ (.sc (.bool true)) v:=hv;cases hv;rfl
   exact⟨by rw[this],hb⟩
  refine wp_mono (hW hd hs R) ?_;rintro e a2 w2 ⟨st,β,hq,h1,h2,h3⟩;cases e with
  |normal=>exact wp_mono (hq h1 h2 h3) fun e2 a3 w3 h=>AU (fn:=Tryz.f3) (w:=w) (v:=bV true) (rs:=[.tmp 6]) (R:=fun e w'=>e= .returned (.bool true)∧Below w.heap.size w w') (Xl _) hR rfl h
  |ret=>show bodyPost Tryz.prog Tryz.f3 (fun e w'=>e= .returned (.bool true)∧Below w.heap.size w w') .ret a2 w2;refine AU (fn:=Tryz.f3) (w:=w) (v:=bV true) (rs:=[.tmp 6]) (R:=fun e w'=>e= .returned (.bool true)∧Below w.heap.size w w') (Xl _) hR rfl ⟨st,β,?_,h1,h2,h3⟩;exact hq
  |_=>exact False.elim hq
end Go.Proofs.YtbkpmfjfpcoehaaGreatDoor
namespace Go.Proofs.YtbkpmfjfpcoehaaGreatDoor
open Go Go.ChangeShapes Go.WideShapes Go.ChangeAt Go.RowKit
set_option maxRecDepth 100000
theorem L4{s:ChangeSpec}(hs:s.vars=[])(hfn:∀(H:Type) (d1 d2 d3:DataW H),s.fn H [d1,d2,d3]= {results:=[.lit (.bool true)],args:=[d1,d2,d3]})
  (laidOut:laidOutB Tryz.prog=true) {H:Type} {enc:TypeId×Value→H} (W:World) (base:Nat) (args:Array Value) (ds gs:List (DataW H)) (before:List MemPlace)
  (hval:∀(j:Nat) t v,Tryz.f3.params[j]? =some t→args[j]? =some v→Value.okWide Tryz.prog W .any base t v)
  (hW:DataW.Whole enc Tryz.prog Tryz.f3.params.toList s.vars false W args.toList ds gs before)
  (L:∀w',Below W.heap.size W w'→Calls Tryz.prog 4 #[] w' fun e w''=>e= .returned (.bool true)∧Below w'.heap.size w' w''):
  Calls Tryz.prog 3 args W fun e W'=>∃v,e= .returned v∧s.post enc Tryz.prog Tryz.f3 false true false false W args v W':=by
 obtain⟨n,vars,fn⟩:=s;simp only at hs hfn hW;subst hs;have hW':=hW;obtain⟨p,q,hA0,hV,rfl,_,_⟩:=hW;have hA:DataW.TrodAll enc Tryz.prog W 0 (fun _=>true) true Tryz.f3.params.toList args.toList ds p:=hA0;rw[Tryz.params3]at hA hval;obtain⟨v0,v1,v2,d0,d1,d2,p0,p1,p2,rfl,rfl,rfl,h0,h1,h2⟩:=trodAll_three hA;obtain⟨rfl,rfl⟩:=trodVars_none hV;have hv:=hval 0 26 v0 rfl rfl;unfold Value.okWide at hv;rw[Tryz.underlying26]at hv;obtain⟨us,rfl, -, -⟩:=hv;obtain⟨f,rfl⟩:=okWide_int Tryz.underlying27 (hval 1 27 v1 rfl rfl);obtain⟨t,rfl⟩:=okWide_int Tryz.underlying27 (hval 2 27 v2 rfl rfl);obtain⟨fuel,hf⟩:=h0;obtain⟨c,hw,hu⟩:=Dg (w:=W) (us:=us) hf;refine(As c f t hw W _ hu L).mono fun e W' ⟨he,hb⟩=>?_;subst he;have hlt:∀x∈p0++p1++p2,x.block<W.heap.size:=fun x hx=>by
  have:=hW'.lt x (List.mem_append_left _ hx);simpa using this
 refine⟨_,rfl,_,_,_,[],p0++(p1++p2),[],hW',?_,?_,?_,hb.frame _,fun h=>by cases h⟩
 ·show DataW.TrodAll _ _ _ _ _ _ _ _ (fn H [d0,d1,d2]).results []
  rw[hfn];exact trodAll_mk1 (shut_bool Tryz.underlying4 _)
 ·show DataW.TrodAll _ _ _ _ _ _ _ _ (fn H [d0,d1,d2]).args _
  rw[hfn];exact trodAll_mk3 (Below.trod laidOut (by kernel_rfl) (bo (by kernel_rfl)) ⟨fuel,hf⟩ hb fun x hx=>hlt x (by simp[hx]))
   (Below.trod laidOut (by kernel_rfl) (bo (by kernel_rfl)) h1 hb fun x hx=>hlt x (by simp[hx]))
   (Below.trod laidOut (by kernel_rfl) (bo (by kernel_rfl)) h2 hb fun x hx=>hlt x (by simp[hx]))
 ·show DataW.TrodVars _ _ _ _ [] (fn H [d0,d1,d2]).vars []
  rw[hfn];rfl
end Go.Proofs.YtbkpmfjfpcoehaaGreatDoor
