/- Data of a call, and rules for code over it. No condition. -/
import Derived.Test.YtbkpmfjfpcoehaaGreatDoorDc
namespace Go.Proofs.YtbkpmfjfpcoehaaGreatDoor.Dw
open Go Go.RowKit
set_option maxRecDepth 100000
section
section
variable {P:Program} {base:Nat} {E M:Nat→Prop} {w0 w w':World} {β β':K3} {st s s':St} {a:Act} {ty:TypeId→Option Ty} {spec:Spec} {n:Nat}
variable {W:List Nat} {ops:List Oper} {S:Nat→St} {V:Nat→EV} {U:Nat→Option (Nat×OB)}
theorem Qd(h:M1 ops=true){i j:Nat}(hij:i<j){x y:Oper}(hx:ops[i]? =some x)(hy:ops[j]? =some y)(hc:Mn ops x y=true):Zg ops i j=true:=by
 have hj:=(ah.1 hy).1;have:=(ao.1 ((ao.1 h) j (ay.2 hj))) i (ay.2 hij);rw[hx,hy]at this;simp only[hc,Bool.not_true,Bool.false_or]at this;exact this
theorem Qq{wr:List (Nat×Nat×Bool)}(h:Qb ops wr=true){i j b:Nat}{f g:Bool}(hij:i<j)(hi:(i,b,f)∈wr)(hj:(j,b,g)∈wr)(hfg:(f||g)=true):Zg ops i j=true:=by
 have:=(ao.1 ((ao.1 h) _ hj)) _ hi;have hlt:Nat.blt i j=true:=by rw[jh];exact hij
 simp only[beq_self_eq_true,Bool.not_true,Bool.false_or,hlt,hfg]at this;exact this
theorem CR(he:A6 ops=true){i j:Nat}(h:Zg ops i j=true):i<j:=by
 unfold Zg at h;have hj:j<ops.length:=by
  unfold Sim.before at h;split at h
  ·rename_i l hl;rw[Sim.YA]at hl;have:=(ah.1 hl).1;have e:(Sim.XU ops).bef.length=ops.length:=by simp[Sim.XU,Sim.O1]
   omega
  ·cases h
 have key:∀j,j<ops.length→∀i,Sim.before (Sim.XU ops) i j=true→i<j:=by
  intro j
  induction j using Nat.strongRecOn with
  |_ j ih=>
   intro hj i hb;have ho:=aa hj;obtain⟨e,he1,he2,he3⟩:=Sim.Un ho hb;have hok:Sim.J8 ops[j].after.toList j=true:=by
    have:=(ao.1 he) j (ay.2 hj);rw[ho]at this;exact this
   have hlt:=Sim.Gl hok e he1 he2;rcases he3 with he3|he3
   ·omega
   ·have:=ih e.on hlt (by omega) i he3;omega
 exact key j hj i h
theorem MZ(hrun:Run ty spec W ops S V U)(ht:M1 ops=true){_L D _r:List Nat}{j:Nat}{o:Oper}(ho:ops[j]? =some o)(hjD:j∉D)(hpre:∀i,i<ops.length→Zg ops i j=true→i∈D)(hpost:∀i∈D,Zg ops j i=false)
  (A:Ba ops W S U D s) {t:Nat} (htt:t∈tmpsOf ops o):look s.env t=look (S j).env t:=by
 obtain⟨m,hm,hiff,heq⟩:=A.env t;have hjl:=(ah.1 ho).1;rw[heq];have hcl1:∀i x,ops[i]? =some x→x.dst=some t→i<j→i∈D:=by
  intro i x hx hd hij;refine hpre i (by omega) (Qd ht hij hx ho ?_);unfold Mn;rw[hd];have:(tmpsOf ops o).contains t=true:=by simpa using htt
  simp;exact .inl (.inl htt)
 have hcl2:∀i x,ops[i]? =some x→x.dst=some t→j<i→i∉D:=by
  intro i x hx hd hij hin;have:=Qd ht hij ho hx (by
   unfold Mn;rw[hd];cases o.dst<;>simp[htt])
  rw[hpost i hin]at this;cases this
 rcases Nat.le_total m j with h|h
 ·refine(PN hrun h (by omega) fun i x h1 h2 hx hd=>?_).symm;have:=(hiff i x hx hd).1 (hcl1 i x hx hd h2);omega
 ·refine PN hrun h hm fun i x h1 h2 hx hd=>?_;have hin:=(hiff i x hx hd).2 h2;rcases bn h1 with h3|h3
  ·subst h3;exact hjD hin
  ·exact hcl2 i x hx hd h3 hin
theorem Be(hrun:Run ty spec W ops S V U){wr:List (Nat×Nat×Bool)}(hwr:∀k b ob,k<ops.length→U k=some (b,ob)→(k,b,true)∈wr)(hcf:Qb ops wr=true){D:List Nat}{j:Nat}(hjl:j<ops.length)(hjD:j∉D)
  (hpre:∀i,i<ops.length→Zg ops i j=true→i∈D) (hpost:∀i∈D,Zg ops j i=false) (A:Ba ops W S U D s) {b:Nat} {f:Bool} (hu:(j,b,f)∈wr):look s.H b=look (S j).H b:=by
 obtain⟨m,hm,hiff,heq⟩:=A.obj b;rw[heq];have hcl1:∀i ob',i<ops.length→U i=some (b,ob')→i<j→i∈D:=fun i ob' hi hx hij=>hpre i hi (Qq hcf hij (hwr i b ob' hi hx) hu rfl);have hcl2:∀i ob',i<ops.length→U i=some (b,ob')→j<i→i∉D:=by
  intro i ob' hi hx hij hin;have:=Qq hcf hij hu (hwr i b ob' hi hx) (by simp);rw[hpost i hin]at this;cases this
 rcases Nat.le_total m j with h|h
 ·refine(PM hrun h (by omega) fun i ob' h1 h2 hx=>?_).symm;have:=(hiff i ob' (by omega) hx).1 (hcl1 i ob' (by omega) hx h2);omega
 ·refine PM hrun h hm fun i ob' h1 h2 hx=>?_;have hin:=(hiff i ob' (by omega) hx).2 h2;rcases bn h1 with h3|h3
  ·subst h3;exact hjD hin
  ·exact hcl2 i ob' (by omega) hx h3 hin
theorem Er{o:Oper}(h:∀t,t∈tmpsOf ops o→look s.env t=look s'.env t):∀x,x∈o.op.operands→evO s x=evO s' x:=by
 intro x hx;cases x with
 |tmp t=>
  simp only[evO];refine h t (co.2 (.inl (List.mem_filterMap.2 ⟨.tmp t,by simpa using hx,rfl⟩)))
 |_=>rfl
theorem Hu{o:Oper}(h:∀t,t∈tmpsOf ops o→look s.env t=look s'.env t):Jf s ops o=Jf s' ops o:=by
 unfold Jf;split
 ·rfl
 ·rename_i j want hg;split
  ·rename_i g hj;split
   ·rename_i t ht;rw[h t (co.2 (.inr (by rw[hg];simp only[hj,ht];simp)))]
   ·rfl
  ·rfl
theorem Pq(hrun:Run ty spec W ops S V U)(ht:M1 ops=true){wr:List (Nat×Nat×Bool)}(hwr:∀k b ob,k<ops.length→U k=some (b,ob)→(k,b,true)∈wr)
  (hrd:∀k o b,ops[k]? =some o→rdG W ops (S k) o=some b→∃f,(k,b,f)∈wr) (hcf:Qb ops wr=true)
  {D:List Nat} {j:Nat} {o:Oper} (ho:ops[j]? =some o) (hjD:j∉D) (hpre:∀i,i<ops.length→Zg ops i j=true→i∈D) (hpost:∀i∈D,Zg ops j i=false) (A:Ba ops W S U D s):
  (∃p,MU ty spec W ops s o=some (p,V j,U j)∧p)∧Ba ops W S U (D++[j]) (Zi s o.dst (V j) (U j)):=by
 have hjl:=(ah.1 ho).1;obtain⟨p,he,hp,Y⟩:=hrun.step j o ho;have htm:∀t,t∈tmpsOf ops o→look s.env t=look (S j).env t:=fun t htt=>MZ (_L:=[]) (_r:=[]) hrun ht ho hjD hpre hpost A htt;have hmask:Qa W s.H=Qa W (S j).H:=by rw[A.msk];exact(Sh hrun (fx hjl)).symm
 refine⟨⟨p,?_,hp⟩,?_⟩
 ·unfold MU at he⊢;rw[Hu htm];split at he
  ·rename_i hg
   try simp only[hg]
   refine A5 he (Er htm) hmask (fun b ob hu=>Be hrun hwr hcf hjl hjD hpre hpost A (hwr j b ob hjl hu)) fun b hb=>?_;obtain⟨f,hf⟩:=hrd j o b ho (by unfold rdG;rw[hg];exact hb);exact Be hrun hwr hcf hjl hjD hpre hpost A hf
  ·rename_i hg;try simp only[hg]
   exact he
  ·cases he
 ·refine⟨fun t=>?_,fun b=>?_,?_⟩
  ·by_cases hd:o.dst=some t
   ·refine⟨j+1,by omega,fun i x hx hdx=>?_,?_⟩
    ·rw[co,dm];constructor
     ·rintro(h|h)
      ·rcases cp i (j+1)with g|g
       ·exact g
       ·have:=Qd ht (show j<i by omega) ho hx (by unfold Mn;rw[hd,hdx];simp);rw[hpost i h]at this;cases this
      ·omega
     ·intro h;rcases bn (fh h)with g|g
      ·exact .inr g
      ·exact .inl (hpre i (by omega) (Qd ht g hx ho (by unfold Mn;rw[hd,hdx];simp)))
    ·rw[YP,if_pos hd,Y,YP,if_pos hd]
   ·obtain⟨m,hm,hiff,heq⟩:=A.env t;refine⟨m,hm,fun i x hx hdx=>?_,?_⟩
    ·rw[co,dm,←hiff i x hx hdx];exact⟨fun h=>h.elim id fun h=>by subst h;rw[ho]at hx;injection hx with hx;subst hx;exact absurd hdx hd, .inl⟩
    ·rw[YP,if_neg hd];exact heq
  ·by_cases hu:∃ob,U j=some (b,ob)
   ·obtain⟨ob,hu⟩:=hu;refine⟨j+1,by omega,fun i ob' hi hx=>?_,?_⟩
    ·rw[co,dm];constructor
     ·rintro(h|h)
      ·rcases cp i (j+1)with g|g
       ·exact g
       ·have:=Qq hcf (show j<i by omega) (hwr j b ob hjl hu) (hwr i b ob' hi hx) rfl;rw[hpost i h]at this;cases this
      ·omega
     ·intro h;rcases bn (fh h)with g|g
      ·exact .inr g
      ·exact .inl (hpre i hi (Qq hcf g (hwr i b ob' hi hx) (hwr j b ob hjl hu) rfl))
    ·rw[VP,Y,VP,hu];simp
   ·obtain⟨m,hm,hiff,heq⟩:=A.obj b;refine⟨m,hm,fun i ob' hi hx=>?_,?_⟩
    ·rw[co,dm,←hiff i ob' hi hx];exact⟨fun h=>h.elim id fun h=>by subst h;exact absurd ⟨ob',hx⟩ hu, .inl⟩
    ·rw[VP];split
     ·rename_i c ob' hc;rw[if_neg (fun q=>by subst q;exact hu ⟨ob',hc⟩)];exact heq
     ·exact heq
  ·rw[Ew fun b ob hu=>hrun.inW j b ob hjl hu];exact A.msk
theorem Rel.same(R:Rel base E M w0 β s a.tmps w)(h1:∀t,look s'.env t=look s.env t)(h2:∀b,look s'.H b=look s.H b):∃β',Rel base E M w0 β' s' a.tmps w:=
 R.le_ ⟨fun t v h=>by rw[←h1];exact h,fun b ob h=>by rw[←h2];exact h,⟨fun t v b hv hr=>by rw[h2];rw[h1]at hv;exact R.cl.env t v b hv hr,fun k xs x b hk hx hr=>by rw[h2]at hk⊢;exact R.cl.obj k xs x b hk hx hr⟩⟩
theorem OC(C:KJ P ty)(Sp:XA P spec)(hrun:Run ty spec W ops S V U)(hd:Uj n ops=true){wr:List (Nat×Nat×Bool)}(hwr:∀k b ob,k<ops.length→U k=some (b,ob)→(k,b,true)∈wr)
  (hrd:∀k o b,ops[k]? =some o→rdG W ops (S k) o=some b→∃f,(k,b,f)∈wr) (hcf:Qb ops wr=true)
  {Q':Exit→Act→World→Prop} {df:List Deferred} (hQ:∀a' w' β',a'.defers=df→a'.tmps.size=n→Rel base E M w0 β' (S ops.length) a'.tmps w'→Q' .normal a' w') {L:List Nat}
  (hnd:L.Nodup) (hmem:∀i,i∈L↔i<ops.length) (hpw:L.Pairwise fun a b=>Zg ops b a=false):
  ∀(r D:List Nat) (s:St) (a:Act) (w:World) (β:K3),L=D++r→a.defers=df→a.tmps.size=n→Rel base E M w0 β s a.tmps w→Ba ops W S U D s→wpOps P ops.toArray Q' r a w:=by
 simp only[Uj,aj]at hd;obtain⟨hdo,htm,hed⟩:=hd;intro r
 induction r with
 |nil=>
  intro D s a w β hL hdf hn R A;rw[ez]at hL;subst hL;have h1:∀t,look (S ops.length).env t=look s.env t:=fun t=>by
   obtain⟨m,hm,hiff,heq⟩:=A.env t;rw[heq];refine PN hrun hm (ak _) fun i o g1 g2 ho hdst=>?_;have:=(hiff i o ho hdst).1 ((hmem i).2 g2);omega
  have h2:∀b,look (S ops.length).H b=look s.H b:=fun b=>by
   obtain⟨m,hm,hiff,heq⟩:=A.obj b;rw[heq];refine PM hrun hm (ak _) fun i ob g1 g2 hu=>?_;have:=(hiff i ob g2 hu).1 ((hmem i).2 g2);omega
  obtain⟨β',R'⟩:=R.same h1 h2;exact hQ a w β' hdf hn R'
 |cons j r ih=>
  intro D s a w β hL hdf hn R A;have hjl:j<ops.length:=(hmem j).1 (by rw[hL];simp);have ho:=aa hjl;have hnd':(D++j::r).Nodup:=hL▸hnd;have hpw':(D++j::r).Pairwise fun a b=>Zg ops b a=false:=hL▸hpw;have hjD:j∉D:=fun h=>(je.1 hnd').2.2 j h j br rfl;have hpre:∀i,i<ops.length→Zg ops i j=true→i∈D:=by
   intro i hi hb;have hiL:i∈D++j::r:=hL▸(hmem i).2 hi;rcases co.1 hiL with h|h
   ·exact h
   ·exfalso;rcases av.1 h with h|h
    ·subst h;have:=CR hed hb;omega
    ·have:=(ff.1 hpw').2.1;rw[dn]at this;rw[this.1 i h]at hb;cases hb
  have hpost:∀i∈D,Zg ops j i=false:=fun i hi=>(ff.1 hpw').2.2 i hi j br;obtain⟨⟨p,he,hp⟩,A'⟩:=Pq hrun htm hwr hrd hcf ho hjD hpre hpost A;have hdst:∀t,ops[j].dst=some t→t<a.tmps.size:=by rw[hn];exact Gy hdo (bb ho)
  rw[wpOps_cons];unfold wpOp;have ho':ops.toArray[j]? =some ops[j]:=by simp
  rw[ho'];simp only;have hL':L=(D++[j])++r:=by rw[hL];simp
  unfold MU at he;split at he
  ·rename_i hg;have hw:=Kq R hg;rw[if_pos hw];refine .inl (Zv C Sp (IS he hp) R hdst fun st' a' w' β' h1 h2 h3 h4=>?_);subst h1;exact ih (D++[j]) _ a' w' β' hL' (by rw[h2,hdf]) (by rw[h3,hn]) h4 A'
  ·rename_i hg;have hw:=Kq R hg;rw[if_neg (by rw[hw];simp)];simp only[ab,af]at he;obtain⟨_,hv,hu⟩:=he;rw[←hv,←hu]at A';have R':Rel base E M w0 β (Zi s ops[j].dst (.tup []) none) (a.put ops[j].dst undef).tmps w:=R.setD (v:= .tup []) hdst (.tup (us:=#[]) rfl fun i x u h=>by simp at h) fun b hb=>by cases hb with|tup h1 h2=>simp at h1
   exact ih (D++[j]) _ _ w β hL' (by rw[put_defers,hdf]) (by rw[YO,hn]) R' A'
  ·cases he
theorem Wp.drawn{Q:Uy}(C:KJ P ty)(Sp:XA P spec)(hm:P.follows .mixedOrders=true)(W:List Nat){id:Nat}{opa:Array Oper}{s:St}(hd:Uj n opa.toList=true)
  (h:V8 ty spec W opa.toList opa.toList 0 [] (fun wr st=>Qb opa.toList wr=true∧Q .normal st) s):Wp P n (.region id opa true) Q s:=by
 intro base E M w0 w β a hdf hn R;obtain⟨S,V,U,wr,s1,s2,s3,s4, -,s6⟩:=Bf _ _ _ _ h;simp only[bf]at s2 s3 s4 s6;have hrun:Run ty spec W opa.toList S V U:=⟨s3,fun k b ob hk hu=>(s4 k b ob hk hu).1⟩;refine wp_region_draw fun t=>?_;rw[hm];have hed:A6 opa.toList=true:=by simp only[Uj,aj]at hd;exact hd.2.2
 obtain⟨q1,q2,q3⟩:=Sim.Hl (ops:=opa) (fun j o ho=>by
  have hj:j<opa.toList.length:=by simpa using (aw.1 ho).1
  have:=(ao.1 hed) j (ay.2 hj);have e:opa.toList[j]? =some o:=by simpa using ho
  rw[e]at this;exact this) t
 have R':Rel base E M w0 β s a.tmps {w with drawn:=w.drawn+1}:=⟨⟨R.fr.os,R.fr.tape,R.fr.output,R.fr.size,R.fr.block⟩,R.le,fun t v hv=>by
   obtain⟨u,h1,h2⟩:=R.env t v hv;exact⟨u,h1,h2.mono (fun _ h=>h) (fun _ _=>rfl) fun _ _=>rfl⟩,fun b ob hb=>by
   obtain⟨u,h1,h2⟩:=R.obj b ob hb;exact⟨u,h1,h2.mono (fun _ h=>h) (fun _ _=>rfl) (fun _ _=>rfl) fun _ _ _ _ _ _=>rfl⟩,R.at_,R.inj,R.dom,R.cl,R.may⟩
 have A:Ba opa.toList W S U [] s:=by
  subst s1;exact⟨fun t=>⟨0,eu _,fun i o _ _=>by simp,rfl⟩,fun b=>⟨0,eu _,fun i ob _ _=>by simp,rfl⟩,rfl⟩
 have:=OC (base:=base) (E:=E) (M:=M) (w0:=w0) (n:=n) (df:=[]) (Q':=ZZ n base E M w0 Q) C Sp hrun hd (fun k b ob hk hu=>(s4 k b ob hk hu).2) s6 s2.1
  (fun a' w' β' h1 h2 h3=>⟨_,β',s2.2,h1,h2,h3⟩) q1 (fun i=>by rw[q2 i];simp) q3 _ [] s a _ β rfl hdf hn R' A
 have e:opa.toList.toArray=opa:=by simp
 rw[e]at this;exact this
theorem Wp.dk{Q:Uy}(C:KJ P ty)(Sp:XA P spec)(hm:P.follows .mixedOrders=true)(W:List Nat){id:Nat}{opa:Array Oper}{y:Code}(hd:Uj n opa.toList=true)
  (h:∀K:St→Prop,(∀st,Wp P n y Q st→K st)→V8 ty spec W opa.toList opa.toList 0 [] (fun wr st=>Qb opa.toList wr=true∧K st) s):Wp P n (.seq (.region id opa true) y) Q s:=
 Wp.seq (Wp.drawn C Sp hm W hd (h _ fun _ h=>h))
theorem Wp.dl{Q:Uy}(C:KJ P ty)(Sp:XA P spec)(hm:P.follows .mixedOrders=true)(W:List Nat){id:Nat}{opa:Array Oper}(hd:Uj n opa.toList=true)
  (h:∀K:St→Prop,(∀st,Q .normal st→K st)→V8 ty spec W opa.toList opa.toList 0 [] (fun wr st=>Qb opa.toList wr=true∧K st) s):Wp P n (.region id opa true) Q s:=
 Wp.drawn C Sp hm W hd (h _ fun _ h=>h)
end
end
section
def Lp(x:Cx):List Nat:=match x with| .own b| .map b| .ptr b _=>[b]|_=>[]
def Nv:EV→Option (List Nat)
 | .one x=>some (Lp x)
 | .agg xs=>some (xs.flatMap Lp)
 | .ep _ _ _ _=>some []
 | .rp b _ _ _=>some [b]
 | .any=>some []
 | .tup _=>none
def Nu:EV→Option (List Nat)
 | .tup l=>l.foldr (fun v r=>match Nv v,r with|some a,some b=>some (a++b)|_,_=>none) (some [])
 |v=>Nv v
theorem PV{x:Cx}{b:Nat}(h:refs x=some b):b∈Lp x:=by cases x<;>simp_all[refs,Lp]
theorem Qf{v:EV}{l:List Nat}(h:Nv v=some l){b:Nat}(hb:XR v b):b∈l:=by
 cases v with
 |one x=>injection h with h;subst h;cases hb with|one hb=>exact PV hb
 |agg xs=>injection h with h;subst h;cases hb with|agg hm hb=>exact List.mem_flatMap.2 ⟨_,hm,PV hb⟩
 |tup l=>cases h
 |ep=>cases hb
 |rp c e i o=>injection h with h;subst h;cases hb;simp
 |any=>cases hb
theorem Nt{v:EV}{l:List Nat}(h:Nu v=some l){b:Nat}(hb:XR v b):b∈l:=by
 cases v with
 |tup vs=>
  simp only[Nu]at h;cases hb with| @tup _ x _ hm hb=>
  induction vs generalizing l with
  |nil=>cases hm
  |cons v vs ih=>
   simp only[List.foldr_cons]at h;split at h
   ·rename_i a c ha hc;injection h with h;subst h;rcases av.1 hm with hm|hm
    ·subst hm;exact List.mem_append_left _ (Qf ha hb)
    ·exact List.mem_append_right _ (ih hc hm)
   ·cases h
 |one x=>exact Qf (v:= .one x) h hb
 |agg xs=>exact Qf (v:= .agg xs) h hb
 |ep=>cases hb
 |rp c e i o=>exact Qf (v:= .rp c e i o) h hb
 |any=>cases hb
theorem VO{α:Type}{l:List (Nat×α)}{t:Nat}{v:α}(h:look l t=some v):(t,v)∈l:=by
 induction l with
 |nil=>cases h
 |cons p r ih=>
  obtain⟨k,x⟩:=p;simp only[look]at h;split at h
  ·rename_i hk;injection h with h;subst hk;subst h;exact br
  ·exact bc _ (ih h)
def inH(H:List (Nat×OB))(l:Option (List Nat)):Prop:=match l with|some l=>∀b∈l,(look H b).isSome=true|none=>False
def Dj:OB→List Nat
 | .box xs=>xs.flatMap Lp
 |_=>[]
theorem Go1{s s':St}(h1:∀p∈s'.env,look s.env p.1=some p.2)(h2:∀p∈s'.H,look s.H p.1=some p.2)(h3:∀p∈s'.env,inH s'.H (Nu p.2))(h4:∀p∈s'.H,inH s'.H (some (Dj p.2))):Gh s s':=by
 refine .le ⟨fun t v h=>h1 (t,v) (VO h),fun b ob h=>h2 (b,ob) (VO h),⟨fun t v b h hr=>?_,fun k xs x b h hx hr=>?_⟩⟩
 ·have:=h3 (t,v) (VO h);unfold inH at this;split at this
  ·rename_i l hl;have:=this b (Nt hl hr);intro q;rw[q]at this;cases this
  ·exact this.elim
 ·have:=h4 (k, .box xs) (VO h) b (by exact List.mem_flatMap.2 ⟨x,hx,PV hr⟩);intro q;rw[q]at this;cases this
def Xj(xs:List Int):List (List Cv):=xs.map fun x=>[.sc (.int .i64 x)]
theorem Xg(xs:List Int):(Xj xs).length=xs.length:=by simp[Xj]
theorem wrap_small{n:Int}(h1:0≤n)(h2:n≤4611686018427387904):IntKind.i64.wrap n=n:=by
 simp only[IntKind.wrap,IntKind.bits,IntKind.signed];simp;omega
theorem Uh(v:Cv)(b:Nat):XR (.one (.c v)) b↔False:=⟨fun h=>no_refs h,False.elim⟩
theorem FM(xs:List Cv)(b:Nat):XR (.agg (xs.map Cx.c)) b↔False:=⟨fun h=>by cases h with|agg hm hr=>exact Vt hm hr,False.elim⟩
theorem RO(b:Nat):XR (.agg []) b↔False:=⟨fun h=>(by cases h with|agg hm hr=>cases hm),False.elim⟩
theorem UV(v:Cv)(xs:List Cx)(b:Nat):XR (.agg (.c v::xs)) b↔XR (.agg xs) b:=
 ⟨fun h=>by
  cases h with|agg hm hr=>
  rcases av.1 hm with hm|hm
  ·subst hm;cases hr
  ·exact .agg hm hr,fun h=>by cases h with|agg hm hr=>exact .agg (bc _ hm) hr⟩
theorem RN(b:Nat):XR (.tup []) b↔False:=⟨fun h=>(by cases h with|tup hm hr=>cases hm),False.elim⟩
theorem UU(v:EV)(l:List EV)(b:Nat):XR (.tup (v::l)) b↔XR v b∨XR (.tup l) b:=
 ⟨fun h=>by
  cases h with|tup hm hr=>
  rcases av.1 hm with hm|hm
  ·subst hm;exact .inl hr
  ·exact .inr (.tup hm hr),fun h=>by
   rcases h with h|h
   ·exact .tup br h
   ·cases h with|tup hm hr=>exact .tup (bc _ hm) hr⟩
theorem Xf{xs:List Int}{i:Nat}(h:i<(Xj xs).length):(Xj xs)[i]'h=[.sc (.int .i64 (xs[i]'(by simpa[Xj]using h)))]:=by simp[Xj]
section
variable {P:Program} {n:Nat} {Q:Uy} {s:St}
theorem Wp.condT{c:Operand}{x y:Code}(hc:evO s c=some (bv true))(h:Wp P n x Q s):Wp P n (.cond c x y) Q s:=Wp.cond hc (fun _=>h) (fun h=>by cases h)
theorem Wp.condF{c:Operand}{x y:Code}(hc:evO s c=some (bv false))(h:Wp P n y Q s):Wp P n (.cond c x y) Q s:=Wp.cond hc (fun h=>by cases h) (fun _=>h)
end
section
variable {ty:TypeId→Option Ty} {t:TypeId} {T:Ty}
def NH(ty:TypeId→Option Ty)(d:TypeDesc):Option (List (Nat×Nat)):=match d with| .struct fs=>QJ ty fs.toList|_=>none
def fO(ty:TypeId→Option Ty)(d:TypeDesc):Option (List (Nat×Nat)):=match d with| .struct fs=>bW ty fs.toList|_=>none
theorem AZ{l:List (Nat×Nat)}(hT:ty t=some T)(he:T.eq=true)(hl:fO ty T.desc=some l)(xs ys:List Cx):eqE ty t xs ys=Ox xs ys l:=by
 unfold eqE;unfold fO at hl;rw[hT];simp only[he,if_true];split at hl
 ·simp_all
 ·cases hl
def J0(T:Ty)(pl:Nat→Option (Nat×Nat))(ps:List (Nat×EV)):Option (Prop×EV):=match UR pl (T.zero.map Cx.c) ps with|some (p,xs)=>some (p, .agg xs)|none=>none
theorem JL{pl:List (Nat×Nat)}(hT:ty t=some T)(hl:NH ty T.desc=some pl)(ps:List (Nat×EV)):Jn ty t ps=J0 T (fun i=>pl[i]?) ps:=by
 unfold Jn J0;unfold NH at hl;rw[hT];split at hl
 ·rename_i fs hd;simp only[hd,hl];rfl
 ·cases hl
theorem Pv{n el:Nat}{Te:Ty}(hT:ty t=some T)(hd:T.desc= .array n el)(he:ty el=some Te)(ps:List (Nat×EV)):Jn ty t ps=J0 T (fun i=>some (i*Te.size,Te.size)) ps:=by
 unfold Jn J0;rw[hT];simp only[hd,he];rfl
end
section
variable {P:Program} {s:Spec}
def HH:Spec:=fun _ _=>none
theorem Xb:XA P HH:=fun f vs p r h=>by cases h
def Xo(n:Nat)(g:List EV→Option (Prop×Yw))(s:Spec):Spec:=fun f vs=>if f=n then g vs else s f vs
theorem Xp{n:Nat}{g:List EV→Option (Prop×Yw)}(hf:nD P n)(hg:∀vs p r,g vs=some (p,r)→p→Xq P n vs r)(hs:XA P s):XA P (Xo n g s):=by
 intro f vs p r h;unfold Xo at h;split at h
 ·rename_i e;subst e;exact⟨hf,hg vs p r h⟩
 ·exact hs f vs p r h
end
abbrev iV(k:IntKind)(n:Int):EV:= .one (.c (.sc (.int k n)))
abbrev bV(b:Bool):EV:= .one (.c (.sc (.bool b)))
abbrev sV(z:Bool)(n:Nat)(els:List (List Cv)):EV:= .one (.c (.sl z n els))
def unI:List (List Cv)→Option (List Int)
 |[]=>some []
 |[.sc (.int .i64 n)]::r=>(match unI r with|some l=>some (n::l)|none=>none)
 |_=>none
theorem Xa(xs:List Int):unI (Xj xs)=some xs:=by
 induction xs with
 |nil=>rfl
 |cons a r ih=>simp only[Xj,ft,unI]at*;rw[ih]
theorem Yz{els:List (List Cv)}{xs:List Int}(h:unI els=some xs):els=Xj xs:=by
 induction els generalizing xs with
 |nil=>injection h with h;subst h;rfl
 |cons a r ih=>
  unfold unI at h;split at h
  ·rename_i e;cases e
  ·rename_i n r' e;injection e with e1 e2;subst e1;subst e2;split at h
   ·rename_i l hl;injection h with h;subst h;rw[ih hl];rfl
   ·cases h
  ·cases h
end
section
section
variable {P:Program} {base:Nat} {E M:Nat→Prop} {w0 w w':World} {β β':K3} {st:St} {tm:Array Value} {n:Nat} {Q:Uy}
def fzV(b:Nat)(cs:List Cv):EV→EV
 | .one (.ptr c off)=>if c=b then(if 0<cs.length then .ep cs.length [cs] 0 off else .any)else .one (.ptr c off)
 |v=>v
def DO(b:Nat)(cs:List Cv)(st:St):St:={env:=B3 (fzV b cs) st.env,H:=del b st.H}
def lM(b:Nat):EV→Bool
 | .one (.ptr _ _)=>true
 | .one x=>Gz b x
 | .agg xs=>xs.all (Gz b)
 | .tup l=>l.all (Ps b)
 | .ep _ _ _ _=>true
 | .rp c _ _ _=>!(c==b)
 | .any=>true
def tA(b:Nat):OB→Bool
 | .box xs=>xs.all (Gz b)
 |_=>true
def lL(b:Nat)(st:St):Bool:=st.env.all (fun p=>lM b p.2)&&st.H.all (fun p=>p.1==b||tA b p.2)
theorem Rel.frzBox(R:Rel base E M w0 β st tm w){b:Nat}{cs:List Cv}(hb:look st.H b=some (.box (cs.map Cx.c)))(hok:lL b st=true):Rel base E M w0 (less β b) (DO b cs st) tm w:=by
 obtain⟨u,hu,ho⟩:=R.obj b _ hb;obtain⟨g,arr,t,rfl,hg,ha⟩:=ho;simp only[lL,aj]at hok;obtain⟨okE,okH⟩:=hok;have hN:∀g,XP M w β g→XP M w (less β b) g:=fun g hg=>⟨hg.1,fun c u' hc=>by
  unfold less at hc;split at hc
  ·cases hc
  ·exact hg.2 c u' hc⟩
 have hbl:XP M w (less β b) g:=⟨⟨(aw.1 hg).1,R.may g (R.at_ b _ g hu rfl).1⟩,fun c u' hc=>by
  unfold less at hc;split at hc
  ·cases hc
  ·rename_i hne;exact fun h=>hne (R.inj c b u' _ g hc hu h rfl)⟩
 have hlk:∀c,look (DO b cs st).H c=if c=b then none else look st.H c:=fun c=>Rk b st.H c
 have hle:∀c,c≠b→less β b c=β c:=fun c hc=>if_neg hc;have hep:∀off,0<cs.length→XY w (XP M w (less β b)) (less β b) (.ep cs.length [cs] 0 off) (.pointer (some ⟨g,off,none⟩)):=by
  intro off hpos;have hs:XH w (XP M w (less β b)) (.sl false cs.length [cs]) (.slice (some ⟨g,0,none⟩) 1 1):=by
   have hc1:∀(i j:Nat) (c:Cv),cellAt [cs] i j=some c→i=0∧cs[j]? =some c:=by
    intro i j c h;unfold cellAt at h;cases i with
    |zero=>exact⟨rfl,by simpa using h⟩
    |succ i=>simp at h
   have hc2:∀(j:Nat) (c:Cv),cs[j]? =some c→∃x,arr[j]? =some x∧XH w (XP M w β) c x:=by
    intro j c hj;obtain⟨x,hx,hr⟩:=ha.get (i:=j) (x:=Cx.c c) (by simp[hj]);exact⟨x,by simpa using hx,hr⟩
   refine .sl (fun _ j=>arr.getD j undef) rfl (ak _) (fun i es h=>?_) (fun i j c h=>?_) (fun i j c h=>?_)
   ·cases i with
    |zero=>simp at h;subst h;rfl
    |succ i=>simp at h
   ·obtain⟨rfl,hj⟩:=hc1 i j c h;obtain⟨x,hx,_⟩:=hc2 j c hj;refine⟨hbl,?_⟩;rw[DB,EB hg];simp[hx]
   ·obtain⟨rfl,hj⟩:=hc1 i j c h;obtain⟨x,hx,hr⟩:=hc2 j c hj;have:arr.getD j undef=x:=by simp[hx]
    rw[this];exact hr.mono hN fun _ _=>rfl
  have:=XY.ep (w:=w) (N:=XP M w (less β b)) (β:=less β b) (i:=0) (off:=off) hs (by simp);rw[DB]at this;simpa using this
 have hV:∀t v u,look st.env t=some v→XY w (XP M w β) β v u→XY w (XP M w (less β b)) (less β b) (fzV b cs v) u∧∀c,XR (fzV b cs v) c→look (DO b cs st).H c≠none:=by
  intro t v u hv hr;have hcl:lM b v=true:=(ao.1 okE) (t,v) (VO hv);have stay:¬XR v b→XY w (XP M w (less β b)) (less β b) v u∧∀c,XR v c→look (DO b cs st).H c≠none:=fun hn=>
   ⟨hr.mono hN (fun p _=>rfl) fun c hc=>hle c (fun q=>hn (q▸hc)),fun c hc=>by rw[hlk,if_neg (fun(q:c=b)=>hn (q▸hc))];exact R.cl.env t v c hv hc⟩
  have clean:∀v,Ps b v=true→¬XR v b:=by
   intro v hcl hrr;cases v with
   |one x=>cases hrr with|one h=>exact YV hcl h
   |agg xs=>cases hrr with|agg hm h=>exact YV ((ao.1 hcl) _ hm) h
   |_=>cases hcl
  unfold fzV;split
  ·rename_i c off;by_cases hcb:c=b
   ·subst hcb;rw[if_pos rfl];cases hr with|one hx=>
    obtain⟨g',h1,rfl⟩:=hx;rw[hu]at h1;injection h1 with h1;injection h1 with h1;injection h1 with h1;injection h1 with h1;subst h1;split
    ·rename_i hpos;exact⟨hep off hpos,fun c hc=>by cases hc⟩
    ·exact⟨.any,fun c hc=>by cases hc⟩
   ·rw[if_neg hcb];exact stay fun h=>by cases h with|one h=>injection h with h;exact hcb h
  ·rename_i hno;refine stay fun h=>?_;cases v with
   |one x=>
    cases h with|one h=>
    cases x with
    |ptr c off=>exact hno c off rfl
    |c v=>cases h
    |own c=>exact YV (show Gz b (.own c)=true from hcl) h
    |map c=>exact YV (show Gz b (.map c)=true from hcl) h
    |dead=>cases h
   |agg xs=>cases h with|agg hm h=>exact YV ((ao.1 hcl) _ hm) h
   |tup l=>cases h with|tup hm h=>exact clean _ ((ao.1 hcl) _ hm) h
   |ep=>cases h
   |rp c esz i off=>cases h;simp[lM]at hcl
   |any=>cases h
 have hE:∀t v,look (DO b cs st).env t=some v→∃v0,look st.env t=some v0∧fzV b cs v0=v:=by
  intro t v hv;simp only[DO,Vw,gd]at hv;exact hv
 refine⟨R.fr,R.le,fun t v hv=>?_,fun c o hc=>?_,fun c u' g hc hg=>?_,fun c d u1 u2 g h1 h2 g1 g2=>?_,fun c u' hc=>?_,⟨fun t v c hv hr=>?_,fun k xs x c hk hx hr=>?_⟩,R.may⟩
 ·obtain⟨v0,h1,rfl⟩:=hE t v hv;obtain⟨y,hy,hr⟩:=R.env t v0 h1;exact⟨y,hy,(hV t v0 y h1 hr).1⟩
 ·rw[hlk]at hc;split at hc
  ·cases hc
  ·rename_i hcb;obtain⟨y,hy,hr⟩:=R.obj c o hc;refine⟨y,by rw[hle c hcb];exact hy,hr.mono hN (fun p _=>rfl) (fun _ _=>rfl) fun xs x d hxs hx hd=>hle d fun q=>?_⟩;subst hxs;subst q;have:=(ao.1 okH) (c, .box xs) (VO hc);simp only[jc,beq_iff_eq]at this;rcases this with h|h
   ·exact hcb h
   ·exact YV ((ao.1 h) _ hx) hd
 ·unfold less at hc;split at hc
  ·cases hc
  ·exact R.at_ c u' g hc hg
 ·unfold less at h1 h2;split at h1
  ·cases h1
  ·split at h2
   ·cases h2
   ·exact R.inj c d u1 u2 g h1 h2 g1 g2
 ·unfold less at hc;split at hc
  ·cases hc
  ·rename_i hcb;rw[hlk,if_neg hcb];exact R.dom c u' hc
 ·obtain⟨v0,h1,rfl⟩:=hE t v hv;obtain⟨y,hy,hr'⟩:=R.env t v0 h1;exact(hV t v0 y h1 hr').2 c hr
 ·rw[hlk]at hk;split at hk
  ·cases hk
  ·rename_i hkb;rw[hlk,if_neg ?_]
   ·exact R.cl.obj k xs x c hk hx hr
   ·rintro rfl;have:=(ao.1 okH) (k, .box xs) (VO hk);simp only[jc,beq_iff_eq]at this;rcases this with h|h
    ·exact hkb h
    ·exact YV ((ao.1 h) _ hx) hr
theorem Wp.frzBox{c:Code}{s:St}{b:Nat}{cs:List Cv}(hb:look s.H b=some (.box (cs.map Cx.c)))(hok:lL b s=true)(h:Wp P n c Q (DO b cs s)):Wp P n c Q s:=by
 intro base E M w0 w β a hd hn R;exact h hd hn (R.frzBox hb hok)
end
end
section
section
variable {P:Program}
theorem KC{f:FuncId}{vs:List EV}{z:Bool}{t:TypeId}{esz:Nat}{els:List (List Cv)}(h:Xq P f vs (.row z t esz els)):Xq P f vs (.val (.one (.c (.sl z esz els)))):=by
 intro M w us hM hu;refine(h M w us hM hu).mono ?_;rintro e w' ⟨u,rfl,hb,hr⟩;refine⟨u,rfl,hb,?_⟩;obtain⟨⟨cells,o1,o3⟩,o2⟩:=hr
 show XY w' _ noB _ u
 refine .one ?_
 show XH w' _ _ u
 rcases o1.2 with⟨rfl,h0⟩|⟨g,cap,cur,rfl,hge,hg,hn, -⟩
 ·have:els=[]:=cn h0;subst this;have:z=true:=o2.2 rfl;subst this;exact .nil
 ·have hzf:z=false:=by
   cases hz:z with
   |false=>rfl
   |true=>have:=o2.1 hz;cases this
  subst hzf;have hbl:g<w'.heap.size∧M g:=⟨(aw.1 hg).1,hM g hge⟩;refine .sl (fun i j=>cells.getD (i*esz+j) undef) rfl hn o3.el (fun i j c hc=>?_) (fun i j c hc=>?_)
  ·obtain⟨x,h1,h2⟩:=o3.rel i j c hc;refine⟨hbl,?_⟩;rw[o1.cells rfl _ _ h1,ac,h1];rfl
  ·obtain⟨x,h1,h2⟩:=o3.rel i j c hc;rw[ac,h1];exact h2.mono (fun g hg=>hg.1) fun p _=>rfl
end
end
section
section
variable {P:Program} {base:Nat} {E M:Nat→Prop} {w0 w:World} {β:K3} {st s:St} {a:Act} {ty:TypeId→Option Ty} {spec:Spec} {n:Nat} {Q:Uy}
def kB(F:List Nat)(d:Option Nat)(s:St):St:=match d with
 |some d=>if d∈F then(match look s.H d with|some (.row z _ esz els)=>Vx d (.sl z esz els) s|_=>s)else s
 |none=>s
theorem Wj{F:List Nat}{d:Option Nat}{tm:Array Value}(R:Rel base E M w0 β s tm w):∃β',Rel base E M w0 β' (kB F d s) tm w:=by
 unfold kB;split
 ·split
  ·split
   ·rename_i hb;exact⟨_,(R.freeze hb).1⟩
   ·exact⟨β,R⟩
  ·exact⟨β,R⟩
 ·exact⟨β,R⟩
def bP(e:Nat):Cx→Cx
 | .c (.sl true _ [])=> .c (.sl true e [])
 |x=>x
def lO(e:Nat):EV→EV
 | .agg xs=> .agg (xs.map (bP e))
 | .one x=> .one (bP e x)
 |v=>v
theorem Iv{N:Nat→Prop}{e:Nat}{x:Cx}{u:Value}(h:Yq w N β x u):Yq w N β (bP e x) u:=by
 unfold bP;split
 ·have h':XH w N (.sl true _ []) u:=h;cases h';exact(XH.nil:XH w N (.sl true e []) _)
 ·exact h
theorem BR{e:Nat}{x:Cx}:refs (bP e x)=refs x:=by unfold bP;split<;>rfl
theorem SE{N:Nat→Prop}{e:Nat}{v:EV}{u:Value}(h:XY w N β v u):XY w N β (lO e v) u∧∀b,XR (lO e v) b→XR v b:=by
 cases h with
 |one h=>exact⟨.one (Iv h),fun b hb=>by cases hb with|one hb=>rw[BR]at hb;exact .one hb⟩
 | @agg xs us h=>
  refine⟨.agg ⟨by simpa using h.1,fun i x y hx hy=>?_⟩,fun b hb=>?_⟩
  ·rw[an]at hx;cases hq:xs[i]? with
   |none=>rw[hq]at hx;cases hx
   |some x0=>rw[hq]at hx;injection hx with hx;subst hx;exact Iv (h.2 i x0 y hq hy)
  ·cases hb with
   |agg hm hr=>
    rw[cy]at hm;obtain⟨x0,h0,rfl⟩:=hm;rw[BR]at hr;exact .agg h0 hr
 |tup hl h=>exact⟨.tup hl h,fun b hb=>hb⟩
 |ep hs hi=>exact⟨.ep hs hi,fun b hb=>hb⟩
 |rp hb=>exact⟨.rp hb,fun b hb=>hb⟩
 |any=>exact⟨.any,fun b hb=>hb⟩
def jT(L:List (Nat×Nat))(d:Option Nat)(s:St):St:=match d with
 |some d=>(match look L d with
  |some e=>(match look s.env d with|some v=>{s with env:=put s.env d (lO e v)}|none=>s)
  |none=>s)
 |none=>s
theorem SF{L:List (Nat×Nat)}{d:Option Nat}{tm:Array Value}(R:Rel base E M w0 β s tm w):Rel base E M w0 β (jT L d s) tm w:=by
 unfold jT;split
 ·rename_i d;split
  ·rename_i e he;split
   ·rename_i v hv;obtain⟨u,hu,hr⟩:=R.env d v hv;obtain⟨k1,k2⟩:=SE (e:=e) hr;refine⟨R.fr,R.le,fun t v' hv'=>?_,R.obj,R.at_,R.inj,R.dom,⟨fun t v' b hv' hb=>?_,R.cl.obj⟩,R.may⟩
    ·simp only[X1]at hv';split at hv'
     ·rename_i ht;subst ht;injection hv' with hv';subst hv';exact⟨u,hu,k1⟩
     ·exact R.env t v' hv'
    ·simp only[X1]at hv';split at hv'
     ·injection hv' with hv';subst hv';exact R.cl.env d v b hv (k2 b hb)
     ·exact R.cl.env t v' b hv' hb
   ·exact R
  ·exact R
 ·exact R
def S5(F:List Nat)(L:List (Nat×Nat))(d:Option Nat)(s:St):St:=kB F d (jT L d s)
theorem Oe{F:List Nat}{L:List (Nat×Nat)}{d:Option Nat}{tm:Array Value}(R:Rel base E M w0 β s tm w):∃β',Rel base E M w0 β' (S5 F L d s) tm w:=Wj (SF R)
def CA(ty:TypeId→Option Ty)(spec:Spec)(F:List Nat)(L:List (Nat×Nat))(ops:List Oper):List Oper→(St→Prop)→St→Prop
 |[],Q,st=>Q st
 |o::r,Q,st=>match Jf st ops o with
  |some true=>V5 ty spec st o (fun s=>CA ty spec F L ops r Q (S5 F L o.dst s))
  |some false=>CA ty spec F L ops r Q (setD st o.dst (.tup []))
  |none=>False
theorem Se(C:KJ P ty)(S:XA P spec){F:List Nat}{L:List (Nat×Nat)}{ops:List Oper}{Q:St→Prop}{Q':Exit→Act→World→Prop}{n:Nat}{df:List Deferred}(hops:JZ n ops=true)
  (hQ:∀st' a' w' β',Q st'→a'.defers=df→a'.tmps.size=n→Rel base E M w0 β' st' a'.tmps w'→Q' .normal a' w'):
  ∀(r:List Oper) (k:Nat) (st:St) (a:Act) (w:World) (β:K3),ops.drop k=r→a.defers=df→a.tmps.size=n→Rel base E M w0 β st a.tmps w→CA ty spec F L ops r Q st→wpOps P ops.toArray Q' (List.range' k r.length) a w:=by
 intro r
 induction r with
 |nil=>
  intro k st a w β hk hdf hn R h;exact hQ st a w β h hdf hn R
 |cons o r ih=>
  intro k st a w β hk hdf hn R h;have hok:ops[k]? =some o:=by
   have:(ops.drop k)[0]? =some o:=by rw[hk];rfl
   simpa using this
  have hk':ops.drop (k+1)=r:=by
   have:(ops.drop k).drop 1=r:=by rw[hk];rfl
   simpa[Nat.add_comm]using this
  have hdst:=Gy hops (bb hok);rw[cm,gy,wpOps_cons];unfold wpOp;have hok':ops.toArray[k]? =some o:=by simpa using hok
  rw[hok'];simp only;simp only[CA]at h;split at h
  ·rename_i hc;have hw:=Kq R hc
   ·rw[if_pos hw];refine .inl (Zv C S h R (by rw[hn];exact hdst) fun st' a' w' β' h1 h2 h3 h4=>?_);obtain⟨β2,R2⟩:=Oe (F:=F) (L:=L) (d:=o.dst) h4;exact ih (k+1) _ a' w' β2 hk' (by rw[h2,hdf]) (by rw[h3,hn]) R2 h1
  ·rename_i hc;have hw:=Kq R hc
   ·rw[if_neg (by rw[hw];simp)];exact ih (k+1) _ _ w β hk' (by rw[put_defers,hdf]) (by rw[YO,hn]) (R.setD (by rw[hn];exact hdst) (.tup (us:=#[]) rfl fun i x u h=>by simp at h) fun b hb=>by cases hb with|tup h1 h2=>simp at h1) h
  ·exact h.elim
theorem Wp.regionF(C:KJ P ty)(S:XA P spec)(F:List Nat)(L:List (Nat×Nat)){id:Nat}{ops:Array Oper}{s:St}(ho:JZ n ops.toList=true)(h:CA ty spec F L ops.toList ops.toList (Q .normal) s):Wp P n (.region id ops false) Q s:=by
 intro base E M w0 w β a hd hn R;refine wp_region ?_;have:=Se (P:=P) C S (F:=F) (L:=L) (Q:=Q .normal) (Q':=ZZ n base E M w0 Q) (df:=[]) ho (fun st' a' w' β' h1 h2 h3 h4=>⟨st',β',h1,h2,h3,h4⟩) ops.toList 0 s a w β rfl hd hn R h;rw[gt];simpa using this
theorem Wp.rkF(C:KJ P ty)(S:XA P spec)(F:List Nat)(L:List (Nat×Nat)){id:Nat}{ops:Array Oper}{y:Code}(ho:JZ n ops.toList=true)(h:∀K:St→Prop,(∀st,Wp P n y Q st→K st)→CA ty spec F L ops.toList ops.toList K s):Wp P n (.seq (.region id ops false) y) Q s:=
 Wp.seq (Wp.regionF C S F L ho (h _ fun _ h=>h))
theorem Wp.rlF(C:KJ P ty)(S:XA P spec)(F:List Nat)(L:List (Nat×Nat)){id:Nat}{ops:Array Oper}(ho:JZ n ops.toList=true)(h:∀K:St→Prop,(∀st,Q .normal st→K st)→CA ty spec F L ops.toList ops.toList K s):Wp P n (.region id ops false) Q s:=
 Wp.regionF C S F L ho (h _ fun _ h=>h)
end
end
section
section
variable {P:Program} {base:Nat} {E M:Nat→Prop} {w0 w:World} {β:K3} {s:St} {tm:Array Value} {n:Nat} {Q:Uy}
theorem Rel.adoptBox(R:Rel base E M w0 β s tm w){k b i e:Nat}{xs:List Cx}(hk:look s.H k=some (.box xs))(hx:xs[i]? =some (.c (.sl true e [])))(hb:look s.H b=none)(el:TypeId)(esz:Nat):
  ∃β',Rel base E M w0 β' {s with H:=put (put s.H b (.row true el esz [])) k (.box (xs.set i (.own b)))} tm w:=by
 have hβ:β b=none:=by
  cases hq:β b with
  |none=>rfl
  |some y=>exact absurd hb (R.dom b y hq)
 have hkb:k≠b:=fun q=>by subst q;rw[hb]at hk;cases hk
 have R':=R.step (w':=w) (β':=upd β b (.slice none 0 0)) b (.row true el esz []) (.slice none 0 0) R.fr (ak _) (fun g hg=>⟨(by intro q;cases q),rfl⟩) (XZ ..) (fun c hc=>YG _ _ hc)
  (fun c u' g hc h1 h2=>⟨rfl,(by intro q;cases q)⟩) (fun g hg=>by cases hg) (.inr (U2.of_none R.cl hb))
  ⟨[],World.ownsRow_nil w 0 el esz,by simp,fun i es h=>by simp at h,fun i j c h=>by simp[cellAt]at h⟩ (fun xs x c h=>by cases h)
 have hk':look (put s.H b (.row true el esz [])) k=some (.box xs):=by rw[X1,if_neg (Ne.symm hkb)];exact hk
 obtain⟨u,hu,g,arr,t,rfl,hg,hl⟩:=R'.obj k _ hk';refine⟨upd β b (.slice none 0 0),R'.step (w':=w) (β':=upd β b (.slice none 0 0)) k (.box (xs.set i (.own b))) _ R'.fr (ak _) (fun g' hg'=>⟨hg'.2 k _ hu,rfl⟩) hu (fun c hc=>rfl)
  (fun c u' g' hc h1 h2=>⟨rfl,fun q=>hc (R'.inj c k u' _ g' h1 hu h2 q)⟩) (fun g' hg'=>R'.at_ k _ g' hu hg') (.inl hu) ⟨g,arr,t,rfl,hg,by rw[jb];exact hl.1,fun j x y hj hy=>?_⟩ ?_⟩
 ·rw[cq]at hj;split at hj
  ·rename_i hij;subst hij;split at hj
   ·injection hj with hj;subst hj;have hr:=hl.2 i _ y hx hy;have hr':XH w _ (.sl true e []) y:=hr;have hy0:y= .slice none 0 0:=by cases hr';rfl
    subst hy0;exact⟨XZ ..,_,_,_,rfl⟩
   ·cases hj
  ·exact hl.2 j x y hj hy
 ·intro ys y c hy hm hc;injection hy with hy;subst hy;rcases List.mem_or_eq_of_mem_set hm with h|h
  ·exact .inr (R'.cl.obj k xs y c hk' h hc)
  ·subst h;injection hc with hc;subst hc;exact .inr (by simp[X1])
theorem Wp.adoptBox{c:Code}{k b i e:Nat}{xs:List Cx}(hk:look s.H k=some (.box xs))(hx:xs[i]? =some (.c (.sl true e [])))(hb:look s.H b=none)(el:TypeId)(esz:Nat)
  (h:Wp P n c Q {s with H:=put (put s.H b (.row true el esz [])) k (.box (xs.set i (.own b)))}):Wp P n c Q s:=by
 intro base E M w0 w β a hd hn R;obtain⟨β',R'⟩:=R.adoptBox hk hx hb el esz;exact h hd hn R'
end
end
section
section
variable {P:Program} {n:Nat} {Q:Uy} {s:St} {spec:Spec} {id:Nat} {opa:Array Oper} {x y:Code} {c:Operand}
theorem Wa(S:XA P spec)(h:∀K:St→Prop,(∀st,Wp P n y Q st→K st)→EP (Yk P) spec opa.toList opa.toList K s)(ho:JZ n opa.toList=true:=by rfl):Wp P n (.seq (.region id opa false) y) Q s:=Wp.rk (Xl P) S ho h
theorem Wb(S:XA P spec)(h:∀K:St→Prop,(∀st,Q .normal st→K st)→EP (Yk P) spec opa.toList opa.toList K s)(ho:JZ n opa.toList=true:=by rfl):Wp P n (.region id opa false) Q s:=Wp.rl (Xl P) S ho h
theorem Wc(S:XA P spec)(W:List Nat)(h:∀K:St→Prop,(∀st,Wp P n y Q st→K st)→V8 (Yk P) spec W opa.toList opa.toList 0 [] (fun wr st=>Qb opa.toList wr=true∧K st) s)(hm:P.follows .mixedOrders=true:=by kernel_rfl)(hd:Uj n opa.toList=true:=by kernel_rfl):Wp P n (.seq (.region id opa true) y) Q s:=Wp.dk (Xl P) S hm W hd h
theorem Wd(S:XA P spec)(W:List Nat)(h:∀K:St→Prop,(∀st,Q .normal st→K st)→V8 (Yk P) spec W opa.toList opa.toList 0 [] (fun wr st=>Qb opa.toList wr=true∧K st) s)(hm:P.follows .mixedOrders=true:=by kernel_rfl)(hd:Uj n opa.toList=true:=by kernel_rfl):Wp P n (.region id opa true) Q s:=Wp.dl (Xl P) S hm W hd h
theorem Wt(hc:evO s c=some (bv true))(h:Wp P n x Q s):Wp P n (.cond c x y) Q s:=Wp.condT hc h
theorem Wf(hc:evO s c=some (bv false))(h:Wp P n y Q s):Wp P n (.cond c x y) Q s:=Wp.condF hc h
theorem We(h:∀K:St→Prop,(∀st,Wp P n y Q st→K st)→Wp P n x (XW K Q) s):Wp P n (.seq x y) Q s:=Wp.seqk h
end
end
section
section
variable {P:Program} {base:Nat} {E M:Nat→Prop} {w0 w w':World} {β β':K3} {st s s':St} {a:Act} {N:Nat→Prop} {ty:TypeId→Option Ty} {tm:Array Value} {spec:Spec} {n:Nat} {Q:Uy}
theorem HD{ops:Array Oper}{Q':Exit→Act→World→Prop}{k:Nat}{r:List Nat}{o:Oper}(ho:ops[k]? =some o)(hg:o.guard=none){v:Value}(hrun:(execOp a.eval o).run P w= .ok (.value v) w')(h:wpOps P ops Q' r (a.put o.dst v) w'):wpOps P ops Q' (k::r) a w:=by
 rw[wpOps_cons];unfold wpOp;rw[ho];simp only;have hw:Region.wanted o (yielded ops a.tmps)=true:=by simp[Region.wanted,hg]
 rw[if_pos hw];refine .inl ?_;unfold Oper.wp;rw[hrun];exact h
theorem Rel.clearRow(C:KJ P ty)(R:Rel base E M w0 β s tm w){b:Nat}{el:TypeId}{Te:Ty}{els:List (List Cv)}(hb:look s.H b=some (.row false el Te.size els))(hT:ty el=some Te){i:Nat}(hi:i≤els.length){g cap:Nat}(hβ:β b=some (.slice (some ⟨g,0,none⟩) els.length cap)){t rt:TypeId}(ht:P.underlying t=some (.slice el))(A:Addr)(hA:A=⟨g,i*Te.size,none⟩∨els.length=i)(c:Nat):
  ∃w',(Builtin.clear_ #[t] rt #[.slice (some A) (els.length - i) c]).run P w= .ok (.tuple #[]) w'∧Rel base E M w0 β {s with H:=put s.H b (.row false el Te.size (els.take i++List.replicate (els.length - i) Te.zero))} tm w':=by
 obtain⟨info,z,i1,i2,i3,i4,i5,i6,i7,i8⟩:=(C _ _ hT).info;have hzv:(zeroValue el).run P w= .ok z w:=by simp[Go.zeroValue,Go.typeInfo,i1,i4]
 have hun:(underlying t).run P w= .ok (.slice el) w:=by simp[Go.underlying,ht]
 obtain⟨u2,hu2,ho⟩:=R.obj b _ hb;rw[hβ]at hu2;injection hu2 with hu2;subst hu2;obtain⟨cells,o1,o2,o3⟩:=K5 ho;rcases o1.2 with⟨e,_⟩|⟨g',cap',cur,e,_,hg,hn,hm,hcs,htk⟩
 ·cases e
 injection e with e1 e2 e3;injection e1 with e1;injection e1 with e1;subst e1;subst e3;have hlt:g<w.heap.size:=(aw.1 hg).1;have fin:∀w',(∀q,q≠g→w'.heap[q]? =w.heap[q]?)→Fr base E w0 w'→w.heap.size=w'.heap.size→(∃cur',w'.heap[g]? =some (.cells cur' el (0,0))∧cur'.size=cur.size∧Flat w (XP M w β) Te.size (els.take i++List.replicate (els.length - i) Te.zero) (cur'.toList.take (els.length*Te.size)))→
   Rel base E M w0 β {s with H:=put s.H b (.row false el Te.size (els.take i++List.replicate (els.length - i) Te.zero))} tm w':=by
  intro w' hoth hfr hsz ⟨cur',hg',hs',hf⟩;have hlen:(els.take i++List.replicate (els.length - i) Te.zero).length=els.length:=by simp;omega
  have hN:∀k,XP M w β k→XP M w' β k:=fun k hk=>⟨⟨by have:=hk.1.1;omega,hk.1.2⟩,hk.2⟩;have hne:∀k,XP M w β k→k≠g:=fun k hk e=>hk.2 b _ hβ (by rw[e];rfl);refine R.step b _ _ hfr (by omega) (fun k hk=>⟨fun q=>hk.2 b _ hβ q,hoth k (hne k hk)⟩) hβ (fun c _=>rfl) (fun c u' k hc h1 h2=>?_) (fun k hk=>?_) (.inl hβ) ?_ (fun xs x c h=>by cases h)
  ·have hk:k≠g:=fun q=>hc (R.inj c b u' _ k h1 hβ h2 (by rw[q];rfl));exact⟨hoth k hk,fun q=>hk (by injection q with q;exact q.symm)⟩
  ·obtain⟨h1,h2⟩:=R.at_ b _ k hβ hk;exact⟨h1,by omega⟩
  ·have hf':=hf.mono hN fun k hk=>hoth k (hne k hk);exact⟨_,⟨hf'.len, .inr ⟨g,cap,cur',by rw[hlen],eu _,hg',by rw[hlen];exact hn,hm,by rw[hs'];exact hcs,by rw[hlen]⟩⟩,by simp,hf'.el,hf'.rel⟩
 have hfl:Flat w (XP M w β) Te.size (els.take i) (cells.take (i*Te.size)):=by
  refine⟨by rw[cf,o3.len,cf,jn hi,jn (cr _ hi)],fun j es he=>?_,fun j k c hc=>?_⟩
  ·rw[bm]at he;split at he
   ·exact o3.el j es he
   ·cases he
  ·have hsub:cellAt els j k=some c∧j<i:=by
    unfold cellAt at hc⊢;rw[bm]at hc;split at hc
    ·rename_i hlt';exact⟨hc,hlt'⟩
    ·cases hc
   obtain⟨y,hy1,hy2⟩:=o3.rel j k c hsub.1;exact⟨y,by rw[bm,if_pos (IE hsub.2 (cell_lt o3.el hsub.1).2)];exact hy1,hy2⟩
 rcases bn hi with hie|hil
 ·refine⟨w,?_,fin w (fun _ _=>rfl) R.fr rfl ⟨cur,hg,rfl,?_⟩⟩
  ·have:els.length - i=0:=by omega
   rw[this];simp[Builtin.clear_,hun]
  ·have:els.length - i=0:=by omega
   rw[this,List.replicate_zero,ez,htk];have h1:els.take i=els:=bp (by omega);have h2:cells.take (i*Te.size)=cells:=bp (by rw[o3.len,hie];exact ak _);rw[h1,h2]at hfl;rw[h1];exact hfl
 ·have hA':A=⟨g,i*Te.size,none⟩:=by rcases hA with h|h;exact h;omega
  subst hA';have hzf:=HB (w:=w) (N:=XP M w β) (n:=els.length - i) (i5 w (XP M w β)) i6;have hzl:=hzf.len;have hmul:i*Te.size+(els.length - i)*Te.size=els.length*Te.size:=by rw[←dr];congr 1;omega
  have hmul2:els.length*Te.size≤cap*Te.size:=cr _ hn;have hzc:(Builtin.zeroCells z.cells (els.length - i)).toList=((Array.range ((els.length - i)*Te.size)).map fun k=>z.cells[k%z.cells.size]!).toList:=by
   have:z.cells.size=Te.size:=by have:=(i5 w (XP M w β)).1;simp only[cz]at this;omega
   unfold Builtin.zeroCells;rw[this]
  rw[←hzc]at hzf hzl;have hbnd:i*Te.size+(Builtin.zeroCells z.cells (els.length - i)).toList.length≤cur.size:=by rw[hzl];simp only[fj];omega
  have hst:=Sim.Y0 P g (i*Te.size) el (0,0) (Builtin.zeroCells z.cells (els.length - i)).toList 0 w cur hg hzf.one (by simpa using hbnd) (by simp);rw[dy]at hst;refine⟨Sim.wr w g (.cells (Sim.written cur (i*Te.size) (Builtin.zeroCells z.cells (els.length - i)).toList) el (0,0)),?_,fin _ (fun q hq=>Sim.YF hq _) (R.fr.wr (R.at_ b _ g hβ rfl).1 _) (by simp) ⟨_,Sim.Kx hlt _,Sim.Y7 hbnd,?_⟩⟩
  ·obtain⟨m,hm'⟩:∃m,els.length - i=m+1:=⟨els.length - i - 1,by omega⟩;rw[hm']at hst⊢;simp[Builtin.clear_,hun,hzv,hst]
  ·have e:(Sim.written cur (i*Te.size) (Builtin.zeroCells z.cells (els.length - i)).toList).toList.take (els.length*Te.size)=cells.take (i*Te.size)++(Builtin.zeroCells z.cells (els.length - i)).toList:=by
    have hX:cells.take (i*Te.size)=cur.toList.take (i*Te.size):=by rw[←htk,List.take_take,jn (by omega)]
    have hl1:(cur.toList.take (i*Te.size)).length=i*Te.size:=by simp;omega
    rw[hX];simp only[Sim.written];refine List.take_left' ?_;rw[az,hl1,hzl,fj];exact hmul
   rw[e];exact hfl.app hzf
end
end
section
section
variable {P:Program} {base:Nat} {E M:Nat→Prop} {w0 w w':World} {β β':K3} {st s s':St} {a:Act} {N:Nat→Prop} {ty:TypeId→Option Ty} {tm:Array Value} {spec:Spec} {n:Nat} {Q:Uy}
theorem Wp.clearTail(C:KJ P ty){id:Nat}{o1 o2 o3 o4:Oper}{x y d1 d2 d3 b i:Nat}{t el:TypeId}{Te:Ty}{els:List (List Cv)}
  (h1:o1.op= .move (.tmp x)) (g1:o1.guard=none) (e1:o1.dst=some d1) (h2:o2.op= .move (.tmp y)) (g2:o2.guard=none) (e2:o2.dst=some d2)
  (h3:o3.op= .slice t (.tmp d1) (some (.tmp d2)) none none) (g3:o3.guard=none) (e3:o3.dst=some d3) (h4:o4.op= .call {callee:= .builtin .clear,args:=#[.tmp d3],argTypes:=#[t]}) (g4:o4.guard=none) (e4:o4.dst=none)
  (hn1:d1<n) (hn2:d2<n) (hn3:d3<n) (h12:d1≠d2) (hy1:d1≠y)
  (hx:look s.env x=some (.one (.own b))) (hy:look s.env y=some (iv .i64 i)) (hb:look s.H b=some (.row false el Te.size els)) (hT:ty el=some Te) (he:elemOf ty t=some (none,el,Te)) (hi:i≤els.length)
  (h:Q .normal ⟨put (put (put s.env d1 (.one (.own b))) d2 (iv .i64 i)) d3 .any,put s.H b (.row false el Te.size (els.take i++List.replicate (els.length - i) Te.zero))⟩):Wp P n (.region id #[o1,o2,o3,o4] false) Q s:=by
 intro base E M w0 w β a hd hn R;obtain⟨q1,q2,hut⟩:=Yn C he w;obtain⟨u,hu,hr⟩:=R.env x _ hx;cases hr with|one hr=>
 obtain⟨hβ,_⟩:=hr;obtain⟨u2,hu2,ho⟩:=R.obj b _ hb;rw[hβ]at hu2;injection hu2 with hu2;subst hu2;obtain⟨cells,o1',o2',o3'⟩:=K5 ho;rcases o1'.2 with⟨e,_⟩|⟨g,cap,cur,rfl, -, -,hcap, -⟩
 ·have:=o2'.2 e;cases this
 have ev:∀(a:Act) (t:Nat) (v:Value),a.tmps[t]? =some v→a.eval (.tmp t)=v:=fun a t v h=>by simp[Act.eval,h]
 have R1:=R.setD (a:=a) (d:=some d1) (v:= .one (.own b)) (fun t ht=>by injection ht with ht;subst ht;rw[hn];exact hn1) (.one ⟨hβ,_,_,_,rfl⟩) (fun c hc=>by cases hc with|one hc=>injection hc with hc;subst hc;rw[hb];simp);obtain⟨v2,hv2,hr2⟩:=R1.env y (iv .i64 i) (by simp only[Dw.setD,X1];rw[if_neg hy1];exact hy);have hv2':=hr2.int;subst hv2';have hs1:(a.put (some d1) (.slice (some ⟨g,0,none⟩) els.length cap)).tmps.size=n:=by rw[YO];exact hn
 have R2:=R1.setD (d:=some d2) (v:=iv .i64 i) (u:= .int .i64 i) (fun t ht=>by injection ht with ht;subst ht;rw[hs1];exact hn2) (.one (.sc rfl)) (fun c hc=>absurd hc fun q=>no_refs q);generalize ha2:((a.put (some d1) (.slice (some ⟨g,0,none⟩) els.length cap)).put (some d2) (.int .i64 i))=a2 at R2;have hs2:a2.tmps.size=n:=by rw[←ha2,YO];exact hs1
 have t1:a2.tmps[d1]? =some (.slice (some ⟨g,0,none⟩) els.length cap):=by
  rw[←ha2];simp[Act.put,Ne.symm h12,hn,hn1]
 have t2:a2.tmps[d2]? =some (.int .i64 i):=by rw[←ha2];simp[Act.put,hn,hn2]
 have hbd:=Vn (P:=P) (isS:=true) (n:=els.length) (cap:=cap) (l:=(i:Int)) (h:=(els.length:Int)) (lo:=some (.int .i64 i)) (hi:=none) (.inr ⟨_,rfl⟩) (.inl ⟨rfl,rfl⟩) (by omega) (by omega) (by omega) w;simp only[au]at hbd;have r3:(execOp a2.eval o3).run P w= .ok (.value (.slice (if cap=i then some ⟨g,0,none⟩else some ((⟨g,0,none⟩:Addr).add (i*Te.size))) (els.length - i) (cap - i))) w:=by
  simp only[execOp,h3,bt,Option.map_none,ev a2 d1 _ t1,ev a2 d2 _ t2,Instr.sliceAt,ag,q1,ae,Instr.slice,hbd,(C _ Te q2).sizeOf,am]
 generalize hA:(if cap=i then some (⟨g,0,none⟩:Addr)else some ((⟨g,0,none⟩:Addr).add (i*Te.size)))=A at r3;obtain⟨A,rfl⟩:∃A',A=some A':=by rw[←hA];split<;>exact⟨_,rfl⟩
 have R3:=R2.setD (d:=some d3) (v:= .any) (u:= .slice (some A) (els.length - i) (cap - i)) (fun t ht=>by injection ht with ht;subst ht;rw[hs2];exact hn3) .any (fun c hc=>by cases hc);have t3:(a2.put (some d3) (.slice (some A) (els.length - i) (cap - i))).tmps[d3]? =some (.slice (some A) (els.length - i) (cap - i)):=by simp[Act.put,hs2,hn3]
 obtain⟨w',c1,R4⟩:=Rel.clearRow (b:=b) (el:=el) (Te:=Te) (els:=els) C R3 hb hT hi hβ (t:=t) (rt:=o4.type) hut A (by
  by_cases hc:cap=i
  ·exact .inr (by omega)
  ·rw[if_neg hc]at hA;injection hA with hA;left;rw[←hA,DB,bf]) (cap - i)
 refine wp_region ?_
 show wpOps P _ _ [0,1,2,3] a w
 refine HD (o:=o1) (v:= .slice (some ⟨g,0,none⟩) els.length cap) (w':=w) rfl g1 (by simp[execOp,h1,ev a x _ hu]) ?_;rw[e1];refine HD (o:=o2) (v:= .int .i64 i) (w':=w) rfl g2 (by simp[execOp,h2,ev _ y _ hv2]) ?_;rw[e2,ha2];refine HD (o:=o3) rfl g3 r3 ?_;rw[e3];refine HD (o:=o4) (v:= .tuple #[]) (w':=w') rfl g4 (by simp[execOp,h4,resolve,invoke,builtin,ev _ d3 _ t3,c1]) ?_;rw[e4];refine⟨_,β,h,?_,?_,R4⟩
 ·show(a2.put (some d3) _).defers=[]
  rw[put_defers,←ha2,put_defers,put_defers];exact hd
 ·show(a2.put (some d3) _).tmps.size=n
  rw[YO];exact hs2
def MP(P:Program)(ty:TypeId→Option Ty)(spec:Spec)(k0:Nat)(ops:List Oper):Nat→List Oper→(St→Prop)→St→Prop
 |_,[],Q,st=>Q st
 |k,o::r,Q,st=>if k=k0 then o.guard=none∧∃st',PD P st o st'∧MP P ty spec k0 ops (k+1) r Q st' else match Jf st ops o with
  |some true=>V5 ty spec st o (MP P ty spec k0 ops (k+1) r Q)
  |some false=>MP P ty spec k0 ops (k+1) r Q (setD st o.dst (.tup []))
  |none=>False
theorem Sb(C:KJ P ty)(S:XA P spec){k0:Nat}{ops:List Oper}{Q:St→Prop}{Q':Exit→Act→World→Prop}{n:Nat}{df:List Deferred}(hops:JZ n ops=true)
  (hQ:∀st' a' w' β',Q st'→a'.defers=df→a'.tmps.size=n→Rel base E M w0 β' st' a'.tmps w'→Q' .normal a' w'):
  ∀(r:List Oper) (k:Nat) (st:St) (a:Act) (w:World) (β:K3),ops.drop k=r→a.defers=df→a.tmps.size=n→Rel base E M w0 β st a.tmps w→MP P ty spec k0 ops k r Q st→wpOps P ops.toArray Q' (List.range' k r.length) a w:=by
 intro r
 induction r with
 |nil=>
  intro k st a w β hk hdf hn R h;exact hQ st a w β h hdf hn R
 |cons o r ih=>
  intro k st a w β hk hdf hn R h;have hok:ops[k]? =some o:=by
   have:(ops.drop k)[0]? =some o:=by rw[hk];rfl
   simpa using this
  have hk':ops.drop (k+1)=r:=by
   have:(ops.drop k).drop 1=r:=by rw[hk];rfl
   simpa[Nat.add_comm]using this
  have hdst:=Gy hops (bb hok);rw[cm,gy,wpOps_cons];unfold wpOp;have hok':ops.toArray[k]? =some o:=by simpa using hok
  rw[hok'];simp only;simp only[MP]at h;split at h
  ·obtain⟨hg,st',hgo,h⟩:=h;have hw:Region.wanted o (yielded ops.toArray a.tmps)=true:=by simp[Region.wanted,hg]
   rw[if_pos hw];exact .inl (hgo _ _ (by rw[hn];exact hdst) R fun a' w' β' h2 h3 h4=>ih (k+1) st' a' w' β' hk' (by rw[h2,hdf]) (by rw[h3,hn]) h4 h)
  ·split at h
   ·rename_i hc;have hw:=Kq R hc;rw[if_pos hw];exact .inl (Zv C S h R (by rw[hn];exact hdst) fun st' a' w' β' h1 h2 h3 h4=>ih (k+1) st' a' w' β' hk' (by rw[h2,hdf]) (by rw[h3,hn]) h4 h1)
   ·rename_i hc;have hw:=Kq R hc;rw[if_neg (by rw[hw];simp)];exact ih (k+1) _ _ w β hk' (by rw[put_defers,hdf]) (by rw[YO,hn]) (R.setD (by rw[hn];exact hdst) (.tup (us:=#[]) rfl fun i x u h=>by simp at h) fun b hb=>by cases hb with|tup h1 h2=>simp at h1) h
   ·exact h.elim
theorem BM{o:Oper}{K K':St→Prop}(J:∀s,K s→K' s)(h:V5 ty spec st o K):V5 ty spec st o K':=by
 unfold V5 at h⊢;split at h
 ·split at h
  ·split at h
   ·rename_i hb;simp only[hb];split at h
    ·rename_i hx;try simp only[hx]
     exact J _ h
    ·exact h.elim
   ·rename_i hb;simp only[hb];split at h
    ·rename_i hx;try simp only[hx]
     exact J _ h
    ·exact h.elim
  ·exact h.elim
 ·split at h
  ·rename_i hx;try simp only[hx]
   exact⟨h.1,J _ h.2⟩
  ·exact h.elim
theorem Sd{k0:Nat}{ops:List Oper}{Q:St→Prop}:∀(r:List Oper) (k:Nat) (st:St),k0<k→EP ty spec ops r Q st→MP P ty spec k0 ops k r Q st:=by
 intro r
 induction r with
 |nil=>intro k st _ h;exact h
 |cons o r ih=>
  intro k st hk h;simp only[EP]at h;simp only[MP];rw[if_neg (by omega)];split at h
  ·rename_i hg;simp only[hg];exact BM (fun s h=>ih (k+1) s (by omega) h) h
  ·rename_i hg;simp only[hg];exact ih (k+1) _ (by omega) h
  ·exact h.elim
theorem Na{k0:Nat}{ops:List Oper}{Q:St→Prop}{r':List Oper}:∀(r:List Oper) (k:Nat) (st:St),k+r.length=k0→EP ty spec ops r (fun st=>MP P ty spec k0 ops k0 r' Q st) st→MP P ty spec k0 ops k (r++r') Q st:=by
 intro r
 induction r with
 |nil=>
  intro k st hk h;have:k=k0:=by simpa using hk
  subst this;exact h
 |cons o r ih=>
  intro k st hk h;simp only[cm]at hk;simp only[EP]at h;simp only[ge,MP];rw[if_neg (by omega)];split at h
  ·rename_i hg;simp only[hg];exact BM (fun s h=>ih (k+1) s (by omega) h) h
  ·rename_i hg;simp only[hg];exact ih (k+1) _ (by omega) h
  ·exact h.elim
theorem Wp.rlX(C:KJ P ty)(S:XA P spec)(k0:Nat){id:Nat}{ops:Array Oper}{o:Oper}(hd:JZ n ops.toList=true)(ho:ops.toList[k0]? =some o)(hg:o.guard=none)
  (h:∀K K1 K2:St→Prop,(∀st,Q .normal st→K st)→(∀st st',PD P st o st'→K2 st'→K1 st)→(∀st,EP ty spec ops.toList (ops.toList.drop (k0+1)) K st→K2 st)→EP ty spec ops.toList (ops.toList.take k0) K1 s):Wp P n (.region id ops false) Q s:=by
 intro base E M w0 w β a hdf hn R;refine wp_region ?_;have hk:k0<ops.toList.length:=(ah.1 ho).1;have hl:ops.toList=ops.toList.take k0++(o::ops.toList.drop (k0+1)):=by
  have:ops.toList[k0]=o:=by rw[aa hk]at ho;injection ho
  rw[←this,←bj hk,fk]
 have key:MP P ty spec k0 ops.toList 0 ops.toList (Q .normal) s:=by
  have:=Na (P:=P) (ty:=ty) (spec:=spec) (k0:=k0) (ops:=ops.toList) (Q:=Q .normal) (r':=o::ops.toList.drop (k0+1)) (ops.toList.take k0) 0 s (by rw[cf];omega)
   (h (Q .normal) _ _ (fun _ h=>h) (fun st st' h1 h2=>by
    simp only[MP,if_true];exact⟨hg,st',h1,h2⟩) (fun st h=>Sd _ _ _ (by omega) h))
  rw[←hl]at this;exact this
 have:=Sb (P:=P) C S (Q:=Q .normal) (Q':=ZZ n base E M w0 Q) (df:=[]) hd (fun st' a' w' β' h1 h2 h3 h4=>⟨st',β',h1,h2,h3,h4⟩) ops.toList 0 s a w β rfl hdf hn R key;rw[gt];simpa using this
def Ci(P:Program)(f:FuncId)(t:TypeId)(esz:Nat)(els els':List (List Cv))(vs:List EV):Prop:=
 ∀(w:World) (g cap:Nat) (us:Array Value),ORel w (fun k=>k<w.heap.size∧k≠g) noB (.row false t esz els) (.slice (some ⟨g,0,none⟩) els.length cap)→g<w.heap.size→
  Yx (XY w (fun k=>k<w.heap.size∧k≠g) noB) vs us.toList→
  Calls P f (#[.slice (some ⟨g,0,none⟩) els.length cap]++us) w fun e w'=>∃u,e= .returned u∧Fr w.heap.size (fun k=>k=g) w w'∧(∃N' β',ORel w' N' β' (.row false t esz els') u)∧∀k,blk u=some k→(w.heap.size≤k∨k=g)∧k<w'.heap.size
theorem Nl(C:KJ P ty){f:FuncId}{fn:Func}{c:Code}{vs:List EV}{t:TypeId}{esz:Nat}{els els':List (List Cv)}(hf:P.funcs[f]? =some fn)(hb:fn.body=some c)(hn:vs.length+1≤fn.ntmps)
  (h:Wp P fn.ntmps c (Gx ty fn.results.toList (.row false t esz els')) ⟨(List.range (vs.length+1)).zip (.one (.own 0)::vs),[(0, .row false t esz els)]⟩):Ci P f t esz els els' vs:=by
 intro w g cap us ho hg hargs;have hsz:vs.length=us.size:=by simpa using hargs.1
 have hl:∀t v,look ((List.range (vs.length+1)).zip (EV.one (Cx.own 0)::vs)) t=some v→(EV.one (Cx.own 0)::vs)[t]? =some v:=by
  intro t v hv;have:=Iy (EV.one (Cx.own 0)::vs) 0 t;simp only[cm]at this;rw[gt,this]at hv;simpa using hv
 let β0:K3:=upd noB 0 (.slice (some ⟨g,0,none⟩) els.length cap)
 have hβ0:∀b u,β0 b=some u→b=0∧u= .slice (some ⟨g,0,none⟩) els.length cap:=by
  intro b u hb;by_cases h:b=0
  ·subst h;rw[show β0 0=_ from XZ ..]at hb;injection hb with hb;exact⟨rfl,hb.symm⟩
  ·rw[show β0 b=_ from YG _ _ h]at hb;cases hb
 have hfree:∀k,(k<w.heap.size∧k≠g)→XP (fun _=>True) w β0 k:=fun k hk=>⟨⟨hk.1,trivial⟩,fun b u hb=>by
  obtain⟨-,rfl⟩:=hβ0 b u hb;intro q;injection q with q;exact hk.2 q.symm⟩
 have hrow:ORel w (XP (fun _=>True) w β0) β0 (.row false t esz els) (.slice (some ⟨g,0,none⟩) els.length cap):=ho.mono hfree (fun _ _=>rfl) (fun _ _=>rfl) (fun xs x b h=>by cases h);have R:Rel w.heap.size (fun k=>k=g) (fun _=>True) w β0 ⟨(List.range (vs.length+1)).zip (.one (.own 0)::vs),[(0, .row false t esz els)]⟩ ((#[Value.slice (some ⟨g,0,none⟩) els.length cap]++us)++Array.replicate (fn.ntmps - (#[Value.slice (some ⟨g,0,none⟩) els.length cap]++us).size) undef) w:=by
  refine⟨Fr.refl _ _ _,ak _,fun t v hv=>?_,fun b ob hb=>?_,fun b u k hb hk=>?_,fun b c u v k h1 h2 g1 g2=>?_,fun b u hb=>?_,⟨fun t v b hv hr=>?_,fun k xs x b hk=>?_⟩,fun _ _=>trivial⟩
  ·have hv':=hl t v hv;cases t with
   |zero=>
    simp at hv';subst hv';refine⟨.slice (some ⟨g,0,none⟩) els.length cap,?_, .one ⟨XZ ..,_,_,_,rfl⟩⟩;rw[fq (by simp;omega),fq (by simp)];rfl
   |succ t=>
    obtain⟨u,hu,hr⟩:=hargs.get (i:=t) (x:=v) (by simpa using hv');have ht:t<us.size:=by have:=(ah.1 hu).1;simpa using this
    refine⟨u,?_,hr.mono hfree (fun _ _=>rfl) fun b hb=>absurd hb (XY.no_refs hr b)⟩;rw[fq (by simp;omega),Array.getElem?_append_right (by simp)];simpa using hu
  ·simp only[look]at hb;split at hb
   ·rename_i h0;subst h0;injection hb with hb;subst hb;exact⟨_,XZ ..,hrow⟩
   ·cases hb
  ·obtain⟨-,rfl⟩:=hβ0 b u hb;injection hk with hk;subst hk;exact⟨.inr rfl,hg⟩
  ·obtain⟨rfl, -⟩:=hβ0 b u h1;obtain⟨rfl, -⟩:=hβ0 c v h2;rfl
  ·obtain⟨rfl, -⟩:=hβ0 b u hb;simp[look]
  ·have hv':=hl t v hv;cases t with
   |zero=>simp at hv';subst hv';cases hr with|one hr=>injection hr with hr;subst hr;simp[look]
   |succ t=>
    obtain⟨u,hu,hr'⟩:=hargs.get (i:=t) (x:=v) (by simpa using hv');exact absurd hr (XY.no_refs hr' b)
  ·simp only[look]at hk;split at hk
   ·cases hk
   ·cases hk
 refine calls_of_wp hf hb (wp_mono (h rfl (by simp;omega) R) fun e a w' ⟨st,β,hq,hd,hs,R'⟩=>?_);have fin:CU ty fn.results.toList (.row false t esz els') st→∃v,(results fn a.tmps).run P w'= .ok v w'∧∃u,Ending.returned v= .returned u∧Fr w.heap.size (fun k=>k=g) w w'∧(∃N' β',ORel w' N' β' (.row false t esz els') u)∧∀k,blk u=some k→(w.heap.size≤k∨k=g)∧k<w'.heap.size:=by
  intro hfin;unfold CU at hfin;split at hfin
  ·rename_i p l hl;obtain⟨hp,b,hv,hb⟩:=hfin;obtain⟨u,hu,hr⟩:=PR C R' hl hp;rw[hv]at hr;cases hr with|one hr=>
   obtain⟨hβ,_⟩:=hr;obtain⟨u2,hu2,ho⟩:=R'.obj b _ hb;rw[hβ]at hu2;injection hu2 with hu2;subst hu2;exact⟨u,hu,u,rfl,R'.fr,⟨_,_,ho⟩,fun k hk=>R'.at_ b u k hβ hk⟩
  ·exact hfin.elim
 cases e with
 |normal=>obtain⟨v,h1,h2⟩:=fin hq;exact⟨hd,v,h1,h2⟩
 |ret=>obtain⟨v,h1,h2⟩:=fin hq;exact⟨hd,v,h1,h2⟩
 |_=>exact hq.elim
theorem Tu(C:KJ P ty){f:FuncId}{fn:Func}{c:Code}{vs:List EV}{t:TypeId}{esz m:Nat}{els els':List (List Cv)}{rs:List ResultVar}(hf:P.funcs[f]? =some fn)(hb:fn.body=some c)(hm:fn.ntmps=m)(hr:fn.results.toList=rs)(hn:vs.length+1≤m)
  (h:Wp P m c (Gx ty rs (.row false t esz els')) ⟨(List.range (vs.length+1)).zip (.one (.own 0)::vs),[(0, .row false t esz els)]⟩):Ci P f t esz els els' vs:=by
 subst hm;subst hr;exact Nl C hf hb hn h
theorem Nk{o:Oper}{fo x:Operand}{xs:List Operand}{ts:Array TypeId}{f:FuncId}{b d:Nat}{t:TypeId}{esz:Nat}{els els':List (List Cv)}{vs:List EV}(ho:o.op= .call {callee:= .value fo,args:=⟨x::xs⟩,argTypes:=ts})(hf:fnE st fo=some (f,[]))
  (hx:evO st x=some (.one (.own b))) (hb:look st.H b=some (.row false t esz els)) (hxs:MO st xs=some vs) (hp:vs.all VH=true) (hok:nD P f) (hr:Ci P f t esz els els' vs) (hsc:∀es∈els',∀c∈es,∃v,c= .sc v) (hd:o.dst=some d):
  PD P st o {(Je b st)with env:=put (Je b st).env d (.one (.own b)),H:=put (Je b st).H b (.row false t esz els')}:=by
 intro base E M w0 w β a K Q hdd R J;obtain⟨us,hfe,hcaps, -⟩:=CM R hf;have hus:us= #[]:=by have:=hcaps.1;simp at this;exact Array.eq_empty_of_size_eq_zero this.symm
 subst hus;have hargs:=EU R hxs;obtain⟨hxe, -⟩:=evO_ok R hx;generalize hu0:a.eval x=u0 at hxe;cases hxe with|one hxe=>
 obtain⟨hβ, -⟩:=hxe;obtain⟨u2,hu2,hob⟩:=R.obj b _ hb;rw[hβ]at hu2;injection hu2 with hu2;subst hu2;obtain⟨cells,o1,o2,o3⟩:=K5 hob;rcases o1.2 with⟨e,_⟩|⟨g,cap,cur,rfl, -,hgh, -⟩
 ·have:=o2.2 e;cases this
 have hlt:g<w.heap.size:=(aw.1 hgh).1;have hN:∀k,XP M w β k→k<w.heap.size∧k≠g:=fun k hk=>⟨hk.1.1,fun q=>hk.2 b _ hβ (by rw[q];rfl)⟩;have hargs':Yx (XY w (fun k=>k<w.heap.size∧k≠g) noB) vs (xs.map a.eval):=by
  refine⟨hargs.1,fun i x y hx hy=>?_⟩;have h2:=HQ (β':=noB) ((ao.1 hp) x (bb hx)) (hargs.2 i x y hx hy);exact h2.mono hN (fun _ _=>rfl) (fun _ _=>rfl)
 obtain⟨fn,k1,k2,k3⟩:=hok.body;have hrun:=PO (P:=P) (w:=w) ho hfe k1 k2 k3;have hc:=hr w g cap ⟨xs.map a.eval⟩ (hob.mono hN (fun _ _=>rfl) (fun _ _=>rfl) (fun xs x b h=>by cases h)) hlt hargs';unfold Oper.wp;rw[hrun];simp only[Oper.upon];have heq:(((⟨x::xs⟩:Array Operand).map a.eval)++(#[]:Array Value))= #[Value.slice (some ⟨g,0,none⟩) els.length cap]++⟨xs.map a.eval⟩:=by
  apply fz;simp[hu0]
 rw[heq];refine hc.mono fun e w' ⟨u,he,hfr,⟨N',β1,hob'⟩,hat⟩=>?_;subst he;simp only;obtain⟨cells',p1,p2,p3⟩:=K5 hob';obtain⟨R2,hnr⟩:=R.kill b;have hoth:∀k,k<w.heap.size→k≠g→w'.heap[k]? =w.heap[k]?:=fun k h1 h2=>hfr.block k h1 h2;have R3:=R2.step b (.row false t esz els') u (β':=upd β b u) (w':=w')
  (R2.fr.trans ⟨hfr.os,hfr.tape,hfr.output,hfr.size,fun k hk he=>hoth k (by have:=R.le;omega) (fun q=>by
   rcases(R.at_ b _ k hβ (by rw[q];rfl)).1 with h|h
   ·omega
   ·exact he h)⟩) hfr.size
  (fun k hk=>⟨fun q=>by
   rcases(hat k q).1 with h|h
   ·have:=hk.1.1;omega
   ·exact(hN k hk).2 h,hoth k hk.1.1 (hN k hk).2⟩) (XZ ..) (fun c hc=>YG _ _ hc)
  (fun c u' k hc h1 h2=>by
   have hk:k≠g:=fun q=>hc (R.inj c b u' _ k h1 hβ h2 (by rw[q];rfl));have hkl:=(R.at_ c u' k h1 h2).2;exact⟨hoth k hkl hk,fun q=>by rcases(hat k q).1 with h|h;omega;exact hk h⟩)
  (fun k hk=>⟨by
   rcases(hat k hk).1 with h|h
   ·exact .inl (bd R.le h)
   ·subst h;exact(R.at_ b _ k hβ rfl).1,(hat k hk).2⟩) (.inr hnr)
  (by
   refine⟨cells',p1,p2,p3.el,fun i j c hc=>?_⟩;obtain⟨y,y1,y2⟩:=p3.rel i j c hc;have hm:∃v,c= .sc v:=by
    unfold cellAt at hc;cases hq:els'[i]? with
    |none=>rw[hq]at hc;cases hc
    |some es=>rw[hq]at hc;exact hsc es (bb hq) c (bb hc)
   obtain⟨v,rfl⟩:=hm;cases y2 with|sc h=>exact⟨_,y1, .sc h⟩) (fun xs x c h=>by cases h)
 have hput:(a.put o.dst u)=a.put (some d) u:=by rw[hd]
 rw[hput];refine J _ w' (upd β b u) (put_defers ..) (YO ..) ?_;exact R3.setD (d:=some d) (a:=a) (fun t ht=>hdd t (by rw[hd];exact ht)) (.one ⟨XZ ..,(JU p1).1.elim fun A ⟨c,e⟩=>⟨A,_,c,e⟩⟩) (fun c hc=>by cases hc with|one hc=>injection hc with hc;subst hc;simp[X1])
end
end
section
section
variable {P:Program} {base:Nat} {E M:Nat→Prop} {w0 w w':World} {β β':K3} {st s s':St} {a:Act} {N:Nat→Prop} {ty:TypeId→Option Ty} {tm:Array Value} {spec:Spec} {n:Nat}
theorem Ub{ops:List Oper}{k:Nat}{o:Oper}{b:Bool}(h:Jf st (ops.take k) o=some b):Jf st ops o=some b:=by
 unfold Jf at h⊢;split at h
 ·exact h
 ·rename_i j want hg;split at h
  ·rename_i g hj;have:ops[j]? =some g:=by
    rw[bm]at hj;split at hj
    ·exact hj
    ·cases hj
   simp only[this];exact h
  ·cases h
theorem Vj(C:KJ P ty)(S:XA P spec){ops:Array Oper}{k:Nat}{r:List Nat}{o:Oper}{K:St→Prop}{Q':Exit→Act→World→Prop}(ho:ops[k]? =some o)(hg:o.guard=none)(hd:∀t,o.dst=some t→t<a.tmps.size)(h:V5 ty spec st o K)(R:Rel base E M w0 β st a.tmps w)
  (J:∀st' a' w' β',K st'→a'.defers=a.defers→a'.tmps.size=a.tmps.size→Rel base E M w0 β' st' a'.tmps w'→wpOps P ops Q' r a' w'):wpOps P ops Q' (k::r) a w:=by
 rw[wpOps_cons];unfold wpOp;rw[ho];simp only;have hw:Region.wanted o (yielded ops a.tmps)=true:=by simp[Region.wanted,hg]
 rw[if_pos hw];exact .inl (Zv C S h R hd J)
noncomputable def M4(n:Nat)(ops:List Oper)(k1 dq xq:Nat):Bool:=
 Uj n ops&&(M1 (ops.take k1)&&(((List.range k1).all fun i=>(List.range k1).all fun j=>Zg (ops.take k1) i j==Zg ops i j)&&(((List.range k1).all fun i=>Zg ops i k1)&&(Zg ops k1 (k1+2)&&(Zg ops (k1+1) (k1+2)&&
  (((ops.take k1).all fun o=>!(o.dst==some dq)&&(!(o.dst==some xq)&&!((tmpsOf (ops.take k1) o).contains dq)))&&Nat.beq ops.length (k1+3)))))))
theorem Mg(C:KJ P ty)(Sp:XA P spec){W:List Nat}{ops:List Oper}{k1 dq xq:Nat}{S:Nat→St}{V:Nat→EV}{U:Nat→Option (Nat×OB)}(hrun:Run ty spec W (ops.take k1) S V U)(hd:M4 n ops k1 dq xq=true){wr:List (Nat×Nat×Bool)}
  (hwr:∀k b ob,k<(ops.take k1).length→U k=some (b,ob)→(k,b,true)∈wr) (hrd:∀k o b,(ops.take k1)[k]? =some o→rdG W (ops.take k1) (S k) o=some b→∃f,(k,b,f)∈wr) (hcf:Qb (ops.take k1) wr=true)
  {oa oq os:Oper} (ha:ops[k1]? =some oa) (hq:ops[k1+1]? =some oq) (hs:ops[k1+2]? =some os) (ga:oa.guard=none) (gq:oq.guard=none) (gs:os.guard=none) {Vq:EV}
  (hqd:∀st:St,look st.env xq=look (S 0).env xq→V5 ty spec st oq fun st'=>st'=setD st (some dq) Vq) {K:St→Prop}
  (h1:V5 ty spec (S k1) oa fun s1=>V5 ty spec s1 oq fun s2=>V5 ty spec s2 os K) (h2:V5 ty spec (setD (S k1) (some dq) Vq) oa fun s1=>V5 ty spec s1 os K)
  {Q':Exit→Act→World→Prop} {df:List Deferred} (hQ:∀s' a' w' β',K s'→a'.defers=df→a'.tmps.size=n→Rel base E M w0 β' s' a'.tmps w'→Q' .normal a' w') {L:List Nat}
  (hnd:L.Nodup) (hmem:∀i,i∈L↔i<ops.length) (hpw:L.Pairwise fun a b=>Zg ops b a=false):
  ∀(r D:List Nat) (s s':St) (fl:Bool) (a:Act) (w:World) (β:K3),L=D++r→k1∉D→(k1+1∈D↔fl=true)→a.defers=df→a.tmps.size=n→Rel base E M w0 β s a.tmps w→(∀t,look s.env t=if fl=true∧t=dq then some Vq else look s'.env t)→s.H=s'.H→look s'.env xq=look (S 0).env xq→
   Ba (ops.take k1) W S U (D.filter (· <k1)) s'→wpOps P ops.toArray Q' r a w:=by
 simp only[M4,aj]at hd;obtain⟨hdr,htA,hsame,hba,hbs,hqs,hfree,hlen⟩:=hd;have hlen:ops.length=k1+3:=ap hlen;have hdr2:=hdr;simp only[Uj,aj]at hdr2;obtain⟨hdo,htm,hed⟩:=hdr2;have hla:(ops.take k1).length=k1:=by simp;omega
 have hsm:∀i j,i<k1→j<k1→Zg (ops.take k1) i j=Zg ops i j:=fun i j hi hj=>by
  have:=(ao.1 ((ao.1 hsame) i (ay.2 hi))) j (ay.2 hj);exact eq_of_beq this
 have hb1:∀i,i<k1→Zg ops i k1=true:=fun i hi=>(ao.1 hba) i (ay.2 hi);have hfr:∀i o,(ops.take k1)[i]? =some o→o.dst≠some dq∧o.dst≠some xq∧dq∉tmpsOf (ops.take k1) o:=fun i o ho=>by
  have:=(ao.1 hfree) o (bb ho);simpa using this
 have hdst:∀(a:Act) (k:Nat) (o:Oper),ops[k]? =some o→a.tmps.size=n→∀t,o.dst=some t→t<a.tmps.size:=fun a k o ho hn=>by rw[hn];exact Gy hdo (bb ho)
 have harr:∀k:Nat,ops.toArray[k]? =ops[k]?:=fun k=>by simp
 intro r
 induction r with
 |nil=>
  intro D s s' fl a w β hL hk1;rw[ez]at hL;exact absurd (hL▸(hmem k1).2 (by omega)) hk1
 |cons j r ih=>
  intro D s s' fl a w β hL hk1 hfl hdf hn R henv hH hxq A;have hjl:j<ops.length:=(hmem j).1 (by rw[hL];simp);have hnd':(D++j::r).Nodup:=hL▸hnd;have hpw':(D++j::r).Pairwise fun a b=>Zg ops b a=false:=hL▸hpw;have hjD:j∉D:=fun h=>(je.1 hnd').2.2 j h j br rfl;have hpre:∀i,i<ops.length→Zg ops i j=true→i∈D:=by
   intro i hi hb;have hiL:i∈D++j::r:=hL▸(hmem i).2 hi;rcases co.1 hiL with h|h
   ·exact h
   ·exfalso;rcases av.1 h with h|h
    ·subst h;have:=CR hed hb;omega
    ·have:=(ff.1 hpw').2.1;rw[dn]at this;rw[this.1 i h]at hb;cases hb
  have hpost:∀i∈D,Zg ops j i=false:=fun i hi=>(ff.1 hpw').2.2 i hi j br;have hL':L=(D++[j])++r:=by rw[hL];simp
  rcases cp j k1 with hj|hj
  ·have ho:(ops.take k1)[j]? =some ops[j]:=by rw[bm,if_pos hj];exact aa hjl
   obtain⟨⟨p,he,hp⟩,A'⟩:=Pq hrun htA hwr hrd hcf ho (fun h=>hjD (ct.1 h).1) (fun i hi hb=>by
    rw[hla]at hi;rw[hsm i j hi hj]at hb;exact ct.2 ⟨hpre i (by omega) hb,by simpa using hi⟩) (fun i hi=>by
    obtain⟨h1,h2⟩:=ct.1 hi;have h2:i<k1:=by simpa using h2
    rw[hsm j i hj h2];exact hpost i h1) A
   obtain⟨f1,f2,f3⟩:=hfr j _ ho;have htm':∀t,t∈tmpsOf (ops.take k1) ops[j]→look s.env t=look s'.env t:=fun t ht=>by
    rw[henv t,if_neg];rintro⟨-,rfl⟩;exact f3 ht
   have hDf:(D++[j]).filter (· <k1)=D.filter (· <k1)++[j]:=by simp[hj]
   have hnext:Ba (ops.take k1) W S U ((D++[j]).filter (· <k1)) (Zi s' ops[j].dst (V j) (U j)):=by rw[hDf];exact A'
   have henv':∀t,look (Zi s ops[j].dst (V j) (U j)).env t=if fl=true∧t=dq then some Vq else look (Zi s' ops[j].dst (V j) (U j)).env t:=fun t=>by
    rw[YP,YP];by_cases hc:ops[j].dst=some t
    ·rw[if_pos hc,if_pos hc,if_neg];rintro⟨-,rfl⟩;exact f1 hc
    ·rw[if_neg hc,if_neg hc];exact henv t
   have hH':(Zi s ops[j].dst (V j) (U j)).H=(Zi s' ops[j].dst (V j) (U j)).H:=by
    cases hu:U j with
    |none=>rw[Ur,Ur];exact hH
    |some q=>obtain⟨c,ob⟩:=q;rw[Uq,Uq,hH]
   have hxq':look (Zi s' ops[j].dst (V j) (U j)).env xq=look (S 0).env xq:=by rw[YP,if_neg f2];exact hxq
   have hk1':k1∉D++[j]:=fun h=>by
    rcases co.1 h with h|h
    ·exact hk1 h
    ·rw[dm]at h;omega
   have hfl':k1+1∈D++[j]↔fl=true:=by
    rw[co,dm,hfl];exact⟨fun h=>h.elim id fun h=>by omega, .inl⟩
   rw[wpOps_cons];unfold wpOp;have ho':ops.toArray[j]? =some ops[j]:=by simp
   rw[ho'];simp only;unfold MU at he;split at he
   ·rename_i hg;have hg':Jf s ops ops[j]=some true:=Ub ((Hu htm').trans hg);rw[if_pos (Kq R hg')];have he':Me ty spec W s ops[j]=some (p,V j,U j):=A5 he (Er htm') (by rw[hH]) (fun b ob _=>by rw[hH]) fun b _=>by rw[hH]
    refine .inl (Zv C Sp (IS he' hp) R (hdst a j _ (aa hjl) hn) fun st' a' w' β' g1 g2 g3 g4=>?_);subst g1;exact ih (D++[j]) _ _ fl a' w' β' hL' hk1' hfl' (by rw[g2,hdf]) (by rw[g3,hn]) g4 henv' hH' hxq' hnext
   ·rename_i hg;have hg':Jf s ops ops[j]=some false:=Ub ((Hu htm').trans hg);rw[if_neg (by rw[Kq R hg'];simp)];simp only[ab,af]at he;obtain⟨_,hv,hu⟩:=he;rw[←hv,←hu]at henv' hH' hxq' hnext;have R':Rel base E M w0 β (Zi s ops[j].dst (.tup []) none) (a.put ops[j].dst undef).tmps w:=R.setD (v:= .tup []) (hdst a j _ (aa hjl) hn) (.tup (us:=#[]) rfl fun i x u h=>by simp at h) fun b hb=>by cases hb with|tup h1 h2=>simp at h1
    exact ih (D++[j]) _ _ fl _ w β hL' hk1' hfl' (by rw[put_defers,hdf]) (by rw[YO,hn]) R' henv' hH' hxq' hnext
   ·cases he
  ·rcases bn hj with hj|hj
   ·
    subst hj;have hall:∀i,i<k1→i∈D.filter (· <k1):=fun i hi=>ct.2 ⟨hpre i (by omega) (hb1 i hi),by simpa using hi⟩;have q1:∀t,look (S k1).env t=look s'.env t:=fun t=>by
     obtain⟨m,hm,hiff,heq⟩:=A.env t;rw[heq];rw[hla]at hm;refine PN hrun hm (by rw[hla];exact ak _) fun i o g1 g2 ho hdst'=>?_;have:=(hiff i o ho hdst').1 (hall i g2);omega
    have q2:∀b,look (S k1).H b=look s'.H b:=fun b=>by
     obtain⟨m,hm,hiff,heq⟩:=A.obj b;rw[heq];rw[hla]at hm;refine PM hrun hm (by rw[hla];exact ak _) fun i ob g1 g2 hu=>?_;have:=(hiff i ob (by rw[hla];exact g2) hu).1 (hall i g2);omega
    have hr2:k1+2∈r:=by
     have hiL:k1+2∈D++k1::r:=hL▸(hmem (k1+2)).2 (by omega);rcases co.1 hiL with h|h
     ·have:=hpost _ h;rw[hbs]at this;cases this
     ·rcases av.1 h with h|h
      ·omega
      ·exact h
    have hrr:∀i∈r,i=k1+1∨i=k1+2:=fun i hi=>by
     have hil:i<ops.length:=(hmem i).1 (by rw[hL];simp[hi]);have hiD:i∉D:=fun h=>(je.1 hnd').2.2 i h i (bc _ hi) rfl;have hik:i≠k1:=fun h=>by
      have:=(je.1 hnd').2.1;rw[ek]at this;exact this.1 (h▸hi)
     rcases cp i k1 with g|g
     ·exact absurd (ct.1 (hall i g)).1 hiD
     ·omega
    have hrn:r.Nodup:=by
     have:=(je.1 hnd').2.1;rw[ek]at this;exact this.2
    have hrp:r.Pairwise fun a b=>Zg ops b a=false:=by
     have:=(ff.1 hpw').2.1;rw[dn]at this;exact this.2
    have hlast:∀(x:Nat) (r':List Nat),r=x::r'→x=k1+2→r'=[]:=by
     intro x r' e hx;cases r' with
     |nil=>rfl
     |cons y r''=>
      exfalso;subst e;subst hx;rw[ek]at hrn;rw[dn]at hrp;rcases hrr y (by simp)with h|h
      ·have:=hrp.1 y (by simp);rw[h,hqs]at this;cases this
      ·exact hrn.1 (by rw[←h];simp)
    cases fl with
    |true=>
     have hr:r=[k1+2]:=by
      cases hc:r with
      |nil=>rw[hc]at hr2;cases hr2
      |cons x r'=>
       have hx:x=k1+2:=by
        rcases hrr x (by rw[hc];simp)with h|h
        ·exact absurd (hfl.2 rfl) fun hD=>(je.1 hnd').2.2 _ hD _ (by rw[hc,h];simp) rfl
        ·exact h
       rw[hlast x r' hc hx,hx]
     obtain⟨β1,R1⟩:=R.same (s':=setD (S k1) (some dq) Vq) (fun t=>by
      rw[henv t];simp only[Dw.setD,X1];by_cases hc:t=dq
      ·subst hc;simp
      ·rw[if_neg (fun q=>hc q.symm),if_neg (fun q=>hc q.2)];exact q1 t) (fun b=>by rw[hH];exact q2 b)
     rw[hr];refine Vj C Sp (by rw[harr];exact ha) ga (hdst a k1 _ ha hn) h2 R1 fun s1 a1 w1 β1 g1 g2 g3 g4=>?_;refine Vj C Sp (by rw[harr];exact hs) gs (hdst a1 (k1+2) _ hs (by rw[g3,hn])) g1 g4 fun s2 a2 w2 β2 k1' k2 k3 k4=>?_;exact hQ s2 a2 w2 β2 k1' (by rw[k2,g2,hdf]) (by rw[k3,g3,hn]) k4
    |false=>
     have hr:r=[k1+1,k1+2]:=by
      have hq1:k1+1∈r:=by
       have hiL:k1+1∈D++k1::r:=hL▸(hmem (k1+1)).2 (by omega);rcases co.1 hiL with h|h
       ·have:=hfl.1 h;cases this
       ·rcases av.1 h with h|h
        ·omega
        ·exact h
      cases hc:r with
      |nil=>rw[hc]at hr2;cases hr2
      |cons x r'=>
       have hx:x=k1+1:=by
        rcases hrr x (by rw[hc];simp)with h|h
        ·exact h
        ·have:=hlast x r' hc h;rw[hc,this,h]at hq1;simp at hq1
       subst hx;cases hc':r' with
       |nil=>rw[hc,hc']at hr2;simp at hr2
       |cons y r''=>
        have hy:y=k1+2:=by
         rcases hrr y (by rw[hc,hc'];simp)with h|h
         ·rw[hc,hc',h]at hrn;simp at hrn
         ·exact h
        subst hy;cases hc'':r'' with
        |nil=>rfl
        |cons z r3=>
         exfalso;rw[hc,hc',hc'']at hrn;rcases hrr z (by rw[hc,hc',hc''];simp)with h|h
         ·rw[h]at hrn;simp at hrn
         ·rw[h]at hrn;simp at hrn
     obtain⟨β1,R1⟩:=R.same (s':=S k1) (fun t=>by rw[henv t,if_neg (fun q=>by cases q.1)];exact q1 t) (fun b=>by rw[hH];exact q2 b);rw[hr];refine Vj C Sp (by rw[harr];exact ha) ga (hdst a k1 _ ha hn) h1 R1 fun s1 a1 w1 β1 g1 g2 g3 g4=>?_;refine Vj C Sp (by rw[harr];exact hq) gq (hdst a1 (k1+1) _ hq (by rw[g3,hn])) g1 g4 fun s2 a2 w2 β2 k1' k2 k3 k4=>?_;refine Vj C Sp (by rw[harr];exact hs) gs (hdst a2 (k1+2) _ hs (by rw[k3,g3,hn])) k1' k4 fun s3 a3 w3 β3 m1 m2 m3 m4=>?_;exact hQ s3 a3 w3 β3 m1 (by rw[m2,k2,g2,hdf]) (by rw[m3,k3,g3,hn]) m4
   ·have hcase:j=k1+1∨j=k1+2:=by omega
    rcases hcase with rfl|rfl
    ·
     have hfl0:fl=false:=by cases fl;rfl;exact absurd (hfl.2 rfl) hjD
     subst hfl0;have hx:look s.env xq=look (S 0).env xq:=by rw[henv xq,if_neg (fun q=>by cases q.1)];exact hxq
     refine Vj C Sp (by rw[harr];exact hq) gq (hdst a (k1+1) _ hq hn) (hqd s hx) R fun s1 a1 w1 β1 g1 g2 g3 g4=>?_;subst g1;refine ih (D++[k1+1]) _ s' true a1 w1 β1 hL' (fun h=>by
      rcases co.1 h with h|h
      ·exact hk1 h
      ·rw[dm]at h;omega) (by simp) (by rw[g2,hdf]) (by rw[g3,hn]) g4 (fun t=>?_) hH hxq ?_
     ·simp only[Dw.setD,X1];by_cases hc:t=dq
      ·subst hc;simp
      ·rw[if_neg (fun q=>hc q.symm),if_neg (fun q=>hc q.2),henv t,if_neg (fun q=>by cases q.1)]
     ·have:(D++[k1+1]).filter (· <k1)=D.filter (· <k1):=by simp
      rw[this];exact A
    ·exact absurd (hpre k1 (by omega) hbs) hk1
theorem Wp.drawnT{Q:Uy}(C:KJ P ty)(Sp:XA P spec)(hm:P.follows .mixedOrders=true)(W:List Nat)(k1:Nat){id dq xq fi:Nat}{opa:Array Oper}{s:St}{T:TypeId}{oa oq os:Oper}{vx Vq:EV}(hd:M4 n opa.toList k1 dq xq=true)
  (ha:opa.toList[k1]? =some oa) (hq:opa.toList[k1+1]? =some oq) (hs:opa.toList[k1+2]? =some os) (ga:oa.guard=none) (gq:oq.guard=none) (gs:os.guard=none) (hqo:oq.op= .fieldAddr T (.tmp xq) fi) (hqd:oq.dst=some dq) (hx:look s.env xq=some vx) (hv:Jx ty T vx fi=some Vq)
  (h:V8 ty spec W (opa.toList.take k1) (opa.toList.take k1) 0 [] (fun wr st=>Qb (opa.toList.take k1) wr=true∧(V5 ty spec st oa fun s1=>V5 ty spec s1 oq fun s2=>V5 ty spec s2 os (Q .normal))∧(V5 ty spec (setD st (some dq) Vq) oa fun s1=>V5 ty spec s1 os (Q .normal))) s):Wp P n (.region id opa true) Q s:=by
 intro base E M w0 w β a hdf hn R;obtain⟨S,V,U,wr,s1,s2,s3,s4, -,s6⟩:=Bf _ _ _ _ h;simp only[bf]at s2 s3 s4 s6;have hrun:Run ty spec W (opa.toList.take k1) S V U:=⟨s3,fun k b ob hk hu=>(s4 k b ob hk hu).1⟩;have hd':=hd;simp only[M4,Uj,aj]at hd';obtain⟨⟨-, -,hed⟩, -, -, -, -, -, -,hlen⟩:=hd';have hlen:opa.toList.length=k1+3:=ap hlen;have hla:(opa.toList.take k1).length=k1:=by simp at hlen⊢;omega
 rw[hla]at s2;refine wp_region_draw fun t=>?_;rw[hm];obtain⟨q1,q2,q3⟩:=Sim.Hl (ops:=opa) (fun j o ho=>by
  have hj:j<opa.toList.length:=by simpa using (aw.1 ho).1
  have:=(ao.1 hed) j (ay.2 hj);have e:opa.toList[j]? =some o:=by simpa using ho
  rw[e]at this;exact this) t
 have R':Rel base E M w0 β s a.tmps {w with drawn:=w.drawn+1}:=⟨⟨R.fr.os,R.fr.tape,R.fr.output,R.fr.size,R.fr.block⟩,R.le,fun t v hv=>by
   obtain⟨u,h1,h2⟩:=R.env t v hv;exact⟨u,h1,h2.mono (fun _ h=>h) (fun _ _=>rfl) fun _ _=>rfl⟩,fun b ob hb=>by
   obtain⟨u,h1,h2⟩:=R.obj b ob hb;exact⟨u,h1,h2.mono (fun _ h=>h) (fun _ _=>rfl) (fun _ _=>rfl) fun _ _ _ _ _ _=>rfl⟩,R.at_,R.inj,R.dom,R.cl,R.may⟩
 have A:Ba (opa.toList.take k1) W S U (([]:List Nat).filter (· <k1)) s:=by
  subst s1;exact⟨fun t=>⟨0,eu _,fun i o _ _=>by simp,rfl⟩,fun b=>⟨0,eu _,fun i ob _ _=>by simp,rfl⟩,rfl⟩
 have hqd':∀st:St,look st.env xq=look (S 0).env xq→V5 ty spec st oq fun st'=>st'=setD st (some dq) Vq:=by
  intro st hst;rw[s1,hx]at hst;have hp:VI ty st oq=some (True,Vq):=by
   unfold VI;simp only[hqo,evO,hst,hv]
  unfold V5 opE;simp only[hqo,hp,hqd];exact⟨trivial,trivial⟩
 have:=Mg (base:=base) (E:=E) (M:=M) (w0:=w0) (n:=n) (df:=[]) (Q':=ZZ n base E M w0 Q) C Sp hrun hd (fun k b ob hk hu=>(s4 k b ob hk hu).2) s6 s2.1 ha hq hs ga gq gs hqd' s2.2.1 s2.2.2
  (fun s' a' w' β' h1 h2 h3 h4=>⟨_,β',h1,h2,h3,h4⟩) q1 (fun i=>by rw[q2 i];simp) q3 _ [] s s false a _ β rfl (by simp) (by simp) hdf hn R' (fun t=>by simp) rfl (by rw[s1]) A
 have e:opa.toList.toArray=opa:=by simp
 rw[e]at this;exact this
theorem dY{Q:Uy}{c:Code}{S:St→Prop}(Y:∀st,Wp P n c Q st→S st):∃X:St→Prop,(∀st st',Gh st st'→X st'→S st)∧∀st,Wp P n c Q st→X st:=⟨Wp P n c Q,fun st _ g h=>Y st (Wp.gh g h),fun _ h=>h⟩
theorem Wp.drawnTl{Q:Uy}(C:KJ P ty)(Sp:XA P spec)(hm:P.follows .mixedOrders=true)(W:List Nat)(k1 dq xq:Nat){id fi:Nat}{opa:Array Oper}{s:St}{T:TypeId}{oa oq os:Oper}{vx Vq:EV}(hd:M4 n opa.toList k1 dq xq=true)
  (ha:opa.toList[k1]? =some oa) (hq:opa.toList[k1+1]? =some oq) (hs:opa.toList[k1+2]? =some os) (ga:oa.guard=none) (gq:oq.guard=none) (gs:os.guard=none) (hqo:oq.op= .fieldAddr T (.tmp xq) fi) (hqd:oq.dst=some dq) (hx:look s.env xq=some vx) (hv:Jx ty T vx fi=some Vq)
  (h:∀K:St→Prop,(∀st,Q .normal st→K st)→V8 ty spec W (opa.toList.take k1) (opa.toList.take k1) 0 [] (fun wr st=>Qb (opa.toList.take k1) wr=true∧(V5 ty spec st oa fun s1=>V5 ty spec s1 oq fun s2=>V5 ty spec s2 os K)∧(V5 ty spec (setD st (some dq) Vq) oa fun s1=>V5 ty spec s1 os K)) s):Wp P n (.region id opa true) Q s:=
 Wp.drawnT C Sp hm W k1 hd ha hq hs ga gq gs hqo hqd hx hv (h _ fun _ h=>h)
end
end
end Go.Proofs.YtbkpmfjfpcoehaaGreatDoor.Dw
