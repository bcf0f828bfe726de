/- A machine that runs closed calls of the program by the kernel: regions that draw their order; every step of the machine is followed by the model; runs; tables. No condition. -/
import Derived.Test.YtbkpmfjfpcoehaaGreatDoorSimB
namespace Go.Proofs.YtbkpmfjfpcoehaaGreatDoor.Sim
open Go Go.RowKit
section
theorem H1{x:Nat}{l:List Nat}:mem x l=true↔x∈l:=by
 induction l with
 |nil=>simp[mem]
 |cons y l ih=>
  unfold mem;split
  ·rename_i h;have:=ap h;subst this;simp
  ·rename_i h;rw[ih];have hne:x≠y:=fun e=>by subst e;rw[Nat.beq_refl]at h;cases h
   simp[hne]
theorem BY{x:Nat}{l:List Nat}:mem x l=false↔x∉l:=by
 rw[←H1];simp
theorem SK{x:Nat}{a b:List Nat}:x∈uni a b↔x∈a∨x∈b:=by
 induction a with
 |nil=>simp[uni]
 |cons y a ih=>
  unfold uni;split
  ·rename_i h;rw[H1]at h;rw[ih];simp;grind
  ·rw[av,ih];simp;grind
theorem Af{acc:List (List Nat)}{x:Nat}:∀{es:List Edge},x∈EE acc es↔∃e∈es,Region.binds .any e=true∧(x=e.on∨∃l,acc[e.on]? =some l∧x∈l):=by
 intro es
 induction es with
 |nil=>simp[EE]
 |cons e es ih=>
  unfold EE;split
  ·rename_i h;rw[SK,ih,av,YA];constructor
   ·rintro((rfl|hx)|⟨e',a,b⟩)
    ·exact⟨e,by simp,h, .inl rfl⟩
    ·split at hx
     ·rename_i l hl;exact⟨e,by simp,h, .inr ⟨l,hl,hx⟩⟩
     ·cases hx
    ·exact⟨e',by simp[a],b⟩
   ·rintro⟨e',a,b,c⟩;rcases av.1 a with rfl|a
    ·rcases c with rfl|⟨l,hl,hx⟩
     ·exact .inl (.inl rfl)
     ·refine .inl (.inr ?_);rw[hl];exact hx
    ·exact .inr ⟨e',a,b,c⟩
  ·rename_i h;rw[ih];constructor
   ·rintro⟨e',a,b⟩;exact⟨e',by simp[a],b⟩
   ·rintro⟨e',a,b,c⟩;rcases av.1 a with rfl|a
    ·rw[h]at b;cases b
    ·exact⟨e',a,b,c⟩
theorem O1:∀(ops:List Oper) (acc:List (List Nat)),(ED acc ops).length=acc.length+ops.length:=by
 intro ops
 induction ops with
 |nil=>intro acc;simp[ED]
 |cons o ops ih=>intro acc;unfold ED;rw[ih,KT];simp;omega
theorem O0:∀(ops:List Oper) (acc:List (List Nat)) (i:Nat),i<acc.length→(ED acc ops)[i]? =acc[i]?:=by
 intro ops
 induction ops with
 |nil=>intro acc i _;rfl
 |cons o ops ih=>
  intro acc i hi;unfold ED;rw[ih _ _ (by rw[KT];simp;omega),KT,bu hi]
theorem O2:∀(ops:List Oper) (acc:List (List Nat)) (j:Nat) (o:Oper),ops[j]? =some o→
  (ED acc ops)[acc.length+j]? =some (EE ((ED acc ops).take (acc.length+j)) o.after.toList):=by
 intro ops
 induction ops with
 |nil=>intro acc j o h;simp at h
 |cons o' ops ih=>
  intro acc j o h;cases j with
  |zero=>
   simp at h;subst h;unfold ED;rw[O0 _ _ _ (by rw[KT];simp),KT];simp only[dy,bz (ak _),fp,cj]
   congr 2
   have:∀(ops:List Oper) (acc acc2:List (List Nat)),(ED (acc++acc2) ops).take acc.length=acc:=by
    intro ops
    induction ops with
    |nil=>intro acc acc2;simp[ED]
    |cons o ops ih=>intro acc acc2;unfold ED;rw[KT,fg];exact ih _ _
   exact(this _ _ _).symm
  |succ j=>
   simp at h;have:=ih (app acc [EE acc o'.after.toList]) j o h;unfold ED;rw[KT]at this⊢;simp only[az,List.length_singleton]at this;have e:acc.length+(j+1)=acc.length+1+j:=by omega
   rw[e];exact this
theorem Un{ops:List Oper}{k j:Nat}{o:Oper}(ho:ops[j]? =some o)(h:before (XU ops) k j=true):
  ∃e∈o.after.toList,Region.binds .any e=true∧(k=e.on∨before (XU ops) k e.on=true):=by
 have hg:=O2 ops [] j o ho;simp at hg;unfold before at h;rw[YA]at h;have h:(match(ED [] ops)[j]? with|some l=>mem k l|none=>false)=true:=h;rw[hg]at h;rw[H1,Af]at h;obtain⟨e,a,b,c⟩:=h;refine⟨e,a,b,?_⟩;rcases c with c|⟨l,hl,hx⟩
 ·exact .inl c
 ·right;unfold before;rw[YA]
  show(match(ED [] ops)[e.on]? with|some l=>mem k l|none=>false)=true
  have hlt:(ED [] ops)[e.on]? =some l:=by
   rw[bm]at hl;split at hl
   ·exact hl
   ·cases hl
  rw[hlt,H1];exact hx
theorem VN{ops:List Oper}:∀{n x:Nat},x∈JK ops n↔∃o,n≤x∧ops[x - n]? =some o∧Gu o.op=true:=by
 induction ops with
 |nil=>intro n x;simp[JK]
 |cons o ops ih=>
  intro n x;have hs:∀(o':Oper),(n≤x∧(o::ops)[x - n]? =some o')↔(x=n∧o=o')∨(Nat.succ n≤x∧ops[x - Nat.succ n]? =some o'):=by
   intro o';constructor
   ·rintro⟨a,b⟩;rcases bn a with e|h
    ·subst e;simp at b;exact .inl ⟨rfl,b⟩
    ·refine .inr ⟨h,?_⟩;have:x - n=(x - Nat.succ n)+1:=by omega
     rw[this]at b;simpa using b
   ·rintro(⟨rfl,rfl⟩|⟨a,b⟩)
    ·simp
    ·refine⟨by omega,?_⟩;have:x - n=(x - Nat.succ n)+1:=by omega
     rw[this];simpa using b
  have hs2:(∃o',n≤x∧(o::ops)[x - n]? =some o'∧Gu o'.op=true)↔(x=n∧Gu o.op=true)∨∃o',Nat.succ n≤x∧ops[x - Nat.succ n]? =some o'∧Gu o'.op=true:=by
   constructor
   ·rintro⟨o',a,b,c⟩;rcases(hs o').1 ⟨a,b⟩with⟨h1,rfl⟩|⟨h1,h2⟩
    ·exact .inl ⟨h1,c⟩
    ·exact .inr ⟨o',h1,h2,c⟩
   ·rintro(⟨h1,c⟩|⟨o',h1,h2,c⟩)
    ·obtain⟨a,b⟩:=(hs o).2 (.inl ⟨h1,rfl⟩);exact⟨o,a,b,c⟩
    ·obtain⟨a,b⟩:=(hs o').2 (.inr ⟨h1,h2⟩);exact⟨o',a,b,c⟩
  rw[hs2];unfold JK;split
  ·rename_i h;rw[ih];simp[h]
  ·rename_i h;rw[av,ih];simp[h]
end
section
theorem Gl{j:Nat}:∀{es:List Edge},J8 es j=true→∀e∈es,Region.binds .any e=true→e.on<j:=by
 intro es
 induction es with
 |nil=>intro _ e he;cases he
 |cons e0 es ih=>
  intro h e he hb;unfold J8 at h;split at h
  ·cases h
  ·rename_i hne;rcases av.1 he with rfl|he
   ·cases hlt:Nat.blt e.on j with
    |true=>simpa using hlt
    |false=>exact absurd hlt (hne hb)
   ·exact ih h e he hb
theorem Ay{l:List (Nat×Nat)}{g:Nat}(h:dX l g=true):∃d,(d,g)∈l:=by
 induction l with
 |nil=>cases h
 |cons p l ih=>
  unfold dX at h;split at h
  ·rename_i hb;exact⟨p.1,by rw[←ap hb];exact br⟩
  ·obtain⟨d,hd⟩:=ih h;exact⟨d,bc _ hd⟩
structure tS(D:DI)(o:Oper)(j:Nat):Prop where
 edges:J8 o.after.toList j=true
 guard:∀g want,o.guard=some (g,want)→before D g j=true∧∃d,(d,g)∈D.dsts
theorem Zw{D:DI}:∀{ops:List Oper} {n:Nat},T1 D ops n=true→∀j o,ops[j]? =some o→tS D o (n+j):=by
 intro ops
 induction ops with
 |nil=>intro n _ j o h;simp at h
 |cons o0 ops ih=>
  intro n h j o ho;unfold T1 at h;split at h
  case h_2=>cases h
  rename_i h2 h3;cases j with
  |zero=>
   simp at ho;subst ho;refine⟨h2,?_⟩;intro g want hg;rw[hg]at h3;have h3:(match before D g (n+0)with|true=>dX D.dsts g|false=>false)=true:=h3;split at h3
   ·rename_i hb;exact⟨hb,Ay h3⟩
   ·cases h3
  |succ j=>
   simp at ho;have:=ih h j o ho;have e:n+(j+1)=Nat.succ n+j:=by omega
   rw[e];exact this
theorem GS{ops:List Oper}:∀{n d i:Nat},(d,i)∈dstsOf ops n↔∃o,n≤i∧ops[i - n]? =some o∧o.dst=some d:=by
 induction ops with
 |nil=>intro n d i;simp[dstsOf]
 |cons o ops ih=>
  intro n d i;have hs2:(∃o',n≤i∧(o::ops)[i - n]? =some o'∧o'.dst=some d)↔(i=n∧o.dst=some d)∨∃o',Nat.succ n≤i∧ops[i - Nat.succ n]? =some o'∧o'.dst=some d:=by
   constructor
   ·rintro⟨o',a,b,c⟩;rcases bn a with e|h
    ·subst e;simp at b;subst b;exact .inl ⟨rfl,c⟩
    ·refine .inr ⟨o',h,?_,c⟩;have:i - n=(i - Nat.succ n)+1:=by omega
     rw[this]at b;simpa using b
   ·rintro(⟨rfl,c⟩|⟨o',a,b,c⟩)
    ·exact⟨o,by omega,by simp,c⟩
    ·refine⟨o',by omega,?_,c⟩;have:i - n=(i - Nat.succ n)+1:=by omega
     rw[this];simpa using b
  rw[hs2];unfold dstsOf;split
  ·rename_i d0 h;rw[av,ih,h];constructor
   ·rintro(h1|h1)
    ·injection h1 with a b;subst a;subst b;exact .inl ⟨rfl,rfl⟩
    ·exact .inr h1
   ·rintro(⟨rfl,c⟩|h1)
    ·injection c with c;subst c;exact .inl rfl
    ·exact .inr h1
  ·rename_i h;rw[ih,h];simp
theorem LU{l:List (Nat×Nat)}{k:Nat}:N5 l k=none→∀i,(k,i)∉l:=by
 induction l with
 |nil=>intro _ i h;cases h
 |cons p l ih=>
  obtain⟨a,b⟩:=p;intro h i hm;unfold N5 at h;split at h
  ·cases h
  ·rename_i hne;rcases av.1 hm with e|hm
   ·injection e with e1 e2;subst e1;rw[Nat.beq_refl]at hne;cases hne
   ·exact ih h i hm
theorem VL{l:List (Nat×Nat)}(h:BP l=true):∀{d i:Nat},(d,i)∈l↔XK l d=some i:=by
 induction l with
 |nil=>intro d i;simp[Ut]
 |cons p l ih=>
  intro d i;unfold BP at h;split at h
  case h_2=>cases h
  rename_i hn;have hn:=LU hn;obtain⟨a,b⟩:=p;rw[YI,av];by_cases e:a=d
  ·subst e;simp;constructor
   ·rintro(rfl|h1)
    ·rfl
    ·exact absurd h1 (hn i)
   ·intro h1;exact .inl h1.symm
  ·simp[e,Ne.symm e];exact ih h
theorem LP{nt:Nat}{l:List (Nat×Nat)}(h:T2 nt l=true):∀p∈l,p.1<nt:=by
 induction l with
 |nil=>intro p hp;cases hp
 |cons q l ih=>
  intro p hp;unfold T2 at h;split at h
  case h_2=>cases h
  rename_i hq;rcases av.1 hp with rfl|hp
  ·simpa using hq
  ·exact ih h p hp
end
section
theorem Zz(md:Region.Mode)(ops:Array Oper):∀(fuel t:Nat) (listed:Array Bool) (acc:List Nat),
  Region.linearise.go md ops fuel t listed acc=acc.reverse++Region.linearise.go md ops fuel t listed []:=by
 intro fuel
 induction fuel with
 |zero=>intro t listed acc;simp[Region.linearise.go]
 |succ fuel ih=>
  intro t listed acc;simp only[Region.linearise.go];split
  ·rename_i i hi;rw[ih _ _ (i::acc),ih _ _ [i]];simp
  ·simp
def Shut(D:DI)(listed:Array Bool):Prop:=∀j,listed.getD j false=true→∀k,before D k j=true→listed.getD k false=true
theorem Jv{listed:Array Bool}{i j:Nat}(hi:i<listed.size):(listed.setIfInBounds i true).getD j false=true↔j=i∨listed.getD j false=true:=by
 simp only[bi,db];by_cases e:i=j
 ·subst e;simp[hi]
 ·simp[e,Ne.symm e]
theorem B9{ops:Array Oper}(hok:∀j o,ops[j]? =some o→J8 o.after.toList j=true):∀(fuel t:Nat) (listed:Array Bool),listed.size=ops.size→Shut (XU ops.toList) listed→
  ((List.range ops.size).filter fun i=>!listed.getD i false).length≤fuel→
  (Region.linearise.go .any ops fuel t listed []).Nodup∧(∀i,i∈Region.linearise.go .any ops fuel t listed []↔i<ops.size∧listed.getD i false=false)∧
  (Region.linearise.go .any ops fuel t listed []).Pairwise (fun a b=>before (XU ops.toList) b a=false):=by
 intro fuel
 induction fuel with
 |zero=>
  intro t listed hsz _ hf;simp only[Region.linearise.go,List.reverse_nil];refine⟨List.nodup_nil,fun i=>⟨fun h=>(by cases h),fun⟨h1,h2⟩=>?_⟩,List.Pairwise.nil⟩;have:i∈((List.range ops.size).filter fun i=>!listed.getD i false):=by
   rw[ct];exact⟨by simpa using h1,by rw[h2];rfl⟩
  have h0:=cn (Nat.le_zero.1 hf);rw[h0]at this;cases this
 |succ fuel ih=>
  intro t listed hsz hsh hf;simp only[Region.linearise.go];generalize hrs:((List.range ops.size).filter fun i=>!listed.getD i true&&((ops[i]?).map (·.after.all fun e=>!Region.binds .any e||listed.getD e.on false)).getD false)=rs;have hready:∀i,i∈rs↔∃o,ops[i]? =some o∧listed.getD i false=false∧∀e∈o.after,Region.binds .any e=true→listed.getD e.on false=true:=by
   intro i;rw[←hrs,ct];constructor
   ·rintro⟨h1,h2⟩;have hlt:i<ops.size:=by simpa using h1
    rw[bw hlt]at h2⊢;simp only[bt,ec,aj,kl,Array.all_eq_true']at h2;refine⟨_,rfl,?_,?_⟩
    ·have:=h2.1;simp only[bi,bw (show i<listed.size by omega)]at this⊢;exact this
    ·intro e he hb;have:=h2.2 e he;rw[hb]at this;simpa using this
   ·rintro⟨o,ho,h1,h2⟩;have hlt:=(aw.1 ho).1;refine⟨by simpa using hlt,?_⟩;rw[ho];simp only[bt,ec,aj,kl,Array.all_eq_true'];refine⟨?_,?_⟩
    ·simp only[bi,bw (show i<listed.size by omega)]at h1⊢;exact h1
    ·intro e he;cases hb:Region.binds .any e with
     |false=>rfl
     |true=>simpa using h2 e he hb
  have hnext:∀i,i∈rs→(i<ops.size∧listed.getD i false=false∧Shut (XU ops.toList) (listed.setIfInBounds i true)):=by
   intro i hi;obtain⟨o,ho,h1,h2⟩:=(hready i).1 hi;have hlt:=(aw.1 ho).1;refine⟨hlt,h1,?_⟩;intro j hj k hk;rw[Jv (by omega)]at hj⊢;rcases hj with rfl|hj
   ·obtain⟨e,he,hb,hc⟩:=Un (ops:=ops.toList) (by simpa using ho) hk;have hl:=h2 e (by simpa using he) hb;rcases hc with rfl|hc
    ·exact .inr hl
    ·exact .inr (hsh _ hl _ hc)
   ·exact .inr (hsh _ hj _ hk)
  split
  ·rename_i i hi;have him:i∈rs:=bb hi;obtain⟨hlt,h1,hsh'⟩:=hnext i him;rw[Zz];simp only[List.reverse_cons,List.reverse_nil,lb,List.singleton_append];have hcnt:((List.range ops.size).filter fun j=>!(listed.setIfInBounds i true).getD j false).length≤fuel:=by
    have hsub:((List.range ops.size).filter fun j=>!(listed.setIfInBounds i true).getD j false)=((List.range ops.size).filter fun j=>!listed.getD j false).erase i:=by
     rw[List.Nodup.erase_eq_filter (List.nodup_range.filter _),List.filter_filter];apply List.filter_congr;intro j _;have:=Jv (listed:=listed) (i:=i) (j:=j) (by omega);cases hj:(listed.setIfInBounds i true).getD j false with
     |true=>
      rcases this.1 hj with rfl|h
      ·simp
      ·rw[h];simp
     |false=>
      have hn:¬(j=i∨listed.getD j false=true):=fun h=>by rw[this.2 h]at hj;cases hj
      have hn1:j≠i:=fun e=>hn (.inl e);have hn2:listed.getD j false=false:=by cases h:listed.getD j false with
       |false=>rfl
       |true=>exact absurd (.inr h) hn
      rw[hn2];simp[hn1]
    have hmem:i∈((List.range ops.size).filter fun j=>!listed.getD j false):=by
     rw[ct];exact⟨by simpa using hlt,by rw[h1];rfl⟩
    rw[hsub,List.length_erase_of_mem hmem];omega
   obtain⟨a,b,c⟩:=ih (t / rs.length) (listed.setIfInBounds i true) (by simpa using hsz) hsh' hcnt;have hnot:∀j,j∈Region.linearise.go .any ops fuel (t / rs.length) (listed.setIfInBounds i true) []→j≠i∧(listed.setIfInBounds i true).getD j false=false:=by
    intro j hj;have h2:=((b j).1 hj).2;refine⟨?_,h2⟩;rintro rfl;rw[(Jv (by omega)).2 (.inl rfl)]at h2;cases h2
   refine⟨?_,?_,?_⟩
   ·exact ek.2 ⟨fun hm=>(hnot i hm).1 rfl,a⟩
   ·intro j;rw[av,b];constructor
    ·rintro(rfl|⟨h2,h3⟩)
     ·exact⟨hlt,h1⟩
     ·refine⟨h2,?_⟩;cases h:listed.getD j false with
      |false=>rfl
      |true=>rw[(Jv (by omega)).2 (.inr h)]at h3;cases h3
    ·rintro⟨h2,h3⟩;by_cases e:j=i
     ·exact .inl e
     ·refine .inr ⟨h2,?_⟩;cases h:(listed.setIfInBounds i true).getD j false with
      |false=>rfl
      |true=>
       rcases(Jv (by omega)).1 h with h|h
       ·exact absurd h e
       ·rw[h3]at h;cases h
   ·refine dn.2 ⟨?_,c⟩;intro j hj;obtain⟨hne,hjl⟩:=hnot j hj;cases hb:before (XU ops.toList) j i with
    |false=>rfl
    |true=>
     have:=hsh' i ((Jv (by omega)).2 (.inl rfl)) j hb;rw[this]at hjl;cases hjl
  ·rename_i hnone;have hrs0:rs=[]:=by
    cases rs with
    |nil=>rfl
    |cons x xs=>
     have hlt:t%(x::xs).length<(x::xs).length:=la _ (by simp);rw[aa hlt]at hnone;cases hnone
   simp only[List.reverse_nil];refine⟨List.nodup_nil,fun i=>⟨fun h=>(by cases h),fun⟨h1,h2⟩=>?_⟩,List.Pairwise.nil⟩;exfalso;have hall:∀m,m<ops.size→listed.getD m false=true:=by
    intro m
    induction m using Nat.strongRecOn with
    |_ m ihm=>
     intro hm;cases hlm:listed.getD m false with
     |true=>rfl
     |false=>
      have ho:=bw hm;have:m∈rs:=(hready m).2 ⟨_,ho,hlm,fun e he hb=>by
       have:=Gl (hok m _ ho) e (by simpa using he) hb;exact ihm e.on this (by omega)⟩
      rw[hrs0]at this;cases this
   rw[hall i h1]at h2;cases h2
theorem Hl{ops:Array Oper}(hok:∀j o,ops[j]? =some o→J8 o.after.toList j=true)(t:Nat):
  (Region.schedule true ops t).Nodup∧(∀i,i∈Region.schedule true ops t↔i<ops.size)∧(Region.schedule true ops t).Pairwise (fun a b=>before (XU ops.toList) b a=false):=by
 have hz:∀j,(Array.replicate ops.size false).getD j false=false:=by
  intro j;simp only[bi,Array.getElem?_replicate];split<;>rfl
 have:=B9 hok ops.size t (Array.replicate ops.size false) (by simp) (fun j hj=>by rw[hz]at hj;cases hj)
  (by refine bd (gm _ _) (by simp))
 simp only[Region.schedule,Bool.true_or,if_true,Region.linearise];refine⟨this.1,fun i=>?_,this.2.2⟩;rw[this.2.1];simp[hz]
end
section
theorem Ky{ops:List Oper}{nt:Nat}(h:QV ops nt=true):
  T1 (XU ops) ops 0=true∧VJ (XU ops) (XU ops).chain=true∧BP (XU ops).dsts=true∧T2 nt (XU ops).dsts=true:=by
 unfold QV at h;split at h
 ·rename_i a b c d;exact⟨a,b,c,d⟩
 ·cases h
theorem Uo{ops:Array Oper}{nt:Nat}(h:QV ops.toList nt=true):∀{j k:Nat} {o:Oper},ops[j]? =some o→before (XU ops.toList) k j=true→k<j:=by
 intro j
 induction j using Nat.strongRecOn with
 |_ j ih=>
  intro k o ho hb;obtain⟨e,he,hbe,hc⟩:=Un (ops:=ops.toList) (by simpa using ho) hb;have hok:=(Zw (Ky h).1 j o (by simpa using ho)).edges;rw[bf]at hok;have hlt:=Gl hok e he hbe;rcases hc with rfl|hc
  ·exact hlt
  ·have hj:=(aw.1 ho).1;have:=ih e.on hlt (bw (show e.on<ops.size by omega)) hc;omega
theorem Qn{ops:Array Oper}{nt:Nat}(h:QV ops.toList nt=true){i:Nat}{o:Oper}(ho:ops[i]? =some o){d:Tmp}(hd:o.dst=some d):
  XK (XU ops.toList).dsts d=some i∧d<nt:=by
 obtain⟨_,_,h3,h4⟩:=Ky h;have hm:(d,i)∈(XU ops.toList).dsts:=GS.2 ⟨o,eu _,by simpa using ho,hd⟩;exact⟨(VL h3).1 hm,LP h4 _ hm⟩
theorem TJ(tm:Array Value)(d:Option Tmp)(v:Value):(MS tm d v).size=tm.size:=by cases d<;>simp[MS]
theorem Pa{tm:Array Value}{d:Option Tmp}{v:Value}{u:Nat}(h:d≠some u):(MS tm d v)[u]? =tm[u]?:=by
 cases d with
 |none=>rfl
 |some x=>
  simp only[MS,db];have:x≠u:=fun e=>h (by rw[e]);simp[this]
theorem TK{tm:Array Value}{d:Tmp}{v:Value}(h:d<tm.size):(MS tm (some d) v)[d]? =some v:=by
 simp[MS,h]
variable {P:Program} {T:Tab} {B:Nat}
theorem Zn.exec'{μ μ':Mu}{A:Xx}{lo hi nt:Nat}{vars:List (Option Value)}{over:List (Nat×Value)}{ops:Array Oper}{t t':Nat}{V V':List (Nat×Value)}{base i:Nat}{rest:List Nat}{tm:Array Value}
  (h:Zn T μ A lo hi nt vars over ops t V base (i::rest) tm) {o:Oper} (ho:ops[i]? =some o) {v v':Value} (hv:XI μ' v v')
  (hm:Mu.Le μ μ') (hpd:∀j,j∈rest→μ (base+j)=none→μ' (base+j)=none)
  (ht:(mem i (XU ops.toList).chain=true∧t'=t+1)∨(mem i (XU ops.toList).chain=false∧t'=t))
  (hV:(V'=V∧XK V i=some v)∨(V'=(i,v)::V∧XK V i=none)):Zn T μ' A lo hi nt vars over ops t' V' base rest (MS tm o.dst v'):=by
 obtain⟨S,h1,h2,h3⟩:=h.ord;have hnd:(i::rest).Nodup:=h2.sublist (List.sublist_append_right _ _);have hi:i∉rest:=(ek.1 hnd).1;have hVi:XK V' i=some v:=by
  rcases hV with⟨rfl,h⟩|⟨rfl,_⟩
  ·exact h
  ·simp[YI]
 have hVo:∀j,j≠i→XK V' j=XK V j:=by
  intro j hj;rcases hV with⟨rfl,_⟩|⟨rfl,_⟩
  ·rfl
  ·simp[YI,Ne.symm hj]
 have hVs:∀k u,XK V k=some u→XK V' k=some u:=by
  intro k u hk;by_cases e:k=i
  ·subst e;rcases hV with⟨rfl,_⟩|⟨rfl,hn⟩
   ·exact hk
   ·rw[hn]at hk;cases hk
  ·rw[hVo k e];exact hk
 refine⟨h.ok,by rw[TJ];exact h.nt,h.lo,h.hi,⟨S++[i],by simpa using h1,by simpa using h2,fun j=>by rw[←h3 j];simp⟩,?_,?_,?_,?_⟩
 ·have hc:=h.chain;rw[jx]at hc;rcases ht with⟨ht,rfl⟩|⟨ht,rfl⟩
  ·rw[ht,if_pos rfl]at hc;have:(XU ops.toList).chain.drop (t+1)=((XU ops.toList).chain.drop t).drop 1:=by rw[List.drop_drop]
   rw[this,←hc];rfl
  ·rw[ht]at hc;simpa using hc
 ·intro j o' hj ho';by_cases e:j=i
  ·subst e;rw[ho]at ho';injection ho' with ho';subst ho';refine⟨v,hVi,fun d hd=>⟨v',?_,hv⟩⟩;rw[hd];exact TK (bq (Qn h.ok ho hd).2 h.nt)
  ·obtain⟨u,a,b⟩:=h.done j o' (fun hm=>(av.1 hm).elim e hj) ho';refine⟨u,by rw[hVo j e];exact a,fun d hd=>?_⟩;obtain⟨u',c,f⟩:=b d hd;refine⟨u',?_,f.mono hm⟩;rw[Pa]
   ·exact c
   ·intro hd2;have x1:=(Qn h.ok ho' hd).1;have x2:=(Qn h.ok ho hd2).1;rw[x1]at x2;injection x2 with x2;exact e x2
 ·intro u w hu hk;obtain⟨w',a,b⟩:=h.old u w hu (fun k hk'=>bc _ (hk k hk'));refine⟨w',?_,b.mono hm⟩;rw[Pa]
  ·exact a
  ·intro hd2;exact hi (hk i (Qn h.ok ho hd2).1)
 ·intro j o' hj ho' hal;obtain⟨a,b⟩:=h.pend j o' (bc _ hj) ho' hal;refine⟨hpd j hj a,fun u hu=>?_⟩;have hne:j≠i:=fun e=>hi (e▸hj);rw[hVo j hne]at hu;exact(b u hu).mono hVs fun _ h _=>h
theorem Zn.exec{μ:Mu}{A:Xx}{lo hi nt:Nat}{vars:List (Option Value)}{over:List (Nat×Value)}{ops:Array Oper}{t t':Nat}{V V':List (Nat×Value)}{base i:Nat}{rest:List Nat}{tm:Array Value}
  (h:Zn T μ A lo hi nt vars over ops t V base (i::rest) tm) {o:Oper} (ho:ops[i]? =some o) {v v':Value} (hv:XI μ v v')
  (ht:(mem i (XU ops.toList).chain=true∧t'=t+1)∨(mem i (XU ops.toList).chain=false∧t'=t))
  (hV:(V'=V∧XK V i=some v)∨(V'=(i,v)::V∧XK V i=none)):Zn T μ A lo hi nt vars over ops t' V' base rest (MS tm o.dst v'):=
 h.exec' ho hv (Mu.Le.refl _) (fun _ _ h=>h) ht hV
theorem PQ{μ:Mu}{A:Xx}{lo hi:Nat}{fr:Xz}{fr':Frame}{ops:Array Oper}{t:Nat}{V Vi:List (Nat×Value)}{base i:Nat}{rest:List Nat}(G:MM μ T.nglob)
  (h:Zn T μ A lo hi fr.nt fr.vars fr.over ops t V base (i::rest) fr'.tmps) (hVi:∀k u,XK Vi k=some u→XK V k=some u):
  Zk μ (dev T.nglob (XU ops.toList) Vi fr.vars fr.over i) fr'.eval:=by
 obtain⟨S,h1,h2,h3⟩:=h.ord;have hlt:∀k,k∈S++i::rest→k<ops.size:=fun k=>(h3 k).1;have hpw:=ff.1 h1;intro x v hx;cases x with
 |tmp u=>
  have hx:mP (XU ops.toList) Vi fr.vars fr.over i u=some v:=hx;have hgo:(∃v',fr'.tmps[u]? =some v'∧XI μ v v')→XI μ v (fr'.eval (.tmp u)):=by
   rintro⟨v',a,b⟩;simp only[Frame.eval,bi,a];exact b
  refine hgo ?_;unfold mP at hx;have hkd:∀k,XK (XU ops.toList).dsts u=some k→∃o,ops[k]? =some o∧o.dst=some u:=by
   intro k hk;have hm:=(VL (Ky h.ok).2.2.1).2 hk;obtain⟨o,_,a,b⟩:=GS.1 hm;exact⟨o,by simpa using a,b⟩
  split at hx
  ·rename_i k hk;obtain⟨o,ho,hd⟩:=hkd k hk;have hks:k∈S++i::rest:=(h3 k).2 (aw.1 ho).1;split at hx
   ·rename_i hb;have hnr:k∉i::rest:=by
     intro hm;rcases av.1 hm with rfl|hm
     ·have:=Uo h.ok ho hb;omega
     ·have:=(dn.1 hpw.2.1).1 k hm;rw[hb]at this;cases this
    obtain⟨w,a,b⟩:=h.done k o hnr ho;rw[hVi k v hx]at a;injection a with a;subst a;exact b u hd
   ·have hin:k∈i::rest→∃v',fr'.tmps[u]? =some v'∧XI μ v v':=by
     intro hm;refine h.old u v ?_ (fun k2 hk2=>by rw[hk]at hk2;injection hk2 with hk2;subst hk2;exact hm);split at hx
     ·exact hx
     ·split at hx
      ·exact hx
      ·cases hx
    apply hin;split at hx
    ·rename_i he;rw[ap he];exact br
    ·split at hx
     ·rename_i hb;rcases co.1 hks with hm|hm
      ·have:=hpw.2.2 k hm i br;rw[hb]at this;cases this
      ·exact hm
     ·cases hx
  ·rename_i hn;exact h.old u v hx (fun k hk=>by rw[hn]at hk;cases hk)
 |const c=>
  have hx:(match YQ c with|true=>some c|false=>none)=some v:=hx;split at hx
  ·rename_i hc;injection hx with hx;subst hx;exact Yu hc μ
  ·cases hx
 |global g=>
  have hx:(match Nat.blt g T.nglob with|true=>some (Value.pointer (some ⟨g,0,none⟩))|false=>none)=some v:=hx;split at hx
  ·rename_i hc;injection hx with hx;subst hx;exact .ptr (e:=⟨g,0,none,0⟩) (G g (by simpa using hc))
  ·cases hx
 |func f=>
  injection hx with hx;subst hx;exact XF.func (fun l h=>by cases h) .nil .nil
end
section
variable {P:Program} {T:Tab} {B:Nat}
theorem F7{μ:Mu}{ops:Array Oper}{tm:Array Value}{g:Nat}{og:Oper}(hg:ops[g]? =some og){u u':Value}{d:Tmp}(hd:og.dst=some d)(ht:tm[d]? =some u')(hu:XI μ u u'){want b:Bool}
  (h:RZ (some u) want=some b):(yielded ops tm g==some want)=b:=by
 have hy:yielded ops tm g=(match u' with| .bool b=>some b|_=>none):=by
  unfold yielded;simp only[hg,fa,hd,ht];cases u'<;>rfl
 rw[hy];cases hu with
 |bool x=>cases x<;>cases want<;>injection h with h<;>subst h<;>rfl
 |tuple hn hx=>cases want<;>injection h with h<;>subst h<;>rfl
 |_=>cases want<;>cases h
theorem Jy{μ:Mu}{A:Xx}{lo hi nt:Nat}{vars:List (Option Value)}{over:List (Nat×Value)}{ops:Array Oper}{t:Nat}{V Vi:List (Nat×Value)}{base i:Nat}{rest:List Nat}{tm:Array Value}
  (h:Zn T μ A lo hi nt vars over ops t V base (i::rest) tm) (hVi:∀k u,XK Vi k=some u→XK V k=some u) {o:Oper} (ho:ops[i]? =some o) {b:Bool}
  (hw:Vf (XU ops.toList) Vi o i=some b):Region.wanted o (yielded ops tm)=b:=by
 unfold Vf at hw;unfold Region.wanted;split at hw
 ·rename_i hg;injection hw with hw;subst hw;simp[hg]
 ·rename_i g want hg;rw[hg];split at hw
  case h_2=>cases hw
  rename_i hb;obtain⟨S,h1,h2,h3⟩:=h.ord;have hpw:=ff.1 h1;have hlt:=Uo h.ok ho hb;have hgs:g<ops.size:=by have:=(aw.1 ho).1;omega
  obtain⟨og,hog⟩:∃og,ops[g]? =some og:=⟨_,bw hgs⟩;have hnr:g∉i::rest:=by
   intro hm;rcases av.1 hm with rfl|hm
   ·omega
   ·have:=(dn.1 hpw.2.1).1 g hm;rw[hb]at this;cases this
  obtain⟨u,a,c⟩:=h.done g og hnr hog;cases hVg:XK Vi g with
  |none=>rw[hVg]at hw;cases want<;>cases hw
  |some u0=>
  have:=hVi g u0 hVg;rw[a]at this;injection this with this;subst this;rw[hVg]at hw;cases hd:og.dst with
  |none=>
   have hok:=(Zw (Ky h.ok).1 i o (by simpa using ho)).guard g want hg;obtain⟨d,hdm⟩:=hok.2;obtain⟨o2,_,x1,x2⟩:=GS.1 hdm;have x1:ops[g]? =some o2:=by simpa using x1
   rw[hog]at x1;injection x1 with x1;subst x1;rw[hd]at x2;cases x2
  |some d=>
   obtain⟨u',e,f⟩:=c d hd;exact F7 hog hd e f hw
end
section
theorem I7{a b:Value}(h:EW a b=true):a=b:=by
 unfold EW at h;split at h
 ·split at h<;>first|rfl|cases h
 ·split at h
  ·rename_i hk;rw[ZV]at h;simp at hk h;subst hk;subst h;rfl
  ·cases h
 ·rfl
 ·split at h
  ·rename_i ha;have ha:=ap ha;have hb:=ap h;subst ha;subst hb;rfl
  ·cases h
 ·split at h
  ·rename_i ha;have ha:=ap ha;have hb:=ap h;subst ha;subst hb;rfl
  ·cases h
 ·split at h
  ·rename_i a b c d;have a:=ap a;have b:=ap b;have c:=ap c;have d:=ap d;subst a;subst b;subst c;subst d;rfl
  ·cases h
 ·rfl
 ·have h:=ap h;subst h;rfl
 ·rfl
 ·rfl
 ·cases h
theorem EX{a b:Value}(h:cO a b=true):a=b:=by
 unfold cO at h;split at h
 ·rw[GK]at h;simp at h;subst h;rfl
 ·exact I7 h
theorem PG:∀{xs ys:List Value},C0 xs ys=true→xs=ys:=by
 intro xs
 induction xs with
 |nil=>intro ys h;cases ys with|nil=>rfl|cons y ys=>cases h
 |cons x xs ih=>
  intro ys h;cases ys with
  |nil=>cases h
  |cons y ys=>
   unfold C0 at h;split at h
   ·rename_i h1;rw[EX h1,ih h]
   ·cases h
theorem cN{a b:Value}(h:vEq a b=true):a=b:=by
 unfold vEq at h;split at h
 ·rw[PG h]
 ·rw[PG h]
 ·split at h
  ·rename_i h1;rw[ap h1,EX h]
  ·cases h
 ·split at h
  ·rename_i a b c;rw[ap a,PG b,PG c]
  ·cases h
 ·exact EX h
end
section
theorem Sm{T:Tab}{A:Xx}{ev:Operand→Option Value}{o:Op}{v:Value}(h:qop T A ev o=some v):aop T A ev o=some (.val v A):=by
 have rpA:∀{r:Option Value} {u:Value} {A':Xx},rp A r=some (.val u A')→A'=A:=by
  intro r u A' h;unfold rp at h;split at h
  ·injection h with h;injection h with _ h;exact h.symm
  ·cases h
 unfold qop at h;split at h
 ·cases h
 rename_i hq;split at h
 case h_2=>cases h
 rename_i u A' ha;have key:A'=A∧u=v:=by
  have hv:(∀s d x,o≠ .convert s d x)→u=v:=by
   intro hn;split at h
   ·rename_i s d x;exact absurd rfl (hn s d x)
   ·injection h
  cases o with
  |move x=>exact⟨rpA ha,hv nofun⟩
  |assign x=>exact⟨rpA ha,hv nofun⟩
  |pick c a b=>
   refine⟨?_,hv nofun⟩;have ha:TB A (ev c) (ev a) (ev b)=some (.val u A'):=ha;unfold TB at ha;split at ha
   ·exact rpA ha
   ·exact rpA ha
   ·cases ha
  |build t ps=>
   refine⟨?_,hv nofun⟩;have ha:(match evP ev ps.toList with|some l=>rp A (QT T t l)|none=>none)=some (.val u A'):=ha;split at ha
   ·exact rpA ha
   ·cases ha
  |load t a=>
   refine⟨?_,hv nofun⟩;have ha:(match ev a with|some v=>rv (HW T A t v)|none=>none)=some (.val u A'):=ha;split at ha
   case h_2=>cases ha
   unfold rv at ha;split at ha
   case h_2=>cases ha
   rename_i x B hx;injection ha with ha;injection ha with _ ha;subst ha;unfold HW at hx;split at hx
   case h_2=>cases hx
   split at hx
   case h_2=>cases hx
   split at hx
   ·split at hx
    ·injection hx with hx;injection hx with _ hx;exact hx.symm
    ·cases hx
   ·split at hx
    ·injection hx with hx;injection hx with _ hx;exact hx.symm
    ·cases hx
  |nilCheck x=>
   refine⟨?_,hv nofun⟩;have ha:(match ev x with|some v=>dH A v|none=>none)=some (.val u A'):=ha;split at ha
   case h_2=>cases ha
   unfold dH at ha;split at ha<;>first|cases ha;done|(injection ha with ha;injection ha with _ ha;exact ha.symm)
  |binOp op t x y yt=>
   refine⟨?_,hv nofun⟩;have ha:(match ev x,ev y with|some v,some u=>rp A (TZ T A op t x y v u)|_,_=>none)=some (.val u A'):=ha;split at ha
   ·exact rpA ha
   ·cases ha
  |unOp op t x=>
   refine⟨?_,hv nofun⟩;have ha:(match ev x with|some v=>rp A (dM op v)|none=>none)=some (.val u A'):=ha;split at ha
   ·exact rpA ha
   ·cases ha
  |convert s d x=>
   have ha:(match ev x with|some v=>rv (Vr T A s d v)|none=>none)=some (.val u A'):=ha;split at ha
   case h_2=>cases ha
   unfold rv at ha;split at ha
   case h_2=>cases ha
   rename_i x B hx;injection ha with ha;injection ha with ha1 ha;subst ha;subst ha1;have hs:(∀a n c,x≠ .slice a n c)∧x=v:=by
    simp only at h;split at h
    ·cases h
    ·rename_i hn;injection h with h;exact⟨fun a n c e=>hn a n c e,h⟩
   refine⟨?_,hs.2⟩;unfold Vr at hx;split at hx
   case h_2=>cases hx
   split at hx
   ·injection hx with hx;injection hx with _ hx;exact hx.symm
   ·injection hx with hx;injection hx with _ hx;exact hx.symm
   ·injection hx with hx;injection hx with _ hx;exact hx.symm
   ·split at hx
    case h_2=>cases hx
    split at hx
    case h_2=>cases hx
    split at hx
    case h_2=>cases hx
    injection hx with hx;injection hx with hx _;exact absurd hx.symm (hs.1 _ _ _)
   ·split at hx
    case h_2=>cases hx
    split at hx
    case h_2=>cases hx
    split at hx
    case h_2=>cases hx
    split at hx
    ·split at hx
     ·injection hx with hx;injection hx with _ hx;exact hx.symm
     ·cases hx
    ·split at hx
     ·injection hx with hx;injection hx with _ hx;exact hx.symm
     ·split at hx
      case h_2=>cases hx
      split at hx
      ·injection hx with hx;injection hx with _ hx;exact hx.symm
      ·cases hx
    ·cases hx
   ·split at hx
    case h_2=>cases hx
    split at hx
    case h_2=>cases hx
    split at hx
    ·cases hx
    ·injection hx with hx;injection hx with _ hx;exact hx.symm
   ·cases hx
  |makeInterface t x=>
   refine⟨?_,hv nofun⟩;have ha:(match ev x with|some v=>rp A (QO T t v)|none=>none)=some (.val u A'):=ha;split at ha
   ·exact rpA ha
   ·cases ha
  |makeFunc fn first captured=>
   refine⟨?_,hv nofun⟩;have ha:(match evL ev first.toList,evL ev captured.toList with|some a,some b=>TF A fn a b|_,_=>none)=some (.val u A'):=ha;split at ha
   case h_2=>cases ha
   unfold TF at ha;split at ha
   ·injection ha with ha;injection ha with _ ha;exact ha.symm
   ·cases ha
  |slice t x lo hi mx=>
   refine⟨?_,hv nofun⟩;cases mx with
   |some m=>
    cases hi with
    |none=>cases ha
    |some hi=>
     have ha:(match ev x,evO ev lo,ev hi,ev m with|some v,some l,some h,some m=>rp A (HS T A t v l h m)|_,_,_,_=>none)=some (.val u A'):=ha;split at ha
     ·exact rpA ha
     ·cases ha
   |none=>
    have ha:(match ev x,evO ev lo,evO ev hi with|some v,some l,some h=>rp A (QL T A t v l h)|_,_,_=>none)=some (.val u A'):=ha;split at ha
    ·exact rpA ha
    ·cases ha
  |fieldAddr t x f=>
   refine⟨?_,hv nofun⟩;have ha:(match ev x with|some v=>rp A (JF T t v f)|none=>none)=some (.val u A'):=ha;split at ha
   ·exact rpA ha
   ·cases ha
  |field t x f=>
   refine⟨?_,hv nofun⟩;have ha:(match ev x with|some v=>rp A (QP T t v f)|none=>none)=some (.val u A'):=ha;split at ha
   ·exact rpA ha
   ·cases ha
  |indexAddr t x i=>
   refine⟨?_,hv nofun⟩;have ha:(match ev x,ev i with|some v,some u=>rp A (JE T t v u)|_,_=>none)=some (.val u A'):=ha;split at ha
   ·exact rpA ha
   ·cases ha
  |index t x i=>
   refine⟨?_,hv nofun⟩;have ha:(match ev x,ev i with|some v,some u=>rp A (QN T t v u)|_,_=>none)=some (.val u A'):=ha;split at ha
   ·exact rpA ha
   ·cases ha
  |lookup t x i ok=>
   refine⟨?_,hv nofun⟩;have ha:(match ev x,ev i with|some v,some u=>rp A (HV T A t v u ok)|_,_=>none)=some (.val u A'):=ha;split at ha
   ·exact rpA ha
   ·cases ha
  |entry it=>
   refine⟨?_,hv nofun⟩;have ha:(match ev it with|some v=>rp A (QR A v)|none=>none)=some (.val u A'):=ha;split at ha
   ·exact rpA ha
   ·cases ha
  |typeAssert x xt t ok=>
   refine⟨?_,hv nofun⟩;have ha:(match ev x with|some v=>rp A (HY T v t ok)|none=>none)=some (.val u A'):=ha;split at ha
   ·exact rpA ha
   ·cases ha
  |extract x i=>
   refine⟨?_,hv nofun⟩;have ha:(match ev x with|some v=>rp A (Gj v i)|none=>none)=some (.val u A'):=ha;split at ha
   ·exact rpA ha
   ·cases ha
  |call c=>
   refine⟨?_,hv nofun⟩;obtain⟨callee,args,argTypes⟩:=c;cases callee with
   |value f=>cases hq
   |invoke r n=>cases hq
   |builtin b=>
    have ha:(match evL ev args.toList with|some args=>VG T A b argTypes.toList args|none=>none)=some (.val u A'):=ha;split at ha
    case h_2=>cases ha
    cases b with
    |len=>
     unfold VG at ha;split at ha<;>first|exact rpA ha|cases ha;done|(rename_i he _;cases he)
    |min=>
     unfold VG at ha;split at ha<;>first|exact rpA ha|cases ha;done|(rename_i he _;cases he)
    |max=>
     unfold VG at ha;split at ha<;>first|exact rpA ha|cases ha;done|(rename_i he _;cases he)
    |_=>cases hq
  |_=>cases hq
 rw[ha,key.1,key.2]
end
section
def Sub(V V':List (Nat×Value)):Prop:=∀k u,XK V k=some u→XK V' k=some u
theorem Sub.refl(V:List (Nat×Value)):Sub V V:=fun _ _ h=>h
theorem Sub.trans{a b c:List (Nat×Value)}(h:Sub a b)(k:Sub b c):Sub a c:=fun x u hx=>k x u (h x u hx)
theorem Sub.cons{V:List (Nat×Value)}{j:Nat}{v:Value}(h:XK V j=none):Sub V ((j,v)::V):=by
 intro k u hk;rw[YI];by_cases e:j=k
 ·subst e;rw[h]at hk;cases hk
 ·simp[e,hk]
theorem H2{V:List (Nat×Value)}{j k:Nat}{v:Value}(h:k≠j):XK ((j,v)::V) k=XK V k:=by
 rw[YI];simp[Ne.symm h]
theorem Q4{V:List (Nat×Value)}{j:Nat}{v:Value}:XK ((j,v)::V) j=some v:=by
 rw[YI];simp
def gK(T:Tab)(D:DI)(A:Xx)(vars:List (Option Value))(over:List (Nat×Value))(Vi:List (Nat×Value))(o:Oper)(j:Nat)(v:Value):Prop:=
 (Vf D Vi o j=some true∧qop T A (dev T.nglob D Vi vars over j) o.op=some v)∨(Vf D Vi o j=some false∧v=undef)
theorem J4{o:Op}(h:Bb o=true):Kz o=false:=by
 cases o<;>first|rfl|cases h
theorem YH(n j:Nat):Nat.succ n+j=n+(j+1):=by omega
theorem OD{T:Tab}{D:DI}{A:Xx}{vars:List (Option Value)}{over:List (Nat×Value)}{done pending:List Nat}:∀{ops:List Oper} {n:Nat} {V V1:List (Nat×Value)},
  UW T D A vars over done pending ops n V=some V1→
  Sub V V1∧(∀k,(∀j o,ops[j]? =some o→Kz o.op=true→k≠n+j)→XK V1 k=XK V k)∧
  (∀j o,ops[j]? =some o→Kl D (n+j) pending=true→Km D (n+j) done=true→Kz o.op=true→∃Vi v,Sub Vi V1∧XK V1 (n+j)=some v∧gK T D A vars over Vi o (n+j) v)∧
  (∀j o,ops[j]? =some o→Kl D (n+j) pending=true→Km D (n+j) done=true→Bb o.op=true→∃v,XK V1 (n+j)=some v):=by
 intro ops
 induction ops with
 |nil=>
  intro n V V1 h;injection h with h;subst h;exact⟨Sub.refl _,fun _ _=>rfl,fun j o h=>by simp at h,fun j o h=>by simp at h⟩
 |cons o ops ih=>
  intro n V V1 h;unfold UW at h;have step:∀{V':List (Nat×Value)},Sub V V'→(∀k,k≠n→XK V' k=XK V k)→(Kz o.op=false→V'=V)→UW T D A vars over done pending ops (Nat.succ n) V'=some V1→
    (Kl D n pending=true→Km D n done=true→Kz o.op=true→∃Vi v,Sub Vi V1∧XK V1 n=some v∧gK T D A vars over Vi o n v)→
    (Kl D n pending=true→Km D n done=true→Bb o.op=true→∃v,XK V1 n=some v)→
    Sub V V1∧(∀k,(∀j o',(o::ops)[j]? =some o'→Kz o'.op=true→k≠n+j)→XK V1 k=XK V k)∧
    (∀j o',(o::ops)[j]? =some o'→Kl D (n+j) pending=true→Km D (n+j) done=true→Kz o'.op=true→∃Vi v,Sub Vi V1∧XK V1 (n+j)=some v∧gK T D A vars over Vi o' (n+j) v)∧
    (∀j o',(o::ops)[j]? =some o'→Kl D (n+j) pending=true→Km D (n+j) done=true→Bb o'.op=true→∃v,XK V1 (n+j)=some v):=by
   intro V' h1 h2 h3 h4 h5 h6;obtain⟨a,b,c,d⟩:=ih h4;refine⟨h1.trans a,?_,?_,?_⟩
   ·intro k hk;have hb:XK V1 k=XK V' k:=b k (fun j o' ho' hq=>by rw[YH];exact hk (j+1) o' (by simpa using ho') hq);rw[hb];cases hq:Kz o.op with
    |false=>rw[h3 hq]
    |true=>exact h2 k (by simpa using hk 0 o rfl hq)
   ·intro j o' ho' hx hy hq;cases j with
    |zero=>simp at ho';subst ho';exact h5 hx hy hq
    |succ j=>simp at ho';rw[←YH]at hx hy⊢;exact c j o' ho' hx hy hq
   ·intro j o' ho' hx hy hq;cases j with
    |zero=>simp at ho';subst ho';exact h6 hx hy hq
    |succ j=>simp at ho';rw[←YH]at hx hy⊢;exact d j o' ho' hx hy hq
  split at h
  ·rename_i hq;split at h
   ·cases h
   ·rename_i hne;refine step (Sub.refl _) (fun _ _=>rfl) (fun _=>rfl) h (fun _ _ hq'=>by rw[hq]at hq';cases hq') ?_;intro hx hy hal;cases hv:XK V n with
    |none=>exact absurd hv (hne hal hx hy)
    |some v=>exact⟨v,(ih h).1 n v hv⟩
  ·rename_i hq;split at h
   ·rename_i hx hy;split at h
    case h_2=>cases h
    rename_i v hv;have hqv:gK T D A vars over V o n v:=by
     split at hv
     ·rename_i hw;exact .inl ⟨hw,hv⟩
     ·rename_i hw;injection hv with hv;exact .inr ⟨hw,hv.symm⟩
     ·cases hv
    split at h
    ·rename_i hn;have hs:=(ih h).1;refine step (Sub.cons hn) (fun k hk=>H2 hk) (fun hq'=>by rw[hq]at hq';cases hq') h (fun _ _ _=>⟨V,v,(Sub.cons hn).trans hs,hs n v Q4,hqv⟩) (fun _ _ hal=>by rw[J4 hal]at hq;cases hq)
    ·rename_i u hu;split at h
     case h_2=>cases h
     rename_i he;have he:=cN he;subst he;have hs:=(ih h).1;refine step (Sub.refl _) (fun _ _=>rfl) (fun _=>rfl) h (fun _ _ _=>⟨V,u,hs,hs n u hu,hqv⟩) (fun _ _ hal=>by rw[J4 hal]at hq;cases hq)
   ·rename_i hne;refine step (Sub.refl _) (fun _ _=>rfl) (fun _=>rfl) h (fun hx hy _=>absurd hy (hne hx)) (fun hx hy _=>absurd hy (hne hx))
structure bD(T:Tab)(D:DI)(vars:List (Option Value))(over:List (Nat×Value))(base:Nat)(ops:List Oper)(n:Nat)(A:Xx)(V:List (Nat×Value))(A1:Xx)(V1:List (Nat×Value)):Prop where
 sub:Sub V V1
 next:A1.next=A.next
 fams:A1.fams=A.fams
 heap:∀b,(∀j o,ops[j]? =some o→Bb o.op=true→XK V (n+j)=none→b≠base+(n+j))→A1.heap.get b=A.heap.get b
 new:∀b ob,A1.heap.get b=some ob→A.heap.get b=some ob∨(Vs ob=true∧∃j o,ops[j]? =some o∧Bb o.op=true∧XK V (n+j)=none∧b=base+(n+j))
 pend:∀j o v,ops[j]? =some o→Bb o.op=true→XK V (n+j)=none→XK V1 (n+j)=some v→PC T A1 D V1 vars over base (n+j) o v
 look:∀k,(∀j o,ops[j]? =some o→k≠n+j)→XK V1 k=XK V k
theorem WO{T:Tab}{D:DI}{vars:List (Option Value)}{over:List (Nat×Value)}{done pending:List Nat}{base:Nat}:∀{ops:List Oper} {n:Nat} {A:Xx} {V:List (Nat×Value)} {A1:Xx} {V1:List (Nat×Value)},
  dpre T D vars over done pending base ops n A V=some (A1,V1)→bD T D vars over base ops n A V A1 V1:=by
 intro ops
 induction ops with
 |nil=>
  intro n A V A1 V1 h;injection h with h;injection h with h1 h2;subst h1;subst h2;exact⟨Sub.refl _,rfl,rfl,fun _ _=>rfl,fun _ _ h=> .inl h,fun j o v h=>by simp at h,fun _ _=>rfl⟩
 |cons o ops ih=>
  intro n A V A1 V1 h;unfold dpre at h;have step:∀{V':List (Nat×Value)},Sub V V'→(∀k,k≠n→XK V' k=XK V k)→dpre T D vars over done pending base ops (Nat.succ n) A V'=some (A1,V1)→
    (∀v,Bb o.op=true→XK V n=none→XK V1 n=some v→PC T A1 D V1 vars over base n o v)→bD T D vars over base (o::ops) n A V A1 V1:=by
   intro V' h1 h2 h4 h5;have k:=ih h4;have hn:∀j,n+(j+1)≠n:=fun j=>by omega
   refine⟨h1.trans k.sub,k.next,k.fams,?_,?_,?_,?_⟩
   ·intro b hb;refine k.heap b fun j o' ho' hal hno=>?_;rw[YH]at hno⊢;rw[h2 _ (hn j)]at hno;exact hb (j+1) o' (by simpa using ho') hal hno
   ·intro b ob hb;rcases k.new b ob hb with h|⟨h,j,o',a,b',c,d⟩
    ·exact .inl h
    ·rw[YH]at c d;rw[h2 _ (hn j)]at c;exact .inr ⟨h,j+1,o',by simpa using a,b',c,d⟩
   ·intro j o' v ho' hal hno hv;cases j with
    |zero=>simp at ho';subst ho';exact h5 v hal hno hv
    |succ j=>
     simp at ho';rw[←h2 _ (hn j)]at hno;rw[←YH]at hno hv⊢;exact k.pend j o' v ho' hal hno hv
   ·intro q hq;rw[k.look q (fun j o' ho'=>by rw[YH];exact hq (j+1) o' (by simpa using ho'))];exact h2 q (by simpa using hq 0 o rfl)
  have same:∀{V':List (Nat×Value)},dpre T D vars over done pending base ops (Nat.succ n) A V'=some (A1,V1)→XK V1 n=XK V' n:=by
   intro V' h4;exact(ih h4).look n (fun j o' _=>by rw[YH];omega)
  split at h
  ·rename_i hc;refine step (Sub.refl _) (fun _ _=>rfl) h fun v hal=>?_;unfold Gu at hc;rw[hal,J4 hal]at hc;cases hc
  ·split at h
   ·rename_i u hu;exact step (Sub.refl _) (fun _ _=>rfl) h fun v _ hno=>by rw[hno]at hu;cases hu
   ·rename_i hno;split at h
    ·split at h
     ·rename_i hw;split at h
      ·rename_i hal;split at h
       case h_2=>cases h
       rename_i ob mk ha;split at h
       case h_2=>cases h
       rename_i hng hlt;have hlt:base+n<16000000:=by simpa using hlt
       have k:=ih h;have hn:∀j,n+(j+1)≠n:=fun j=>by omega
       have h2:∀k,k≠n→XK ((n,mk (Nat.add base n))::V) k=XK V k:=fun k hk=>H2 hk;have hhead:A1.heap.get (base+n)=some ob:=by
        rw[k.heap _ (fun j o' _ _ _=>by rw[YH];omega)];exact Tr.get_put_there _ _ _ (by have:base.add n=base+n:=rfl;omega)
       refine⟨(Sub.cons hno).trans k.sub,k.next,k.fams,?_,?_,?_,?_⟩
       ·intro b hb;rw[k.heap b fun j o' ho' hal' hno'=>by
         rw[YH]at hno'⊢;rw[h2 _ (hn j)]at hno';exact hb (j+1) o' (by simpa using ho') hal' hno']
        exact Tr.get_put_other _ _ _ _ (by simpa using hb 0 o rfl hal (by simpa using hno))
       ·intro b ob' hb;rcases k.new b ob' hb with h|⟨h,j,o',a,b',c,d⟩
        ·rcases Tr.get_put h with⟨h1,h2⟩|⟨_,h2⟩
         ·injection h2 with h2;subst h2;exact .inr ⟨hng,0,o,rfl,hal,by simpa using hno,h1⟩
         ·exact .inl h2
        ·rw[YH]at c d;rw[h2 _ (hn j)]at c;exact .inr ⟨h,j+1,o',by simpa using a,b',c,d⟩
       ·intro j o' v ho' hal' hno' hv;cases j with
        |zero=>
         simp at ho';subst ho';have hv1:=k.sub n _ (Q4 (V:=V) (j:=n) (v:=mk (Nat.add base n)));have hv:XK V1 n=some v:=hv;rw[hv1]at hv;injection hv with hv;subst hv;exact⟨V,(Sub.cons hno).trans k.sub, .inr ⟨hw,ob,mk,ha,rfl,hhead,hng⟩⟩
        |succ j=>
         simp at ho';rw[←h2 _ (hn j)]at hno';rw[←YH]at hno' hv⊢;exact k.pend j o' v ho' hal' hno' hv
       ·intro q hq;rw[k.look q (fun j o' ho'=>by rw[YH];exact hq (j+1) o' (by simpa using ho'))];exact h2 q (by simpa using hq 0 o rfl)
      ·rename_i hal;have hx:∀{v:Value} {X:Prop},Bb o.op=true→X:=fun h=>by rw[h]at hal;cases hal
       split at h
       ·exact step (Sub.cons hno) (fun k hk=>H2 hk) h fun v h=>by rw[h]at hal;cases hal
       ·exact step (Sub.refl _) (fun _ _=>rfl) h fun v h=>by rw[h]at hal;cases hal
     ·rename_i hw;refine step (Sub.cons hno) (fun k hk=>H2 hk) h fun v hal _ hv=>?_;rw[same h,Q4]at hv;injection hv with hv;subst hv;exact⟨V,(Sub.cons hno).trans (ih h).sub, .inl ⟨hw,rfl⟩⟩
     ·refine step (Sub.refl _) (fun _ _=>rfl) h fun v hal _ hv=>?_;rw[same h,hno]at hv;cases hv
    ·refine step (Sub.refl _) (fun _ _=>rfl) h fun v hal _ hv=>?_;rw[same h,hno]at hv;cases hv
end
section
variable {P:Program} {T:Tab} {B:Nat} {cs0:List Frame}
structure CT(T:Tab)(D:DI)(A1:Xx)(vars:List (Option Value))(over:List (Nat×Value))(done pending:List Nat)(ops:Array Oper)(V1:List (Nat×Value)):Prop where
 quiet:∀j o,ops[j]? =some o→Kl D j pending=true→Km D j done=true→Kz o.op=true→∃Vi v,Sub Vi V1∧XK V1 j=some v∧gK T D A1 vars over Vi o j v
 als:∀j o,ops[j]? =some o→Kl D j pending=true→Km D j done=true→Bb o.op=true→∃v,XK V1 j=some v
theorem Oz{D:DI}{A A1:Xx}{vars:List (Option Value)}{over:List (Nat×Value)}{done pending:List Nat}{base:Nat}{ops:Array Oper}{V V1:List (Nat×Value)}
  (h:OA T D A vars over done pending base ops.toList V=some (A1,V1)):
  ∃Va,bD T D vars over base ops.toList 0 A V A1 Va∧UW T D A1 vars over done pending ops.toList 0 Va=some V1:=by
 unfold OA at h;split at h
 ·split at h
  case h_2=>cases h
  rename_i V2 h2;injection h with h;injection h with h1 h3;subst h1;subst h3;refine⟨V,⟨Sub.refl _,rfl,rfl,fun _ _=>rfl,fun _ _ h=> .inl h,?_,fun _ _=>rfl⟩,h2⟩;intro j o v _ _ a b;rw[a]at b;cases b
 ·split at h
  case h_2=>cases h
  rename_i A2 V2 h2;split at h
  case h_2=>cases h
  rename_i V3 h3;injection h with h;injection h with h1 h4;subst h1;subst h4;exact⟨V2,WO h2,h3⟩
theorem C9{μ:Mu}{A A1:Xx}{lo hi nt:Nat}{vars:List (Option Value)}{over:List (Nat×Value)}{ops:Array Oper}{t:Nat}{V V1:List (Nat×Value)}{base:Nat}{rest:List Nat}{tm:Array Value}{hp:Array Obj}{done pending:List Nat}
  (h:Zn T μ A lo hi nt vars over ops t V base rest tm) (R:Yi μ B A hp) (hhi:hi≤A.next)
  (hs:OA T (XU ops.toList) A vars over done pending base ops.toList V=some (A1,V1)):
  Zn T μ A1 lo hi nt vars over ops t V1 base rest tm∧Yi μ B A1 hp∧CT T (XU ops.toList) A1 vars over done pending ops V1∧A1.next=A.next∧Kept lo μ A A1:=by
 obtain⟨Va,hp1,hpass⟩:=Oz hs;obtain⟨s1,s2,s3,s4⟩:=OD hpass;have hsub:=hp1.sub.trans s1;have hget:∀{j:Nat} {o:Oper},ops.toList[j]? =some o↔ops[j]? =some o:=by intro j o;simp
 have hrest:∀{j:Nat} {o:Oper},ops[j]? =some o→XK V j=none→j∈rest:=by
  intro j o ho hn;rcases Classical.em (j∈rest)with h1|h1
  ·exact h1
  ·obtain⟨v,a,_⟩:=h.done j o h1 ho;rw[hn]at a;cases a
 refine⟨⟨h.ok,h.nt,h.lo,h.hi,h.ord,h.chain,?_,h.old,?_⟩,?_,?_,hp1.next,?_⟩
 ·intro i o hi' ho;obtain⟨v,a,b⟩:=h.done i o hi' ho;exact⟨v,hsub i v a,b⟩
 ·intro j o hj ho hal;obtain⟨a,b⟩:=h.pend j o hj ho hal;refine⟨a,fun v hv=>?_⟩;rw[s2 j (fun j' o' ho' hq=>by
   rintro rfl;rw[bf]at ho;rw[Option.some.inj (ho'.symm.trans (hget.2 ho)),J4 hal]at hq;cases hq)]at hv
  cases hVj:XK V j with
  |some v'=>
   have:=hp1.sub j v' hVj;rw[hv]at this;injection this with this;subst this;refine(b v hVj).mono hsub fun ob h5 _=>?_;rw[hp1.heap _ (fun j' o' _ _ hn=>by
    intro e;have:j=j':=by omega
    subst this;rw[bf,hVj]at hn;cases hn)]
   exact h5
  |none=>
   have:=hp1.pend j o v (hget.2 ho) hal (by rw[bf];exact hVj) (by rw[bf];exact hv);rw[bf]at this;exact this.mono s1 fun _ h _=>h
 ·refine⟨R.base,?_,?_,R.sep,?_,?_⟩
  ·intro b o e hb he;rcases hp1.new b o hb with h1|⟨_,j,o',ho',hal,hn,rfl⟩
   ·exact R.obj b o e h1 he
   ·rw[bf]at hn he;have:=(h.pend j o' (hrest (hget.1 ho') hn) (hget.1 ho') hal).1;rw[this]at he;cases he
  ·intro b e he;rw[hp1.next];exact R.dom b e he
  ·intro b xs g hb;rw[hp1.next,hp1.fams];rcases hp1.new b _ hb with h1|⟨hng,_⟩
   ·exact R.memb b xs g h1
   ·cases hng
  ·intro b o hb;rw[hp1.next];rcases hp1.new b o hb with h1|⟨_,j,o',ho',_,_,rfl⟩
   ·exact R.live b o h1
   ·have:=(aw.1 (hget.1 ho')).1;have:=h.hi;omega
 ·refine⟨?_,?_⟩
  ·intro j o ho hx hy hq;have:=s3 j o (hget.2 ho) (by rw[bf];exact hx) (by rw[bf];exact hy) hq;rw[bf]at this;exact this
  ·intro j o ho hx hy hq;have:=s4 j o (hget.2 ho) (by rw[bf];exact hx) (by rw[bf];exact hy) hq;rw[bf]at this;exact this
 ·intro b o hb _ ho _;rw[hp1.heap b (fun j o' _ _ _=>by have:=h.lo;omega)];exact ho
theorem Hf:∀(ops:List Oper) (n:Nat),(JK ops n).Pairwise (· < ·)∧∀x∈JK ops n,n≤x:=by
 intro ops
 induction ops with
 |nil=>intro n;exact⟨List.Pairwise.nil,fun x h=>by cases h⟩
 |cons o ops ih=>
  intro n;obtain⟨a,b⟩:=ih (Nat.succ n);unfold JK;split
  ·exact⟨a,fun x hx=>by have:=b x hx;omega⟩
  ·refine⟨dn.2 ⟨fun x hx=>b x hx,a⟩,fun x hx=>?_⟩;rcases av.1 hx with rfl|hx
   ·exact ak _
   ·have:=b x hx;omega
theorem Lz{D:DI}{j:Nat}{l:List Nat}(h:∀c∈l,before D c j=false):Kl D j l=true:=by
 induction l with
 |nil=>rfl
 |cons c l ih=>
  unfold Kl;rw[h c (by simp)];exact ih fun c' hc=>h c' (by simp[hc])
theorem LA{D:DI}{j:Nat}{l:List Nat}(h:∀c∈l,before D j c=false):Km D j l=true:=by
 induction l with
 |nil=>rfl
 |cons c l ih=>
  unfold Km;rw[h c (by simp)];exact ih fun c' hc=>h c' (by simp[hc])
theorem DZ:∀(l:List Nat) (n:Nat),M3 l n=l.take n:=by
 intro l
 induction l with
 |nil=>intro n;cases n<;>rfl
 |cons x l ih=>
  intro n;cases n with
  |zero=>rfl
  |succ n=>exact ee (x::·) (ih n)
theorem Ax{μ:Mu}{A:Xx}{lo hi nt:Nat}{vars:List (Option Value)}{over:List (Nat×Value)}{ops:Array Oper}{t:Nat}{V:List (Nat×Value)}{base i:Nat}{rest:List Nat}{tm:Array Value}
  (h:Zn T μ A lo hi nt vars over ops t V base (i::rest) tm) (hi:mem i (XU ops.toList).chain=false):
  Kl (XU ops.toList) i (Kg (XU ops.toList).chain t)=true∧Km (XU ops.toList) i (M3 (XU ops.toList).chain t)=true:=by
 obtain⟨S,h1,h2,h3⟩:=h.ord;have hpw:=ff.1 h1;have hc:=h.chain;rw[jx,hi]at hc;simp only[de,dg]at hc;refine⟨Lz fun c hm=>?_,LA fun c hm=>?_⟩
 ·rw[Kw,←hc,ct]at hm;exact(dn.1 hpw.2.1).1 c hm.1
 ·rw[DZ]at hm;have hch:c∈(XU ops.toList).chain:=jf hm;obtain⟨o,_,ho,_⟩:=VN.1 hch;have hsz:c<ops.size:=by
   have ho:ops[c]? =some o:=by simpa using ho
   exact(aw.1 ho).1
  have hne:c≠i:=by rintro rfl;rw[BY]at hi;exact hi hch
  rcases co.1 ((h3 c).2 hsz)with hS|hr
  ·exact hpw.2.2 c hS i (by simp)
  ·rcases av.1 hr with e|hr
   ·exact absurd e hne
   ·exfalso;have:c∈(XU ops.toList).chain.drop t:=by rw[←hc,ct];exact⟨hr,H1.2 hch⟩
    have hs:=(Hf ops.toList 0).1;have hs:(XU ops.toList).chain.Pairwise (· < ·):=hs;rw[←fk t (XU ops.toList).chain]at hs;have:=(ff.1 hs).2.2 c hm c this;omega
end
section
variable {P:Program} {T:Tab} {B:Nat} {cs0:List Frame}
theorem HE{fr:Frame}{cs:List Frame}{w:World}{ops:Array Oper}{i:Nat}{rest:List Nat}{k:List Item}{o:Oper}(hm:fr.mode= .run)(ht:fr.todo= .inRegion ops (i::rest)::k)
  (ho:ops[i]? =some o) (hw:Region.wanted o (yielded ops fr.tmps)=true) (hd:fr.roundOf=none∨∀c,o.op≠ .defer c):
  stepG P true {frame:=fr,callers:=cs,status:= .running,dying:=none} w=stepG.apply P true fr cs none (execOp fr.eval o) w:=by
 simp only[stepG,stepG.exec,hm,ht,ho,bt,ec,hw,if_true,stepG.oper,Frame.oper?];rcases hd with hd|hd
 ·simp only[hd]
 ·split
  ·rename_i h;exact absurd h (hd _)
  ·rfl
theorem PI{fr:Frame}{cs:List Frame}{w w':World}{ops:Array Oper}{i:Nat}{rest:List Nat}{k:List Item}{o:Oper}(hm:fr.mode= .run)(ht:fr.todo= .inRegion ops (i::rest)::k)
  (ho:ops[i]? =some o) (hw:Region.wanted o (yielded ops fr.tmps)=true) (hd:fr.roundOf=none∨∀c,o.op≠ .defer c) {v:Value} (hr:(execOp fr.eval o).run P w= .ok (.value v) w'):
  Steps P (lone fr cs w) (lone (fr.finish v) cs w'):=by
 refine .one (dp ?_);rw[HE hm ht ho hw hd];simp only[stepG.apply,fy,hr,if_true,ex,jy]
theorem Hk{fr:Frame}{cs:List Frame}{w:World}{ops:Array Oper}{i:Nat}{rest:List Nat}{k:List Item}{o:Oper}(hm:fr.mode= .run)(ht:fr.todo= .inRegion ops (i::rest)::k)
  (ho:ops[i]? =some o) (hw:Region.wanted o (yielded ops fr.tmps)=false):
  Steps P (lone fr cs w) (lone (fr.finish undef) cs w):=by
 refine .one (dp ?_);simp[stepG,stepG.exec,hm,ht,ho,hw]
theorem KG{fr:Frame}{ops:Array Oper}{i:Nat}{rest:List Nat}{k:List Item}{o:Oper}(ht:fr.todo= .inRegion ops (i::rest)::k)(ho:ops[i]? =some o)(v:Value):
  fr.finish v= {fr with tmps:=MS fr.tmps o.dst v,todo:= .inRegion ops rest::k}:=by
 simp only[Frame.finish,ht,ho,fa];cases o.dst<;>rfl
theorem ZS{o:Op}(h:Kz o=true∨Bb o=true):∀c,o≠ .defer c:=by
 rintro c rfl;rcases h with h|h<;>cases h
theorem Zn.lohi{μ:Mu}{A:Xx}{lo hi nt:Nat}{vars:List (Option Value)}{over:List (Nat×Value)}{ops:Array Oper}{t:Nat}{V:List (Nat×Value)}{base:Nat}{rest:List Nat}{tm:Array Value}
  (h:Zn T μ A lo hi nt vars over ops t V base rest tm):lo≤hi:=by have:=h.lo;have:=h.hi;omega
theorem TH(C:YN P T){A:Xx}{lo hi:Nat}{fr:Xz}{ops:Array Oper}{t:Nat}{V:List (Nat×Value)}{base:Nat}{k:List Item}{cs:List Frame}(hhi:hi≤A.next)
  (hs:CT T (XU ops.toList) A fr.vars fr.over (M3 (XU ops.toList).chain t) (Kg (XU ops.toList).chain t) ops V):
  ∀(rest:List Nat) {μ:Mu} {fr':Frame} {w:World},fr'.mode= .run→fr'.todo= .inRegion ops rest::k→Zn T μ A lo hi fr.nt fr.vars fr.over ops t V base rest fr'.tmps→Yi μ B A w.heap→MM μ T.nglob→
  ∃μ' tm w' rest',Mu.Ext lo μ μ'∧Steps P (lone fr' cs w) (lone {fr' with tmps:=tm,todo:= .inRegion ops rest'::k} cs w')∧Below B w w'∧
   Zn T μ' A lo hi fr.nt fr.vars fr.over ops t V base rest' tm∧Yi μ' B A w'.heap∧(rest'=[]∨∃c r,rest'=c::r∧mem c (XU ops.toList).chain=true):=by
 intro rest
 induction rest with
 |nil=>
  intro μ fr' w _ ht hd R _;refine⟨μ,fr'.tmps,w,[],Mu.Ext.refl _ _,?_,bg _ _,hd,R, .inl rfl⟩;rw[←ht];exact Steps.refl _ _
 |cons i rest ih=>
  intro μ fr' w hm ht hd R G;cases hc:mem i (XU ops.toList).chain with
  |true=>
   refine⟨μ,fr'.tmps,w,i::rest,Mu.Ext.refl _ _,?_,bg _ _,hd,R, .inr ⟨i,rest,rfl,hc⟩⟩;rw[←ht];exact Steps.refl _ _
  |false=>
   obtain⟨ho1,ho2⟩:=Ax hd hc;obtain⟨S,h1,h2,h3⟩:=hd.ord;have hlt:i<ops.size:=(h3 i).1 (by simp);obtain⟨o,ho⟩:∃o,ops[i]? =some o:=⟨_,bw hlt⟩;have go:∀{μ1:Mu} {v v':Value} {w1:World},Mu.Ext lo μ μ1→(∀j,j∈rest→μ (base+j)=none→μ1 (base+j)=none)→XK V i=some v→XI μ1 v v'→Yi μ1 B A w1.heap→Below B w w1→
     Steps P (lone fr' cs w) (lone (fr'.finish v') cs w1)→
     ∃μ' tm w' rest',Mu.Ext lo μ μ'∧Steps P (lone fr' cs w) (lone {fr' with tmps:=tm,todo:= .inRegion ops rest'::k} cs w')∧Below B w w'∧
      Zn T μ' A lo hi fr.nt fr.vars fr.over ops t V base rest' tm∧Yi μ' B A w'.heap∧(rest'=[]∨∃c r,rest'=c::r∧mem c (XU ops.toList).chain=true):=by
    intro μ1 v v' w1 hext hpd hv hvr R1 hb hst;have hd1:=hd.exec' ho hvr hext.1 hpd (.inr ⟨hc,rfl⟩) (.inl ⟨rfl,hv⟩);rw[KG ht ho]at hst;obtain⟨μ',tm,w',rest',a,b,c,d,e,f⟩:=ih (fr':={fr' with tmps:=MS fr'.tmps o.dst v',todo:= .inRegion ops rest::k}) hm rfl hd1 R1 (G.mono hext.1);exact⟨μ',tm,w',rest',⟨hext.1.trans a.1,fun b hb hn=>a.2 b hb (hext.2 b hb hn)⟩,hst.trans b,hb.trans c,d,e,f⟩
   have skip:∀{Vi:List (Nat×Value)},Sub Vi V→Vf (XU ops.toList) Vi o i=some false→XK V i=some undef→_:=fun{Vi} hVi hw hv=>
    go (Mu.Ext.refl _ μ) (fun _ _ h=>h) hv (XF.tuple .nil) R (bg _ _) (Hk hm ht ho (Jy hd hVi ho hw))
   have hcl:Kz o.op=true∨Bb o.op=true:=by
    cases hq:Kz o.op with
    |true=>exact .inl rfl
    |false=>
     cases ha:Bb o.op with
     |true=>exact .inr rfl
     |false=>
      exfalso;rw[BY]at hc;refine hc (VN.2 ⟨o,eu _,by simpa using ho,?_⟩);unfold Gu;rw[hq,ha]
   rcases hcl with hq|hal
   ·obtain⟨Vi,v,hVi,hv,hqv⟩:=hs.quiet i o ho ho1 ho2 hq;rcases hqv with⟨hw,hqo⟩|⟨hw,rfl⟩
    ·have hrho:=PQ (fr':=fr') G hd hVi;obtain⟨v',w1,μ1,hr,hext,R1,hvr,hb,_⟩:=EI C R hrho (o:=o) (Sm hqo);refine go (hext.le (bd hd.lohi hhi)) ?_ hv hvr R1 hb (PI hm ht ho (Jy hd hVi ho hw) (.inr (ZS (.inl hq))) hr);intro j hj hn;have hjs:j<ops.size:=(h3 j).1 (by simp[hj]);exact hext.2 _ (by have:=hd.hi;omega) hn
    ·exact skip hVi hw hv
   ·obtain⟨v,hv⟩:=hs.als i o ho ho1 ho2 hal;obtain⟨hmu,hp⟩:=hd.pend i o (by simp) ho hal;obtain⟨Vi,hVi,hp⟩:=hp v hv;rcases hp with⟨hw,rfl⟩|⟨hw,ob,mk,hao,rfl,hget,hng⟩
    ·exact skip hVi hw hv
    ·have hrho:=PQ (fr':=fr') G hd hVi;obtain⟨s,he,o',v',hr,_,hor,hvr⟩:=aU (w:=w) C R.base hrho (o:=o) hao;have hle:=Mu.le_add (e:=⟨w.heap.size,0,none,0⟩) hmu;have R1:Yi (μ.add (base+i) ⟨w.heap.size,0,none,0⟩) B A (w.alloc o').heap:=R.map hmu (by have:=hd.hi;omega) rfl rfl (fun g hg=>by cases hg) (fun o2 ho2=>by
      rw[hget]at ho2;injection ho2 with ho2;subst ho2;exact hor _ hle)
     refine go (μ1:=μ.add (base+i) ⟨w.heap.size,0,none,0⟩) ⟨hle,?_⟩ ?_ hv (hvr _ _ (by simp)) R1 ((bg _ _).alloc R.base _)
      (PI hm ht ho (Jy hd hVi ho hw) (.inr (ZS (.inr hal))) (v:=v') (w':=w.alloc o') (by rw[he];simp[hr]))
     ·intro b hb hn;rw[Mu.add,if_neg (by have:=hd.lo;omega)];exact hn
     ·intro j hj hn;have hne:j≠i:=by
       rintro rfl;have:=h2.sublist (List.sublist_append_right _ _);exact(ek.1 this).1 hj
      rw[Mu.add,if_neg (by omega)];exact hn
end
section
variable {P:Program} {T:Tab} {B:Nat} {cs0:List Frame}
theorem M2{vars:List (Option Value)}{over:List (Nat×Value)}{t u:Nat}{v x:Value}(h:G0 (Ia vars over t v).1 (Ia vars over t v).2 u=some x):(u=t∧x=v)∨(u≠t∧G0 vars over u=some x):=by
 by_cases e:u=t
 ·subst e;left;refine⟨rfl,?_⟩;unfold Ia at h;split at h
  ·rename_i o ho;rw[YA]at ho;have hl:=(ah.1 ho).1;simp only[G0,YA,Gs,cq,hl]at h;simp at h;exact h.symm
  ·rename_i hn;simp only[G0,hn,YI]at h;simp at h;exact h.symm
 ·right;refine⟨e,?_⟩;unfold Ia at h;split at h
  ·simp only[G0,YA,Gs,cq]at h⊢;simpa[Ne.symm e]using h
  ·simp only[G0,YI]at h⊢;simpa[Ne.symm e]using h
theorem Ik{fr fr1:Xz}{t:Tmp}{v:Value}(h:fr.put (some t) v=some fr1):
  fr1= {fr with vars:=fr1.vars,over:=fr1.over}∧∀u x,G0 fr1.vars fr1.over u=some x→(u=t∧x=v)∨(u≠t∧G0 fr.vars fr.over u=some x):=by
 have h:(match Nat.blt t fr.nt,Ia fr.vars fr.over t v with|true,(vs,ov)=>some {fr with vars:=vs,over:=ov}|false,_=>none)=some fr1:=h;split at h
 ·rename_i vs ov _ he;injection h with h;subst h;refine⟨rfl,fun u x hu=>?_⟩;refine M2 ?_;rw[he];exact hu
 ·cases h
theorem A7{V:List (Nat×Value)}{Q:Nat→Value→Prop}:∀{ds:List (Nat×Nat)} {fr fr1:Xz},Et V ds fr=some fr1→
  (∀u v,G0 fr.vars fr.over u=some v→(∀j,(u,j)∉ds)→Q u v)→(∀d j v,(d,j)∈ds→XK V j=some v→Q d v)→
  (∀u v,G0 fr1.vars fr1.over u=some v→Q u v)∧fr1= {fr with vars:=fr1.vars,over:=fr1.over}:=by
 intro ds
 induction ds with
 |nil=>
  intro fr fr1 h h1 _;injection h with h;subst h;exact⟨fun u v hu=>h1 u v hu (fun j hj=>by cases hj),rfl⟩
 |cons p ds ih=>
  obtain⟨d,j⟩:=p;intro fr fr1 h h1 h2;unfold Et at h;split at h
  case h_2=>cases h
  rename_i v hv;split at h
  case h_2=>cases h
  rename_i fr2 hp;obtain⟨e,hg⟩:=Ik hp;obtain⟨a,b⟩:=ih h (fun u x hu hn=>by
   rcases hg u x hu with⟨rfl,rfl⟩|⟨hne,hu⟩
   ·exact h2 u j x (by simp) hv
   ·refine h1 u x hu fun j' hj'=>?_;rcases av.1 hj' with e|hj'
    ·injection e with e _;exact hne e
    ·exact hn j' hj') (fun d' j' v' hm hv'=>h2 d' j' v' (by simp[hm]) hv')
  refine⟨a,?_⟩;rw[b,e]
theorem Oo{μ:Mu}{A:Xx}{lo hi:Nat}{fr fr1:Xz}{ops:Array Oper}{t:Nat}{V:List (Nat×Value)}{base:Nat}{tm:Array Value}{k:List YJ}
  (h:Zn T μ A lo hi fr.nt fr.vars fr.over ops t V base [] tm) (hf:Et V (XU ops.toList).dsts {fr with todo:=k}=some fr1):
  UB μ fr.nt fr1.vars fr1.over tm∧fr1= {fr with vars:=fr1.vars,over:=fr1.over,todo:=k}:=by
 obtain⟨a,b⟩:=A7 (Q:=fun u v=>∃v',tm[u]? =some v'∧XI μ v v') hf (fun u v hu hn=>h.old u v hu (fun k' hk'=>absurd ((VL (Ky h.ok).2.2.1).2 hk') (hn k')))
  (fun d j v hm hv=>by
   obtain⟨o,_,ho,hd⟩:=GS.1 hm;obtain⟨v2,x,y⟩:=h.done j o (by simp) (by simpa using ho);rw[hv]at x;injection x with x;subst x;exact y d hd)
 exact⟨⟨h.nt,a⟩,b⟩
theorem ZI{A:Xx}{ev:Operand→Option Value}{o:Op}{r:KN}(h:aop T A ev o=some r)(hr:∀d,r≠ .defer d):∀c,o≠ .defer c:=by
 rintro c rfl;have h:QF ev c=some r:=h;unfold QF at h;split at h
 ·split at h
  ·injection h with h;exact hr _ h.symm
  ·cases h
 ·cases h
theorem Mq{μ:Mu}{A:Xx}{lo hi nt:Nat}{vars:List (Option Value)}{over:List (Nat×Value)}{ops:Array Oper}{t:Nat}{V:List (Nat×Value)}{base:Nat}{rest:List Nat}{tm:Array Value}
  (h:Zn T μ A lo hi nt vars over ops t V base rest tm) (he:rest=[]∨∃c r,rest=c::r∧mem c (XU ops.toList).chain=true):
  (nth (XU ops.toList).chain t=none→rest=[])∧(∀c,nth (XU ops.toList).chain t=some c→(∃r,rest=c::r)∧mem c (XU ops.toList).chain=true):=by
 have hc:=h.chain;constructor
 ·intro hn;rw[YA,List.getElem?_eq_none_iff]at hn;rw[cg hn]at hc;rcases he with he|⟨c,r,rfl,hm⟩
  ·exact he
  ·rw[jx,hm]at hc;cases hc
 ·intro c hn;rw[YA]at hn;have hlt:=(ah.1 hn).1;have hd:=bj hlt;rw[(ah.1 hn).2]at hd;rw[hd]at hc;rcases he with rfl|⟨c',r,rfl,hm⟩
  ·cases hc
  ·rw[jx,hm]at hc;simp only[if_true]at hc;injection hc with hc _;subst hc;exact⟨⟨r,rfl⟩,hm⟩
theorem Cf(C:YN P T){μ:Mu}{s:ASt}{fr':Frame}{cs':List Frame}{w:World}{lo:Nat}(R:Yi μ B s.A w.heap)(G:MM μ T.nglob)(hlo:lo≤s.A.next)(hs:Stack T μ s.A lo s.cs cs')
  {ops:Array Oper} {t:Nat} {V:List (Nat×Value)} {base:Nat} {k:List YJ} {rest:List Nat} {k':List Item} (core:DQ μ s.fr fr') (run:s.fr.mode= .run)
  (h2:fr'.todo= .inRegion ops rest::k') (h3:KZ μ k k') (h4:Zn T μ s.A lo s.A.next s.fr.nt s.fr.vars s.fr.over ops t V base rest fr'.tmps):
  Out P T B cs0 fr' cs' w (aZ T s ops t V base k):=by
 unfold aZ;split
 case h_2=>trivial
 rename_i A1 V1 hsl;obtain⟨hd1,R1,hso,hnx,hkept⟩:=C9 h4 R (ak _) hsl;have hrun:fr'.mode= .run:=by
  have:=core.mode;rw[run]at this;generalize fr'.mode=mm at this;cases this;rfl
 obtain⟨μ1,tm,w1,rest1,hext,hst,hb,hd2,R2,hend⟩:=TH (cs:=cs'++cs0) C (by rw[hnx];exact ak _) hso rest hrun h2 hd1 R1 G;have hs2:Stack T μ1 A1 lo s.cs cs':=hs.mono hext hkept (ak _);have G1:=G.mono hext.1;obtain⟨ch1,ch2⟩:=Mq hd2 hend;have core2:∀{μ2:Mu} {fr1:Xz} {tm2:Array Value} {td:List Item},Mu.Le μ1 μ2→fr1.fn=s.fr.fn→fr1.kind=s.fr.kind→fr1.roundOf=s.fr.roundOf→fr1.defers=s.fr.defers→fr1.mode=s.fr.mode→DQ μ2 fr1 {fr' with tmps:=tm2,todo:=td}:=by
  intro μ2 fr1 tm2 td hle e1 e2 e3 e4 e5;have c:=core.mono (hext.1.trans hle);exact⟨by rw[e1];exact c.fn,by rw[e2];exact c.kind,by rw[e3];exact c.round,by rw[e4];exact c.defers,by rw[e5];exact c.mode⟩
 split
 ·
  rename_i hn;have:=ch1 hn;subst this;split
  case h_2=>trivial
  rename_i fr1 hf;obtain⟨ht,he⟩:=Oo hd2 hf;have e1:fr1.fn=s.fr.fn∧fr1.kind=s.fr.kind∧fr1.roundOf=s.fr.roundOf∧fr1.defers=s.fr.defers∧fr1.mode=s.fr.mode∧fr1.todo=k∧fr1.nt=s.fr.nt:=by rw[he];simp
  refine⟨μ1,{fr' with tmps:=tm,todo:=k'},cs',w1,⟨R2,G1,lo,by show lo≤A1.next;rw[hnx];exact hlo, .plain ⟨core2 (Mu.Le.refl _) e1.1 e1.2.1 e1.2.2.1 e1.2.2.2.1 e1.2.2.2.2.1,?_,?_⟩,hs2⟩,hst.trans ?_,hb⟩
  ·rw[e1.2.2.2.2.2.2];exact ht
  ·intro _;rw[e1.2.2.2.2.2.1];exact h3.mono hext.1
  ·refine .one (dp ?_);simp[stepG,stepG.exec,hrun]
 ·rename_i c hn;obtain⟨⟨r,rfl⟩,hmem⟩:=ch2 c hn;split
  case h_2=>trivial
  rename_i o ho;have ho:ops[c]? =some o:=by rw[YA]at ho;simpa using ho
  split
  ·
   rename_i hw hno;have hst2:=Hk (P:=P) (fr:={fr' with tmps:=tm,todo:= .inRegion ops (c::r)::k'}) (cs:=cs'++cs0) (w:=w1) hrun rfl ho (Jy hd2 (Sub.refl _) ho hw);rw[KG rfl ho]at hst2;have hd3:=hd2.exec ho (v:=undef) (v':=undef) (XF.tuple .nil) (.inl ⟨hmem,rfl⟩) (.inr ⟨rfl,hno⟩);exact⟨μ1,_,cs',w1,⟨R2,G1,lo,by show lo≤A1.next;rw[hnx];exact hlo, .draw (core2 (Mu.Le.refl _) rfl rfl rfl rfl rfl) run rfl rfl (h3.mono hext.1) (by show Zn _ _ _ _ A1.next _ _ _ _ _ _ _ _ _;rw[hnx];exact hd3),hs2⟩,hst.trans hst2,hb⟩
  ·rename_i hw hno;have hwt:=Jy hd2 (Sub.refl _) ho hw;have hrho:=PQ (fr':={fr' with tmps:=tm,todo:= .inRegion ops (c::r)::k'}) G1 hd2 (Sub.refl _);split
   ·rename_i v A hop;obtain⟨v',w2,μ2,hr,hext2,R3,hvr,hb2,hkeep⟩:=EI C R2 hrho (o:=o) hop;have hst2:=PI (P:=P) (fr:={fr' with tmps:=tm,todo:= .inRegion ops (c::r)::k'}) (cs:=cs'++cs0) (w:=w1) hrun rfl ho hwt (.inr (ZI hop nofun)) hr;rw[KG rfl ho]at hst2;have hd3:=(hd2.mono (by rw[hnx]at hext2;exact hext2) (hkeep.kept _) (by have:=hkeep.1;rw[hnx]at this;exact this)).exec ho hvr (.inl ⟨hmem,rfl⟩) (.inr ⟨rfl,hno⟩);refine⟨μ2,_,cs',w2,⟨R3,G1.mono hext2.1,lo,?_, .draw (core2 hext2.1 rfl rfl rfl rfl rfl) run rfl rfl (h3.mono (hext.1.trans hext2.1)) hd3,hs2.mono (hext2.le ?_) (hkeep.kept _) (ak _)⟩,hst.trans hst2,hb.trans hb2⟩
    ·show lo≤A.next
     have:=hkeep.1;rw[hnx]at this;omega
    ·rw[hnx];exact hlo
   ·rename_i A hop;obtain⟨w2,hr,R3,hb2,hkeep⟩:=EI C R2 hrho (o:=o) hop;have hst2:Steps P (lone {fr' with tmps:=tm,todo:= .inRegion ops (c::r)::k'} (cs'++cs0) w1) (lone (({fr' with tmps:=tm,todo:= .inRegion ops (c::r)::k'}:Frame).finish undef) (cs'++cs0) w2):=by
     refine .one (dp ?_);rw[HE (fr:={fr' with tmps:=tm,todo:= .inRegion ops (c::r)::k'}) hrun rfl ho hwt (.inr (ZI hop nofun))];simp only[stepG.apply,fy,hr,if_true,ex,jy]
    rw[KG rfl ho]at hst2;have hd3:=(hd2.mono (Mu.Ext.refl _ _) (hkeep.kept _) (by have:=hkeep.1;rw[hnx]at this;exact this)).exec ho (v:=undef) (v':=undef) (XF.tuple .nil) (.inl ⟨hmem,rfl⟩) (.inr ⟨rfl,hno⟩);refine⟨μ1,_,cs',w2,⟨R3,G1,lo,?_, .draw (core2 (Mu.Le.refl _) rfl rfl rfl rfl rfl) run rfl rfl (h3.mono hext.1) hd3,hs2.mono (Mu.Ext.refl _ _) (hkeep.kept _) (ak _)⟩,hst.trans hst2,hb.trans hb2⟩
    show lo≤A.next
    have:=hkeep.1;rw[hnx]at this;omega
   ·rename_i f args hop;obtain⟨args',hr,hargs,_⟩:=EI C R2 hrho (o:=o) hop;split
    case h_2=>trivial
    rename_i fr1 hen;refine⟨μ1,Frame.enter P f args' .normal,{fr' with tmps:=tm,todo:= .inRegion ops (c::r)::k'}::cs',w1,⟨R2,G1,A1.next,ak _, .plain (Qm C hargs hen), .cons ?_ ?_ hs2⟩,hst.trans ?_,hb⟩
    ·exact .wait (core2 (Mu.Le.refl _) rfl rfl rfl rfl rfl) run rfl rfl (h3.mono hext.1) hn (by rw[hnx];exact hd2)
    ·rw[hnx];exact hlo
    ·refine .one (dp ?_);rw[HE (fr:={fr' with tmps:=tm,todo:= .inRegion ops (c::r)::k'}) hrun rfl ho hwt (.inr (ZI hop nofun))];simp only[stepG.apply,fy,hr,if_true,ex,jy];rfl
   ·exact bs
  ·exact bs
end
section
variable {P:Program} {T:Tab} {B:Nat} {cs0:List Frame}
theorem Nc{μ:Mu}{m:Qc}{m':FrameMode}(h:JO μ m m')(e:m= .run):m'= .run:=by
 cases h with
 |run=>rfl
 |_=>cases e
theorem Za{μ:Mu}{A:Xx}{lo hi:Nat}{c c1:Xz}{c':Frame}(h:gN T μ A lo hi c c'){v v':Value}(hv:XI μ v v')(hf:c.drawFinish v=some c1):CV T μ A lo hi c1 (c'.finish v'):=by
 cases h with
 |plain h=>
  unfold Xz.drawFinish at hf;split at hf
  ·rename_i ops t V base k hm ht;have htd:=h.todo hm;rw[ht]at htd;obtain⟨y,k',_,hy,_⟩:=htd.cons_left;cases hy
  ·rename_i hm _;exact .plain (JI h hm hv hf)
  ·cases hf
 | @wait ops t ci V base k rest k' core run h1 h2 h3 hc h4=>
  unfold Xz.drawFinish at hf;rw[run,h1]at hf;simp only[Nat.succ_eq_add_one]at hf;have hcn:nth (JK ops.toList 0) t=some ci:=hc;rw[hcn]at hf;simp only at hf;split at hf
  case h_2=>cases hf
  rename_i hno;injection hf with hf;subst hf;obtain⟨S,_,_,g3⟩:=h4.ord;have hlt:ci<ops.size:=(g3 ci).1 (by simp);obtain⟨o,ho⟩:∃o,ops[ci]? =some o:=⟨_,bw hlt⟩;rw[KG h2 ho];have hm:mem ci (XU ops.toList).chain=true:=H1.2 (by rw[YA]at hc;exact bb hc);exact .draw ⟨core.fn,core.kind,core.round,core.defers,run▸core.mode⟩ rfl rfl rfl h3 (h4.exec ho hv (.inl ⟨hm,rfl⟩) (.inr ⟨rfl,hno⟩))
theorem BO{D:DI}:∀{C:List Nat} {c l:Nat},VJ D (c::C)=true→l∈C→∃p∈c::C,before D p l=true:=by
 intro C
 induction C with
 |nil=>intro c l _ h;cases h
 |cons b C ih=>
  intro c l h hl;unfold VJ at h;split at h
  case h_2=>cases h
  rename_i hb;rcases av.1 hl with rfl|hl
  ·exact⟨c,by simp,hb⟩
  ·obtain⟨p,hp,hx⟩:=ih h hl;exact⟨p,by simp at hp⊢;exact .inr hp,hx⟩
theorem BN{D:DI}{c:Nat}{C:List Nat}(h:VJ D (c::C)=true):VJ D C=true:=by
 cases C with
 |nil=>rfl
 |cons b C=>
  unfold VJ at h;split at h
  ·exact h
  ·cases h
theorem OR{D:DI}:∀{C L:List Nat},VJ D C=true→(∀x∈C,before D x x=false)→C.Nodup→L.Nodup→(∀x,x∈L↔x∈C)→L.Pairwise (fun a b=>before D b a=false)→L=C:=by
 intro C
 induction C with
 |nil=>
  intro L _ _ _ _ hm _;cases L with
  |nil=>rfl
  |cons l L=>have:=(hm l).1 (by simp);cases this
 |cons c C ih=>
  intro L hok hirr hc hl hm hp;cases L with
  |nil=>have:=(hm c).2 (by simp);cases this
  |cons l L=>
   have hlc:l=c:=by
    rcases av.1 ((hm l).1 (by simp))with h|h
    ·exact h
    ·exfalso;obtain⟨p,hpm,hb⟩:=BO hok h;have hne:p≠l:=by
      rintro rfl;rw[hirr p hpm]at hb;cases hb
     rcases av.1 ((hm p).2 hpm)with e|hpL
     ·exact hne e
     ·have:=(dn.1 hp).1 p hpL;rw[hb]at this;cases this
   subst hlc;rw[ih (BN hok) (fun x hx=>hirr x (by simp[hx])) (ek.1 hc).2 (ek.1 hl).2 ?_ (dn.1 hp).2];intro x;have:=hm x;simp only[av]at this;constructor
   ·intro h;rcases this.1 (.inr h)with e|h2
    ·subst e;exact absurd h (ek.1 hl).1
    ·exact h2
   ·intro h;rcases this.2 (.inr h)with e|h2
    ·subst e;exact absurd h (ek.1 hc).1
    ·exact h2
theorem Yi.bump{μ:Mu}{A:Xx}{h:Array Obj}(R:Yi μ B A h)(n:Nat):Yi μ B {A with next:=Nat.add A.next n} h:=by
 have hle:A.next≤Nat.add A.next n:=kw _ _
 refine⟨R.base,R.obj,?_,R.sep,?_,?_⟩
 ·intro b e he;obtain⟨a,b',c,d⟩:=R.dom b e he;exact⟨bq a hle,b',c,fun g hg=>bq (d g hg) hle⟩
 ·intro b xs g hb;obtain⟨a,c⟩:=R.memb b xs g hb;exact⟨bq a hle,c⟩
 ·intro b o hb;exact bq (R.live b o hb) hle
theorem OZ{μ:Mu}{A:Xx}{h:Array Obj}(R:Yi μ B A h){nt:Nat}{vars:List (Option Value)}{over:List (Nat×Value)}{tm:Array Value}(ht:UB μ nt vars over tm){ops:Array Oper}(hok:QV ops.toList nt=true){lo:Nat}(hlo:lo≤A.next)
  (A':Xx) (x:Nat):Zn T μ A' lo (Nat.add A.next (len ops.toList)) nt vars over ops 0 [] A.next (Region.schedule true ops x) tm:=by
 obtain⟨h1,h2,h3,h4⟩:=Ky hok;have hed:∀j o,ops[j]? =some o→J8 o.after.toList j=true:=by
  intro j o ho;have:=(Zw h1 j o (by simpa using ho)).edges;rw[bf]at this;exact this
 obtain⟨s1,s2,s3⟩:=Hl hed x;have hlen:len ops.toList=ops.size:=by rw[ZU];simp
 refine⟨hok,ht.1,hlo,?_,⟨[],by simpa using s3,by simpa using s1,by simpa using s2⟩,?_,?_,fun u v hu _=>ht.2 u v hu,?_⟩
 ·rw[hlen];exact ak _
 ·rw[List.drop_zero];refine OR h2 ?_ ?_ (s1.sublist List.filter_sublist) ?_ (s3.sublist List.filter_sublist)
  ·intro c hc;obtain⟨o,_,ho,_⟩:=VN.1 hc;have ho:ops[c]? =some o:=by simpa using ho
   cases hb:before (XU ops.toList) c c with
   |false=>rfl
   |true=>have:=Uo hok ho hb;omega
  ·exact(Hf ops.toList 0).1.imp (fun h=>by omega)
  ·intro c;rw[ct,H1,s2];constructor
   ·rintro⟨_,h⟩;exact h
   ·intro hc;refine⟨?_,hc⟩;obtain⟨o,_,ho,_⟩:=VN.1 hc;have ho:ops[c]? =some o:=by simpa using ho
    exact(aw.1 ho).1
 ·intro i o hi ho;exact absurd ((s2 i).2 (aw.1 ho).1) hi
 ·intro j o _ _ _;refine⟨?_,fun v hv=>by rw[Ut]at hv;cases hv⟩;cases hm:μ (A.next+j)with
  |none=>rfl
  |some e=>have:=(R.dom _ e hm).1;omega
theorem LE(C:YN P T){μ:Mu}{A:Xx}{w:World}(R:Yi μ B A w.heap){t:TypeId}{a a':Value}(ha:XI μ a a'){r:Value×Xx}(h:HW T A t a=some r):
  ∃ad v',a'= .pointer (some ad)∧(loadVar t ad).run P w= .ok v' w∧XI μ r.1 v':=by
 unfold HW at h;split at h
 ·rename_i b off;cases ha with
  | @ptr _ _ e he=>
  split at h
  ·rename_i ti ht;split at h
   ·rename_i hagg;split at h
    ·rename_i ys hl;injection h with h;subst h;obtain⟨zs,hz,hv,_⟩:=Kh P R he hl;refine⟨_, .agg zs,rfl,?_,XF.agg hv⟩;simp[loadVar,C.isAgg ht,hagg,C.sizeOf ht,hz]
    ·cases h
   ·rename_i hagg;split at h
    ·rename_i x xs hl;injection h with h;subst h;have hx:xs=[]:=by
      obtain⟨zs,_,hv,hn⟩:=Kh P R he hl;cases xs with
      |nil=>rfl
      |cons y ys=>simp at hn
     subst hx;obtain⟨z,hz,hv⟩:=Uu P R he hl;refine⟨_,z,rfl,?_,hv⟩;simp only[loadVar,ag,ae,C.isAgg ht,hagg,de,dg];exact hz
    ·cases h
  ·cases h
 ·cases h
theorem Mf{μ:Mu}:∀{l l':List PanicEntry},Y4 (U1 μ) l l'→Y4 (U1 μ) (FO l) (l'.dropWhile (!·.goexit)):=by
 intro l
 induction l with
 |nil=>intro l' h;rw[h.nil_left];exact .nil
 |cons x l ih=>
  intro l' h;obtain⟨y,o2,rfl,hxy,ho2⟩:=h.cons_left;unfold FO;rw[List.dropWhile_cons,List.dropWhile_cons,←hxy.2.2];split
  ·exact ih ho2
  ·exact .cons hxy ho2
theorem Ln(C:YN P T){μ:Mu}{A:Xx}{w:World}(R:Yi μ B A w.heap){fr:Xz}{tm:Array Value}(ht:UB μ fr.nt fr.vars fr.over tm){a:AFn}(ha:T.fn.get fr.fn=some a){vs:List Value}
  (h:VV T A fr a.results=some vs):
  ∃fn v',P.funcs[fr.fn]? =some fn∧(results fn tm).run P w= .ok v' w∧XI μ (tup vs) v':=by
 obtain⟨fn,h1,_,_,h4,_⟩:=C.fn _ a ha;have key:∀(rs:List ResultVar) (vs:List Value),VV T A fr rs=some vs→∃vs',(rs.mapM (fun(r:ResultVar)=>(match r with| .tmp t=>pure (tm.getD t undef)| .cell a t=>do loadVar t (←asAddr (tm.getD a undef)):Sem Value))).run P w= .ok vs' w∧XF μ vs vs':=by
  intro rs
  induction rs with
  |nil=>intro vs h;injection h with h;subst h;exact⟨[],by simp, .nil⟩
  |cons r rs ih=>
   intro vs h;cases r with
   |tmp t=>
    simp only[VV]at h;split at h
    case h_2=>cases h
    rename_i v l hv hl;injection h with h;subst h;obtain⟨vs',g1,g2⟩:=ih l hl;obtain⟨v',g3,g4⟩:=ht.2 t v hv;refine⟨v'::vs',?_, .cons g4 g2⟩;simp only[jt,ag,am,ae,bi,g3,ec];simp only[bi]at g1;rw[g1];rfl
   |cell p t=>
    simp only[VV]at h;split at h
    case h_2=>cases h
    rename_i pv hp;split at h
    case h_2=>cases h
    rename_i v A' l hv hl;injection h with h;subst h;obtain⟨vs',g1,g2⟩:=ih l hl;obtain⟨p',g3,g4⟩:=ht.2 p pv hp;obtain⟨ad,v',rfl,g5,g6⟩:=LE C R g4 hv;refine⟨v'::vs',?_, .cons g6 g2⟩;simp only[jt,ag,am,bi,g3,ec,asAddr,ae,g5];simp only[bi,asAddr]at g1;rw[g1];rfl
 obtain⟨vs',g1,g2⟩:=key _ _ h;rw[←h4]at g1;have hrun:(results fn tm).run P w= .ok (if h:vs'.toArray.size=1 then vs'.toArray[0]else .tuple vs'.toArray) w:=by
  unfold results;rw[jg];simp only[ag,Sem.run_map,am]
  erw [g1]
  rfl
 refine⟨fn,_,h1,hrun,?_⟩;rcases vs with _|⟨v,_|⟨u,vs⟩⟩
 ·rw[g2.nil_left];exact XF.tuple .nil
 ·obtain⟨v',l,rfl,hv,hl⟩:=g2.cons_left;rw[hl.nil_left];simpa[tup]using hv
 ·have hsz:¬vs'.toArray.size=1:=by
   intro e;have hl:=g2.1;simp at e;rw[e]at hl;simp at hl
  rw[dif_neg hsz];exact XF.tuple (by simpa using g2)
end
section
variable {P:Program} {T:Tab} {B:Nat} {cs0:List Frame}
structure Pl(T:Tab)(B:Nat)(μ:Mu)(s:ASt)(fr':Frame)(cs':List Frame)(w:World)(lo:Nat):Prop where
 R:Yi μ B s.A w.heap
 G:MM μ T.nglob
 hlo:lo≤s.A.next
 p:Plain μ s.fr fr'
 st:Stack T μ s.A lo s.cs cs'
theorem Pl.frame{μ:Mu}{s:ASt}{fr':Frame}{cs':List Frame}{w:World}{lo:Nat}(h:Pl T B μ s fr' cs' w lo){fr1:Xz}{fr1':Frame}(hp:Plain μ fr1 fr1'){m:Machine}(hst:Steps P m (lone fr1' (cs'++cs0) w)){w0:World}(hb:Below B w0 w):
  ∃μ fr' cs' w',I4 T B μ {s with fr:=fr1} fr' cs' w'∧Steps P m (lone fr' (cs'++cs0) w')∧Below B w0 w':=
 ⟨μ,fr1',cs',w,⟨h.R,h.G,lo,h.hlo, .plain hp,h.st⟩,hst,hb⟩
theorem Zs{μ:Mu}{a b:Option Nat}(h:J6 μ a b)(e:a=none):b=none:=by
 cases h with
 |none=>rfl
 |some _=>cases e
theorem Zr{μ:Mu}{a b:Option Nat}(h:J6 μ a b){l:Nat}(e:a=some l):∃en,μ l=some en∧b=some en.blk:=by
 cases h with
 |none=>cases e
 |some h=>injection e with e;subst e;exact⟨_,h,rfl⟩
theorem Rj{μ:Mu}{A:Xx}{w:World}(R:Yi μ B A w.heap){l:Nat}{L L':MN}{e:Ent}(hl:A.heap.get l=some (.loop L))(he:μ l=some e)
  (h1:L'.fn=L.fn) (h2:L'.vars=L.vars) (h3:L'.over=L.over) (h4:L'.nt=L.nt) (h5:L'.params=L.params) (h6:L'.assign=L.assign) (h7:L'.body=L.body) (h8:L'.defers=L.defers):
  ∃r:Loop,w.heap[e.blk]? =some (.loop r)∧r.state=L.st∧r.pending=L.pending∧B≤e.blk∧
   Yi μ B (Up A l (.loop L')) (wr w e.blk (.loop {r with state:=L'.st,pending:=L'.pending})).heap∧JP μ A (Up A l (.loop L'))∧Below B w (wr w e.blk (.loop {r with state:=L'.st,pending:=L'.pending})):=by
 obtain⟨hg,hB,tm,ed,a,b,c⟩:=R.obj l _ e hl he;have hb:e.blk<w.heap.size:=(R.dom l e he).2.1;obtain⟨x,y,z⟩:=GC (w:=w) R he hg hB (o:= .loop L') trivial (o':= .loop {state:=L'.st,pending:=L'.pending,fn:=L.fn,tmps:=tm,params:=L.params.toArray,assign:=L.assign,body:=L.body,defers:=ed.blk}) (by
  refine⟨hg,hB,tm,ed,by rw[h8];exact a,by rw[h4,h2,h3];exact b,?_⟩;rw[Kx hb,h1,h5,h6,h7])
 exact⟨_,c,rfl,rfl,hB,x,y,z⟩
theorem DC{μ:Mu}{s:ASt}{fr':Frame}{cs':List Frame}{w:World}{lo:Nat}(h:Pl T B μ s fr' cs' w lo){jump:Option Code}{m:Machine}
  (k1:fr'.roundOf=none→(jump=none∨jump=some .ret)→Steps P m (lone {fr' with mode:= .returning} (cs'++cs0) w))
  (k2:∀l v w2,fr'.roundOf=some l→(Instr.endRound l jump).run P w= .ok v w2→∀fr2 cs2 w3,(doReturn P true fr' (cs'++cs0) none v w2).bare= .go {frame:=fr2,callers:=cs2,status:= .running,dying:=none} w3→Steps P m (lone fr2 cs2 w3)):
  (∀s',ZX s jump= .next s'→ZK P T B cs0 m w s')∧(∀l,ZX s jump≠ .branch l)∧(∀f v,ZX s jump≠ .done f v):=by
 unfold ZX;split
 ·rename_i hro;have hro':=Zs h.p.core.round hro;have hret:Plain μ {s.fr with mode:= .returning} {fr' with mode:= .returning}:=⟨⟨h.p.core.fn,h.p.core.kind,h.p.core.round,h.p.core.defers, .returning⟩,h.p.tm,fun h=>by cases h⟩;split
  ·refine⟨?_,nofun,nofun⟩;intro s' e;injection e with e;subst e;exact h.frame hret (k1 hro' (.inl rfl)) (bg _ _)
  ·refine⟨?_,nofun,nofun⟩;intro s' e;injection e with e;subst e;exact h.frame hret (k1 hro' (.inr rfl)) (bg _ _)
  ·exact⟨nofun,nofun,nofun⟩
 ·rename_i l hro;obtain⟨en,hen,hro'⟩:=Zr h.p.core.round hro;split
  case h_2=>exact⟨nofun,nofun,nofun⟩
  rename_i L c rest hl hcs hkd;split
  case h_2=>exact⟨nofun,nofun,nofun⟩
  rename_i c1 hf;refine⟨?_,nofun,nofun⟩;intro s' e;injection e with e;subst e;have hst:=h.st;rw[hcs]at hst;generalize hcs':cs'=cs2 at hst;cases hst with
  | @cons lo2 _ _ c' _ cs2' hc hle ht=>
  subst hcs';obtain⟨r,g1,g2,g3,g4,g5,g6,g7⟩:=Rj (L':={L with st:=(if jump.isNone then .ready else .done),pending:=jump}) h.R hl hen rfl rfl rfl rfl rfl rfl rfl rfl;have hrun:=run_endRound (P:=P) jump g1;have hfr:=Za hc (.bool _) hf;have hfr2:CV T μ (Up s.A l (.loop {L with st:=(if jump.isNone then .ready else .done),pending:=jump})) lo2 lo c1 (c'.finish (.bool jump.isNone)):=by
   cases hfr with
   |plain hp=>exact .plain hp
   |draw core run h1 h2 h3 h4=>exact .draw core run h1 h2 h3 (h4.mono (Mu.Ext.refl _ _) (g6.kept _) (ak _))
  have hfr3:CV T μ (Up s.A l (.loop {L with st:=(if jump.isNone then .ready else .done),pending:=jump})) lo2 s.A.next c1 (c'.finish (.bool jump.isNone)):=by
   cases hfr2 with
   |plain hp=>exact .plain hp
   |draw core run h1 h2 h3 h4=>exact .draw core run h1 h2 h3 ⟨h4.ok,h4.nt,h4.lo,bd h4.hi h.hlo,h4.ord,h4.chain,h4.done,h4.old,h4.pend⟩
  refine⟨μ,c'.finish (.bool jump.isNone),cs2',_,⟨g5,h.G,lo2,bd hle h.hlo,hfr3,ht.mono (Mu.Ext.refl _ _) (g6.kept _) (ak _)⟩,?_,g7⟩;refine k2 _ _ _ hro' hrun _ _ _ ?_;have hkd':fr'.kind= .normal:=by rw[h.p.core.kind,hkd]
  simp[doReturn,hkd'];rfl
theorem CV.up{μ:Mu}{A:Xx}{lo hi hi':Nat}{fr:Xz}{fr':Frame}(h:CV T μ A lo hi fr fr')(hh:hi≤hi'):CV T μ A lo hi' fr fr':=by
 cases h with
 |plain hp=>exact .plain hp
 |draw core run h1 h2 h3 h4=>exact .draw core run h1 h2 h3 ⟨h4.ok,h4.nt,h4.lo,bd h4.hi hh,h4.ord,h4.chain,h4.done,h4.old,h4.pend⟩
theorem Bd{over:List (Nat×Value)}:∀t v,XK (Jo over) t=some v→XK over t=some v:=by
 intro t v h;unfold Jo at h;split at h
 ·rename_i a b c d l;obtain⟨a1,a2⟩:=a;obtain⟨b1,b2⟩:=b;obtain⟨c1,c2⟩:=c;obtain⟨d1,d2⟩:=d;simp only[YI,Ut]at h⊢;split at h
  ·rename_i e;rw[if_pos e];exact h
  ·rename_i e;rw[if_neg e];split at h
   ·rename_i e;rw[if_pos e];exact h
   ·rename_i e;rw[if_neg e];split at h
    ·rename_i e;rw[if_pos e];exact h
    ·rename_i e;rw[if_neg e];split at h
     ·rename_i e;rw[if_pos e];exact h
     ·cases h
 ·exact h
theorem ZM{μ:Mu}{fr:Xz}{fr':Frame}{ops:Array Oper}(hp:Plain μ fr fr'){o:Oper}{b:Bool}(h:Uw fr ops.toList o=some b):Region.wanted o (yielded ops fr'.tmps)=b:=by
 unfold Uw at h;unfold Region.wanted;split at h
 ·rename_i hg;injection h with h;subst h;simp[hg]
 ·rename_i g want hg;rw[hg];split at h
  case h_2=>cases h
  rename_i og hog;have hog:ops[g]? =some og:=by rw[YA]at hog;simpa using hog
  split at h
  case h_2=>cases h
  rename_i t hd;cases hv:G0 fr.vars fr.over t with
  |none=>rw[hv]at h;cases want<;>cases h
  |some u=>
   rw[hv]at h;obtain⟨u',e,f⟩:=hp.tm.2 t u hv;exact F7 hog hd e f h
end
section
variable {P:Program} {T:Tab} {B:Nat} {cs0:List Frame}
theorem Iq{fr':Frame}{cs':List Frame}{w:World}{o:V0}(h:(∀s',o= .next s'→ZK P T B cs0 (lone fr' (cs'++cs0) w) w s')∧(∀l,o= .branch l→∃s'∈l,ZK P T B cs0 (lone fr' (cs'++cs0) w) w s')∧∀f v,o≠ .done f v):Out P T B cs0 fr' cs' w o:=by
 cases o with
 |next s'=>exact h.1 s' rfl
 |branch l=>exact h.2.1 l rfl
 |done f v=>exact absurd rfl (h.2.2 f v)
 |stuck=>exact bs
theorem Sw{fr':Frame}{cs':List Frame}{w:World}{o:V0}(h:(∀s',o= .next s'→ZK P T B cs0 (lone fr' (cs'++cs0) w) w s')∧(∀l,o≠ .branch l)∧∀f v,o≠ .done f v):Out P T B cs0 fr' cs' w o:=
 Iq ⟨h.1,fun l e=>absurd e (h.2.1 l),h.2.2⟩
theorem Q5{μ:Mu}{s:ASt}{fr':Frame}{cs':List Frame}{w:World}{lo:Nat}(h:Pl T B μ s fr' cs' w lo)(hrun:fr'.mode= .run){jump:Option Code}
  (hx:(jump=none∧fr'.todo=[])∨(∃k,jump=some .ret∧fr'.todo= .code .ret::k)∨∃id k,jump=some (.exit id)∧fr'.todo= .code (.exit id)::k∧exitTo id k=none):
  Out P T B cs0 fr' cs' w (ZX s jump):=by
 refine Sw (DC h ?_ ?_)
 ·intro hro hj;refine .one (dp ?_);rcases hx with⟨rfl,ht⟩|⟨k,rfl,ht⟩|⟨id,k,rfl,ht,he⟩
  ·simp[stepG,stepG.exec,hrun,ht,hro]
  ·simp[stepG,stepG.exec,hrun,ht,hro]
  ·rcases hj with hj|hj<;>cases hj
 ·intro l v w2 hro hr fr2 cs2 w3 hd;refine .one (dp ?_);rcases hx with⟨rfl,ht⟩|⟨k,rfl,ht⟩|⟨id,k,rfl,ht,he⟩
  ·simp only[stepG,stepG.exec,hrun,ht,hro,fy,hr,ex];exact hd
  ·simp only[stepG,stepG.exec,hrun,ht,hro,fy,hr,ex];exact hd
  ·simp only[stepG,stepG.exec,hrun,ht,hro,he,Option.elim,fy,hr,ex];exact hd
theorem Es{w:World}{l₀:Nat}{r₀:Loop}(h:w.heap[l₀]? =some (.loop r₀))(fn:FuncId)(tmps:Array Value)(ps:Array Tmp)(assign body:Code):
  (Instr.enterLoop fn tmps ps assign body (some l₀)).run P w= .ok (w.heap.size,[]) (w.alloc (.loop {state:= .ready,pending:=none,fn,tmps,params:=ps,assign,body,defers:=r₀.defers})):=by
 unfold Instr.enterLoop;simp only[ag,run_getLoop h,run_newObj,Result.andThen,am];rfl
theorem Cg(C:YN P T){μ:Mu}{s:ASt}{fr':Frame}{cs':List Frame}{w:World}{lo:Nat}(h:Pl T B μ s fr' cs' w lo)(hrn:s.fr.mode= .run)(hrun:fr'.mode= .run){c:Code}{k:List YJ}
  (ht:s.fr.todo= .code c::k):Out P T B cs0 fr' cs' w (DE T s c k):=by
 obtain⟨k',ht',hk⟩:∃k',fr'.todo= .code c::k'∧KZ μ k k':=by
  have:=h.p.todo hrn;rw[ht]at this;obtain⟨y,k',a,b,d⟩:=this.cons_left;cases b;exact⟨k',a,d⟩
 have hc:=h.p.core;have to:∀{td:List YJ} {td':List Item},KZ μ td td'→
   (stepG P true {frame:=fr',callers:=cs'++cs0,status:= .running,dying:=none} w).bare= .go {frame:={fr' with todo:=td'},callers:=cs'++cs0,status:= .running,dying:=none} w→
   Out P T B cs0 fr' cs' w (.next {s with fr:={s.fr with todo:=td}}):=by
  intro td td' htd hst;exact h.frame (fr1:={s.fr with todo:=td}) (fr1':={fr' with todo:=td'}) ⟨⟨hc.fn,hc.kind,hc.round,hc.defers,hc.mode⟩,h.p.tm,fun _=>htd⟩ (.one (dp hst)) (bg _ _)
 cases c with
 |skip=>exact to hk (by simp[stepG,stepG.exec,hrun,ht'])
 |label l=>exact to hk (by simp[stepG,stepG.exec,hrun,ht'])
 |seq a b=>exact to (.cons (.code a) (.cons (.code b) hk)) (by simp[stepG,stepG.exec,hrun,ht'])
 |cond c a b=>
  have hrho:=HN (fr':=fr') h.G h.p.tm
  show Out P T B cs0 fr' cs' w (bA T s c a b k)
  unfold bA;split
  ·rename_i hv;have:=hrho _ _ hv;generalize he:fr'.eval c=ev at this;cases this;exact to (.cons (.code a) hk) (by simp[stepG,stepG.exec,hrun,ht',he])
  ·rename_i hv;have:=hrho _ _ hv;generalize he:fr'.eval c=ev at this;cases this;exact to (.cons (.code b) hk) (by simp[stepG,stepG.exec,hrun,ht',he])
  ·exact bs
 |block id b=>exact to (.cons (.code b) (.cons (.inBlock id) hk)) (by simp[stepG,stepG.exec,hrun,ht'])
 |loop b=>exact to (.cons (.code b) (.cons (.inLoop b) hk)) (by simp[stepG,stepG.exec,hrun,ht'])
 |scope b=>exact to (.cons (.code b) (.cons (.inScope b) hk)) (by simp[stepG,stepG.exec,hrun,ht'])
 |exit id=>
  obtain⟨e1,e2⟩:=WL (id:=id) hk
  show Out P T B cs0 fr' cs' w (aY s id k)
  unfold aY;split
  ·rename_i r hr;obtain⟨r',hr',hrr⟩:=e1 r hr;exact to hrr (by simp[stepG,stepG.exec,hrun,ht',hr'])
  ·rename_i hn;exact Q5 h hrun (.inr (.inr ⟨id,k',rfl,ht',e2 hn⟩))
 |ret=>exact Q5 h hrun (.inr (.inl ⟨k',rfl,ht'⟩))
 |region id ops draw=>
  cases draw with
  |false=>
   have htr:UB μ s.fr.nt s.fr.vars (Jo s.fr.over) fr'.tmps:=h.p.tm.drop Bd;refine h.frame (fr1:={s.fr with over:=Jo s.fr.over,todo:= .inRegion ops ops.toList::k}) (fr1':={fr' with todo:= .inRegion ops (List.range ops.size)::k'}) ⟨⟨hc.fn,hc.kind,hc.round,hc.defers,hc.mode⟩,htr,fun _=> .cons ?_ hk⟩ (.one (dp (by simp[stepG,stepG.exec,hrun,ht']))) (bg _ _);have:=Kc.inRegion (μ:=μ) (ops:=ops) (i:=0) (eu _);simpa[gt]using this
  |true=>
   show Out P T B cs0 fr' cs' w (aX s ops k)
   unfold aX;split
   case h_2=>exact bs
   rename_i hok;have htr:UB μ s.fr.nt s.fr.vars (Jo s.fr.over) fr'.tmps:=h.p.tm.drop Bd;have hd:=OZ (T:=T) h.R htr hok h.hlo {s.A with next:=Nat.add s.A.next (len ops.toList)} (w.tape w.drawn (.order fr'.fn id));have hle:s.A.next≤Nat.add s.A.next (len ops.toList):=kw _ _
   refine⟨μ,{fr' with todo:= .inRegion ops (Region.schedule true ops (w.tape w.drawn (.order fr'.fn id)))::k'},cs',{w with drawn:=w.drawn+1},
    ⟨h.R.bump _,h.G,lo,bd h.hlo hle, .draw ⟨hc.fn,hc.kind,hc.round,hc.defers,hc.mode⟩ ?_ rfl rfl hk hd,?_⟩, .one (dp ?_),(bg _ _).drew⟩
   ·have:=hc.mode;rw[hrun]at this
    show s.fr.mode= .run
    generalize s.fr.mode=mm at this;cases this;rfl
   ·exact h.st.mono (Mu.Ext.refl _ _) (fun b o _ _ ho _=>ho) (ak _)
   ·simp[stepG,stepG.exec,hrun,ht',choose,Sem.run,Question.forced,Question.cut,C.mixed]
 |rangeFunc f params assign body=>
  show Out P T B cs0 fr' cs' w (aRF T s f params assign body k)
  unfold aRF;simp only;split
  case h_2=>exact bs
  rename_i fv hfv;split
  case h_2=>
   rename_i l hro;obtain⟨en,hen,hro'⟩:=Zr hc.round hro;split
   case h_2=>exact bs
   rename_i L0 hl0;split
   case h_2=>exact bs
   rename_i r hr;obtain⟨_,hB0,tm0,ed,hed,htr0,hob⟩:=h.R.obj l _ en hl0 hen;obtain⟨R1,K1,B1,E1⟩:=KY h.R (o:= .loop {st:= .ready,pending:=none,fn:=s.fr.fn,vars:=s.fr.vars,over:=s.fr.over,nt:=s.fr.nt,params:=params.toList,assign:=assign,body:=body,defers:=L0.defers}) trivial
    (o':= .loop {state:= .ready,pending:=none,fn:=fr'.fn,tmps:=fr'.tmps,params,assign,body,defers:=ed.blk}) (fun μ' hm=>⟨rfl,h.R.base,fr'.tmps,ed,hm _ _ hed,h.p.tm.mono hm,by
     rw[cu,hc.fn]⟩)
   have hE:Mu.Le μ (μ.add s.A.next ⟨w.heap.size,0,none,0⟩):=E1.1;have hEx:Mu.Ext lo μ (μ.add s.A.next ⟨w.heap.size,0,none,0⟩):=⟨hE,fun b hb hn=>E1.2 b (bq hb h.hlo) hn⟩;generalize hμ2:μ.add s.A.next ⟨w.heap.size,0,none,0⟩=μ2 at*
   have hl:μ2 s.A.next=some ⟨w.heap.size,0,none,0⟩:=by rw[←hμ2];simp
   have hfv':=(HN (fr':=fr') h.G h.p.tm f fv hfv).mono hE;obtain⟨d,g1,g2⟩:=PW C R1 hfv' (args':=[.func (.yield w.heap.size) #[] #[]]) (.cons (.yield hl) .nil) hr;have hp2:Plain μ2 {s.fr with todo:= .inRangeFunc s.A.next::k} {fr' with todo:= .inRangeFunc w.heap.size::k'}:=
    ⟨⟨hc.fn,hc.kind,hc.round.mono hE,hc.defers.mono fun _ _=>GH.mono hE,hc.mode.mono hE⟩,h.p.tm.mono hE,fun _=> .cons (Kc.inRangeFunc hl) (hk.mono hE)⟩
   have hst2:Stack T μ2 (Yv s.A (.loop {st:= .ready,pending:=none,fn:=s.fr.fn,vars:=s.fr.vars,over:=s.fr.over,nt:=s.fr.nt,params:=params.toList,assign:=assign,body:=body,defers:=L0.defers})) lo s.cs cs':=by
    refine h.st.mono hEx ?_ (ak _);intro b o hb hn ho hg;exact K1.2 b o hn ho (VK hg)
   refine Iq (RV C (s:={fr:={s.fr with todo:= .inRangeFunc s.A.next::k},cs:=s.cs,A:=Yv s.A (.loop {st:= .ready,pending:=none,fn:=s.fr.fn,vars:=s.fr.vars,over:=s.fr.over,nt:=s.fr.nt,params:=params.toList,assign:=assign,body:=body,defers:=L0.defers})})
    (sem:=(do let d←resolve ({fr' with todo:= .inRangeFunc w.heap.size::k'}:Frame).eval {callee:= .value f,args:=#[.const (.func (.yield w.heap.size) #[] #[])],argTypes:=#[]} 0;invoke d.target d.args)) R1 (h.G.mono hE) ?_ hp2 hrn hst2 ?_ B1 (ResOk.bind_ok (f:=fun d=>invoke d.target d.args) ?_ g2 rfl))
   ·have:=K1.1;have:=h.hlo
    show lo≤(Yv s.A _).next
    omega
   ·intro fr2 cs2 w2 hb;refine .one (dp ?_);have hrl:=Es (P:=P) hob fr'.fn fr'.tmps params assign body;simp only[stepG,stepG.exec,hrun,ht',hro',fy,hrl,ex];simp only[hrun,hro']at hb;exact hb
   ·simpa[resolve,Frame.eval]using g1
  rename_i hro;have hro':=Zs hc.round hro;obtain⟨R1,K1,B1,E1⟩:=KY h.R (o:= .deferred (some [])) trivial (o':= .deferred (some [])) (fun μ' _=>⟨rfl,h.R.base, .inr ⟨[],[],rfl,cu _ _, .nil⟩⟩);have hsz:(w.alloc (.deferred (some []))).heap.size=w.heap.size+1:=by simp
  obtain⟨R2,K2,B2,E2⟩:=KY R1 (o:= .loop {st:= .ready,pending:=none,fn:=s.fr.fn,vars:=s.fr.vars,over:=s.fr.over,nt:=s.fr.nt,params:=params.toList,assign:=assign,body:=body,defers:=s.A.next}) trivial
   (o':= .loop {state:= .ready,pending:=none,fn:=fr'.fn,tmps:=fr'.tmps,params,assign,body,defers:=w.heap.size}) (fun μ' hm=>⟨rfl,by rw[hsz];exact Nat.le_succ_of_le h.R.base,fr'.tmps,⟨w.heap.size,0,none,0⟩,hm _ _ (by simp),h.p.tm.mono (E1.1.trans hm),by
    rw[cu,hc.fn]⟩)
  split
  case h_2=>exact bs
  rename_i r hr;have hE:Mu.Le μ ((μ.add s.A.next ⟨w.heap.size,0,none,0⟩).add (Yv s.A (.deferred (some []))).next ⟨(w.alloc (.deferred (some []))).heap.size,0,none,0⟩):=E1.1.trans E2.1;have hEx:Mu.Ext lo μ ((μ.add s.A.next ⟨w.heap.size,0,none,0⟩).add (Yv s.A (.deferred (some []))).next ⟨(w.alloc (.deferred (some []))).heap.size,0,none,0⟩):=by
   refine⟨hE,fun b hb hn=>E2.2 b ?_ (E1.2 b (bq hb h.hlo) hn)⟩;have:=K1.1;have:=h.hlo;omega
  generalize hμ2:(μ.add s.A.next ⟨w.heap.size,0,none,0⟩).add (Yv s.A (.deferred (some []))).next ⟨(w.alloc (.deferred (some []))).heap.size,0,none,0⟩=μ2 at*
  have hl:μ2 (Yv s.A (.deferred (some []))).next=some ⟨(w.alloc (.deferred (some []))).heap.size,0,none,0⟩:=by rw[←hμ2];simp
  have hd:μ2 s.A.next=some ⟨w.heap.size,0,none,0⟩:=E2.1 _ _ (by simp)
  have hfv':=(HN (fr':=fr') h.G h.p.tm f fv hfv).mono hE;obtain⟨d,g1,g2⟩:=PW C R2 hfv' (args':=[.func (.yield (w.heap.size+1)) #[] #[]]) (.cons (by rw[←hsz];exact .yield hl) .nil) hr;have hp2:Plain μ2 {s.fr with todo:= .inRangeFunc (Yv s.A (.deferred (some []))).next::k,defers:={target:= .collected s.A.next,args:=#[]}::s.fr.defers}
    {fr' with todo:= .inRangeFunc (w.heap.size+1)::k',defers:={target:= .collected w.heap.size,args:=#[]}::fr'.defers}:=by
   refine⟨⟨hc.fn,hc.kind,hc.round.mono hE, .cons ⟨.collected hd, .nil⟩ (hc.defers.mono fun _ _=>GH.mono hE),hc.mode.mono hE⟩,h.p.tm.mono hE,fun _=> .cons ?_ (hk.mono hE)⟩;have:=Kc.inRangeFunc hl;rw[hsz]at this;exact this
  have hst2:Stack T μ2 (Yv (Yv s.A (.deferred (some []))) (.loop {st:= .ready,pending:=none,fn:=s.fr.fn,vars:=s.fr.vars,over:=s.fr.over,nt:=s.fr.nt,params:=params.toList,assign:=assign,body:=body,defers:=s.A.next})) lo s.cs cs':=by
   refine h.st.mono hEx ?_ (ak _);intro b o hb hn ho hg;exact K2.2 b o (E1.2 b (bq hb h.hlo) hn) (K1.2 b o hn ho (VK hg)) (VK hg)
  refine Iq (RV C (s:={fr:={s.fr with todo:= .inRangeFunc (Yv s.A (.deferred (some []))).next::k,defers:={target:= .collected s.A.next,args:=#[]}::s.fr.defers},cs:=s.cs,A:=Yv (Yv s.A (.deferred (some []))) (.loop {st:= .ready,pending:=none,fn:=s.fr.fn,vars:=s.fr.vars,over:=s.fr.over,nt:=s.fr.nt,params:=params.toList,assign:=assign,body:=body,defers:=s.A.next})})
   (sem:=(do let d←resolve ({fr' with todo:= .inRangeFunc (w.heap.size+1)::k',defers:={target:= .collected w.heap.size,args:=#[]}::fr'.defers}:Frame).eval {callee:= .value f,args:=#[.const (.func (.yield (w.heap.size+1)) #[] #[])],argTypes:=#[]} 0;invoke d.target d.args)) R2 (h.G.mono hE) ?_ hp2 hrn hst2 ?_ (B1.trans B2) (ResOk.bind_ok (f:=fun d=>invoke d.target d.args) ?_ g2 rfl))
  ·have:=K1.1;have:=K2.1;have:=h.hlo
   show lo≤(Yv (Yv s.A _) _).next
   omega
  ·intro fr2 cs2 w2 hb;refine .one (dp ?_);have hrl:=run_enterLoop_outer (P:=P) (w:=w) fr'.fn fr'.tmps params assign body;simp only[stepG,stepG.exec,hrun,ht',hro',fy,hrl,ex];simp only[hrun,hro']at hb;exact hb
  ·simpa[resolve,Frame.eval]using g1
 |goto l=>exact bs
 |refuse why=>exact bs
end
section
variable {P:Program} {T:Tab} {B:Nat} {cs0:List Frame}
theorem VW(C:YN P T){μ:Mu}{s:ASt}{fr':Frame}{cs':List Frame}{w:World}{lo:Nat}(h:Pl T B μ s fr' cs' w lo)(run:s.fr.mode= .run):Out P T B cs0 fr' cs' w (U0 T s):=by
 have hrun:=Nc h.p.core.mode run;have hc:=h.p.core;have htd:=h.p.todo run;have to:∀{td:List YJ} {td':List Item},KZ μ td td'→
   (stepG P true {frame:=fr',callers:=cs'++cs0,status:= .running,dying:=none} w).bare= .go {frame:={fr' with todo:=td'},callers:=cs'++cs0,status:= .running,dying:=none} w→
   Out P T B cs0 fr' cs' w (.next {s with fr:={s.fr with todo:=td}}):=by
  intro td td' htd hst;exact h.frame (fr1:={s.fr with todo:=td}) (fr1':={fr' with todo:=td'}) ⟨⟨hc.fn,hc.kind,hc.round,hc.defers,hc.mode⟩,h.p.tm,fun _=>htd⟩ (.one (dp hst)) (bg _ _)
 unfold U0;split
 ·rename_i ht;rw[ht]at htd;exact Q5 h hrun (.inl ⟨rfl,htd.nil_left⟩)
 ·rename_i it k ht;rw[ht]at htd;cases it with
  |code c=>exact Cg C h run hrun ht
  |inBlock id=>
   obtain⟨y,k',ht',hy,hk⟩:=htd.cons_left;cases hy;exact to hk (by simp[stepG,stepG.exec,hrun,ht'])
  |inLoop b=>
   obtain⟨y,k',ht',hy,hk⟩:=htd.cons_left;cases hy;exact to (.cons (.code b) (.cons (.inLoop b) hk)) (by simp[stepG,stepG.exec,hrun,ht'])
  |inScope b=>
   obtain⟨y,k',ht',hy,hk⟩:=htd.cons_left;cases hy;exact to hk (by simp[stepG,stepG.exec,hrun,ht'])
  |inRegion ops rest=>
   cases rest with
   |nil=>
    obtain⟨y,k',ht',hy,hk⟩:=htd.cons_left;have:y= .inRegion ops []:=by
     generalize hx:YJ.inRegion ops []=x at hy;cases hy with
     | @inRegion ops' i hi=>
      injection hx with h1 h2;subst h1;have:=List.drop_eq_nil_iff.1 h2.symm;have:ops.size - i=0:=by simp at this;omega
      rw[this];rfl
     |_=>cases hx
    subst this;exact to hk (by simp[stepG,stepG.exec,hrun,ht'])
   |cons o rest=>
    show Out P T B cs0 fr' cs' w (MK T s ops o)
    unfold MK;obtain⟨y,k',ht',hy,hk⟩:=htd.cons_left;obtain⟨i,hi,ho,hr,rfl⟩:=Q7 hy;split
    ·rename_i hw;have hwt:=ZM h.p hw;split
     case h_2=>exact bs
     rename_i r hop;by_cases hd:s.fr.roundOf=none∨∀c,o.op≠ .defer c
     ·have hres:=EI (w:=w) C h.R (HN (fr':=fr') h.G h.p.tm) hop;refine Iq (RV C h.R h.G h.hlo h.p run h.st ?_ (bg _ _) hres);intro fr2 cs2 w2 hb;refine .one (dp ?_);rw[HE hrun ht' ho hwt (hd.imp (Zs hc.round) id)];exact hb
     ·simp only[not_or,Classical.not_forall,Classical.not_not]at hd;obtain⟨h1,c,h2⟩:=hd;rw[h2]at hop;have hop:QF _ c=some r:=hop;have hrd:∃d,r= .defer d:=by
       unfold QF at hop;split at hop
       ·split at hop
        ·injection hop with hop;exact⟨_,hop.symm⟩
        ·cases hop
       ·cases hop
      obtain⟨d,rfl⟩:=hrd;cases hro:s.fr.roundOf with
      |none=>exact absurd hro h1
      |some l=>simp only[Jj,FX,hro];exact bs
    ·rename_i hw;have hwt:=ZM h.p hw;split
     case h_2=>exact bs
     rename_i fr1 hf;exact h.frame (JI h.p run (XF.tuple .nil) hf) (Hk hrun ht' ho hwt) (bg _ _)
    ·exact bs
  |inDraw ops t V base=>
   obtain⟨y,k',ht',hy,hk⟩:=htd.cons_left;cases hy
  |beginRound=>
   show Out P T B cs0 fr' cs' w (DF s k)
   unfold DF;obtain⟨y,k',ht',hy,hk⟩:=htd.cons_left;cases hy;split
   case h_2=>exact bs
   rename_i l hro;obtain⟨en,hen,hro'⟩:=Zr hc.round hro;split
   case h_2=>exact bs
   rename_i L hl;split
   case h_2=>exact bs
   rename_i hst;obtain⟨r,g1,g2,g3,g4,g5,g6,g7⟩:=Rj (L':={L with st:= .busy}) h.R hl hen rfl rfl rfl rfl rfl rfl rfl rfl;have hrun2:=run_beginRound (P:=P) g1 (by rw[g2];exact hst);refine⟨μ,{fr' with todo:=k'},cs',_,⟨g5,h.G,lo,h.hlo, .plain ⟨⟨hc.fn,hc.kind,hc.round,hc.defers,hc.mode⟩,h.p.tm,fun _=>hk⟩,h.st.mono (Mu.Ext.refl _ _) (g6.kept _) (ak _)⟩, .one (dp ?_),g7⟩;have hw:w.putObj en.blk (.loop {r with state:= .busy})=wr w en.blk (.loop {r with state:= .busy,pending:=L.pending}):=by rw[←g3];rfl
   rw[hw]at hrun2;simp[stepG,stepG.exec,hrun,ht',stepG.apply,hro',hrun2,Frame.finish]
  |endRangeFunc l=>
   show Out P T B cs0 fr' cs' w (DD s l k)
   unfold DD;obtain⟨y,k',ht',hy,hk⟩:=htd.cons_left;cases hy with
   | @endRangeFunc _ en hen=>
   split
   case h_2=>exact bs
   rename_i L hl;split
   ·exact bs
   rename_i hnb;obtain⟨r,g1,g2,g3,g4,g5,g6,g7⟩:=Rj (L':={L with st:= .exhausted}) h.R hl hen rfl rfl rfl rfl rfl rfl rfl rfl;have hrun2:=run_endLoop (P:=P) g1 (by rw[g2];exact hnb);have hw:w.putObj en.blk (.loop {r with state:= .exhausted})=wr w en.blk (.loop {r with state:= .exhausted,pending:=L.pending}):=by rw[←g3];rfl
   rw[hw,g3]at hrun2;have hkk:KZ μ (match L.pending with|some c=> .code c::k|none=>k) ((L.pending.map Item.code).toList++k'):=by
    cases L.pending with
    |none=>exact hk
    |some c=>exact .cons (.code c) hk
   refine⟨μ,{fr' with todo:=(L.pending.map Item.code).toList++k'},cs',_,⟨g5,h.G,lo,h.hlo, .plain ⟨⟨hc.fn,hc.kind,hc.round,hc.defers,hc.mode⟩,h.p.tm,fun _=>hkk⟩,h.st.mono (Mu.Ext.refl _ _) (g6.kept _) (ak _)⟩, .one (dp ?_),g7⟩;simp[stepG,stepG.exec,hrun,ht',hrun2]
  |inRangeFunc l=>exact bs
theorem Ij(m:Qc)(vs:List PanicEntry):DL m vs≠ .run:=by
 intro h;unfold DL at h;split at h<;>cases h
theorem ZD{u:Nat}{v:Value}:∀{ds:List (Nat×Nat)} {vars:List (Option Value)} {over:List (Nat×Value)},G0 (Ud ds vars) [] u=some v→(∀k,(u,k)∉ds)∧G0 vars over u=some v:=by
 intro ds
 induction ds with
 |nil=>
  intro vars over h;refine⟨fun k hk=>(by cases hk),?_⟩;have h:(match nth vars u with|some o=>o|none=>XK [] u)=some v:=h
  show(match nth vars u with|some o=>o|none=>XK over u)=some v
  cases ho:nth vars u with
  |some o=>rw[ho]at h;exact h
  |none=>rw[ho]at h;cases h
 |cons p ds ih=>
  obtain⟨d,j⟩:=p;intro vars over h;have h:G0 (Ud ds (MT none vars d)) [] u=some v:=h;obtain⟨h1,h2⟩:=ih (over:=[]) h;unfold G0 at h2;split at h2
  case h_2=>cases h2
  rename_i o ho;subst h2;rw[YA,Gs,cq]at ho;split at ho
  ·split at ho
   ·cases ho
   ·cases ho
  ·rename_i hne;refine⟨fun k hk=>?_,?_⟩
   ·rcases av.1 hk with e|hk
    ·injection e with e _;exact hne e.symm
    ·exact h1 k hk
   ·unfold G0;rw[YA,ho]
theorem MJ(C:YN P T){μ:Mu}{s:ASt}{fr':Frame}{cs':List Frame}{w:World}{lo:Nat}(h:Pl T B μ s fr' cs' w lo)(hne:s.fr.mode≠ .run):Out P T B cs0 fr' cs' w (R5 T s):=by
 have hc:=h.p.core;have hrun:fr'.mode≠ .run:=by
  intro e;have:=hc.mode;rw[e]at this;generalize hm:s.fr.mode=mm at this;cases this;exact hne hm
 have hunw:stepG P true {frame:=fr',callers:=cs'++cs0,status:= .running,dying:=none} w=unwind P true fr' (cs'++cs0) none w:=by
  cases hm:fr'.mode with
  |run=>exact absurd hm hrun
  |_=>simp only[stepG,hm]
 have hdf:=hc.defers;unfold R5;split
 ·
  rename_i b args ds hds;rw[hds]at hdf;obtain⟨d',ds',hds',hd',hdd⟩:=hdf.cons_left;obtain⟨tg,ar⟩:=d';obtain⟨ht1,_⟩:=hd';have ht1:R7 μ (.collected b) tg:=ht1;cases ht1 with
  | @collected _ en hen=>
  split
  case h_2=>exact bs
  rename_i calls hb;obtain⟨hg,hB,hx⟩:=h.R.obj b _ en hb hen;rcases hx with⟨hx,_⟩|⟨l,l',hx,hy,hz⟩
  ·cases hx
  injection hx with hx;subst hx;have hlt:en.blk<w.heap.size:=(h.R.dom b en hen).2.1;obtain⟨R1,K1,B1⟩:=GC (w:=w) h.R hen hg hB (o:= .deferred none) trivial (o':= .deferred none) ⟨hg,hB, .inl ⟨rfl,Kx hlt _⟩⟩;have hrun2:=run_takeDeferred (P:=P) hy;refine⟨μ,{fr' with defers:=l'++ds'},cs',_,⟨R1,h.G,lo,h.hlo, .plain ⟨⟨hc.fn,hc.kind,hc.round,?_,hc.mode⟩,h.p.tm,h.p.todo⟩,h.st.mono (Mu.Ext.refl _ _) (K1.kept _) (ak _)⟩, .one (dp ?_),B1⟩
  ·show Y4 (GH μ) (app calls ds) (l'++ds')
   rw[KT];exact hz.app hdd
  ·rw[hunw];simp only[unwind,hds',fy,hrun2,ex];rfl
 ·rename_i f captured args ds hds;rw[hds]at hdf;obtain⟨d',ds',hds',hd',hdd⟩:=hdf.cons_left;obtain⟨tg,ar⟩:=d';obtain⟨ht1,ha⟩:=hd';have ht1:R7 μ (.fn (.func f) captured) tg:=ht1;cases ht1 with
  | @fn _ hy _ ys hcap=>
  split
  case h_2=>exact bs
  rename_i fr1 hen;have hfn:∃a,T.fn.get f=some a:=by
   unfold ZY at hen;split at hen
   ·rename_i a ha;exact⟨a,ha⟩
   ·cases hen
  obtain⟨a,hfn⟩:=hfn;have hrun2:=Gd C hfn (ar++ys) w;have hargs:XF μ (app args.toList captured.toList) (ar++ys).toList:=by
   rw[KT,gv];exact ha.app hcap
  have hp1:Plain μ {s.fr with defers:=ds} {fr' with defers:=ds'}:=⟨⟨hc.fn,hc.kind,hc.round,hdd,hc.mode⟩,h.p.tm,h.p.todo⟩;refine⟨μ,Frame.enter P f (ar++ys) .deferred,{fr' with defers:=ds'}::cs',w,⟨h.R,h.G,s.A.next,ak _, .plain (Qm C hargs hen), .cons (.plain hp1) h.hlo h.st⟩, .one (dp ?_),bg _ _⟩;rw[hunw];simp only[unwind,hds',callDeferred];simp[invoke,hrun2]
 ·exact bs
 ·rename_i hds;rw[hds]at hdf;have hds':=hdf.nil_left;split
  ·exact bs
  ·
   rename_i chain hmode;have hm:=hc.mode;rw[hmode]at hm;generalize hm':fr'.mode=mm at hm;cases hm with
   | @panicking _ chain' hch=>
   split
   case h_2=>exact bs
   rename_i c rest a hcs hfn;have hst:=h.st;rw[hcs]at hst;generalize hcs':cs'=cs2 at hst;cases hst with
   | @cons lo2 _ _ c' _ cs2' hcr hle ht=>
   subst hcs';obtain⟨fn,hf,_⟩:=C.fn _ a hfn;rw[←hc.fn]at hf;have hgo:∀{c1:Xz},Plain μ c1 (c'.raise chain')→ZK P T B cs0 (lone fr' (c'::cs2'++cs0) w) w {s with fr:=c1,cs:=rest}:=by
    intro c1 hp1;refine⟨μ,c'.raise chain',cs2',w,⟨h.R,h.G,lo2,bd hle h.hlo, .plain hp1,ht⟩, .one (dp ?_),bg _ _⟩;rw[hunw];simp[unwind,Frame.catches,hds',hm',hf]
   split
   ·rename_i ops t V base k htd;cases hcr with
    |plain hp=>
     have hnr:c.mode≠ .run:=by
      intro hm;have:=hp.todo hm;rw[htd]at this;obtain⟨y,k',_,hy,_⟩:=this.cons_left;cases hy
     have hr:=Hn hp hch;refine hgo ⟨⟨hr.core.fn,hr.core.kind,hr.core.round,hr.core.defers,hr.core.mode⟩,⟨hr.tm.1,fun u v hu=>hr.tm.2 u v ?_⟩,fun hm=>?_⟩
     ·obtain⟨_,hg⟩:=ZD hu;exact hg
     ·exact absurd hm (Ij _ _)
    |wait core run h1 h2 h3 hcc h4=>
     rw[htd]at h1;injection h1 with h1 _;injection h1 with e1 e2 e3 e4;subst e1;have hr:=U9 core hch;refine hgo ⟨⟨hr.fn,hr.kind,hr.round,hr.defers,hr.mode⟩,⟨?_,fun u v hu=>?_⟩,fun hm=>?_⟩
     ·have:=h4.nt;unfold Frame.raise;split<;>exact this
     ·obtain⟨hno,hg⟩:=ZD hu;obtain⟨v',x,y⟩:=h4.old u v hg (fun k hk=>absurd ((VL (Ky h4.ok).2.2.1).2 hk) (hno k));refine⟨v',?_,y⟩;unfold Frame.raise;split<;>exact x
     ·exact absurd hm (Ij _ _)
   ·rename_i hnd;cases hcr with
    |wait core run h1=>exact absurd h1 (by intro e;exact hnd _ _ _ _ _ e)
    |plain hp=>exact hgo (Hn hp hch)
  ·rename_i hmode;have hm:=hc.mode;rw[hmode]at hm;generalize hm':fr'.mode=mm at hm;cases hm;split
   ·exact bs
   rename_i a hfn;split
   ·exact bs
   rename_i vs hvs;obtain⟨fn,v',hf,hres,hv⟩:=Ln C h.R h.p.tm hfn hvs;rw[←hc.fn]at hf;have hstep:∀{fr2:Frame} {cs2:List Frame} {w3:World},(doReturn P true fr' (cs'++cs0) none v' w).bare= .go {frame:=fr2,callers:=cs2,status:= .running,dying:=none} w3→Steps P (lone fr' (cs'++cs0) w) (lone fr2 cs2 w3):=by
    intro fr2 cs2 w3 hb;refine .one (dp ?_);rw[hunw];simp only[unwind,hds',hm',hf,fy,hres,ex];exact hb
   split
   ·rename_i hcs hkd hro;have hst:=h.st;rw[hcs]at hst;generalize hcs':cs'=cs2 at hst;cases hst;exact⟨μ,v',⟨hm',hds',by rw[hc.kind,hkd],fn,hf,hres⟩,hv,hc.fn,rfl⟩
   ·rename_i c rest hcs hkd hro;split
    case h_2=>exact bs
    rename_i c1 hfin;have hst:=h.st;rw[hcs]at hst;generalize hcs':cs'=cs2 at hst;cases hst with
    | @cons lo2 _ _ c' _ cs2' hcr hle ht=>
    subst hcs';refine⟨μ,c'.finish v',cs2',w,⟨h.R,h.G,lo2,bd hle h.hlo,(Za hcr hv hfin).up h.hlo,ht⟩,hstep ?_,bg _ _⟩;have hkd':fr'.kind= .normal:=by rw[hc.kind,hkd]
    simp[doReturn,hkd']
   ·rename_i c rest hcs hkd hro;have hst:=h.st;rw[hcs]at hst;generalize hcs':cs'=cs2 at hst;cases hst with
    | @cons lo2 _ _ c' _ cs2' hcr hle ht=>
    subst hcs';have hkd':fr'.kind= .deferred:=by rw[hc.kind,hkd]
    have hplain:c.mode≠ .run→Plain μ c c':=by
     intro hn;cases hcr with
     |plain hp=>exact hp
     |wait core run=>exact absurd run hn
    split
    ·rename_i v gx older hcm;have hp:=hplain (by rw[hcm];exact nofun);have hm2:=hp.core.mode;rw[hcm]at hm2;generalize hcm':c'.mode=mm at hm2;cases hm2 with
     |panicking hl2=>
     obtain⟨y,older',rfl,hy,hol⟩:=hl2.cons_left;obtain⟨v2,rc,gx'⟩:=y;obtain⟨hv2,hrc,hgx⟩:=hy;have hrc:true=rc:=hrc;subst hrc;have hdrop:=Mf hol;split
     ·rename_i hdr;rw[hdr]at hdrop;have hdr':=hdrop.nil_left;refine⟨μ,{c' with mode:= .returning},cs2',w,⟨h.R,h.G,lo2,bd hle h.hlo, .plain ⟨⟨hp.core.fn,hp.core.kind,hp.core.round,hp.core.defers, .returning⟩,hp.tm,fun h=>by cases h⟩,ht⟩,hstep ?_,bg _ _⟩;simp[doReturn,hkd',hcm',hdr']
     ·rename_i hdr;generalize hr':older'.dropWhile (!·.goexit)=r' at hdrop;refine⟨μ,{c' with mode:= .panicking r'},cs2',w,⟨h.R,h.G,lo2,bd hle h.hlo, .plain ⟨⟨hp.core.fn,hp.core.kind,hp.core.round,hp.core.defers, .panicking hdrop⟩,hp.tm,fun h=>by cases h⟩,ht⟩,hstep ?_,bg _ _⟩;have hne:r'≠[]:=by
       rintro rfl;have:=hdrop.1;simp at this;exact hdr this
      cases r' with
      |nil=>exact absurd rfl hne
      |cons x r'=>simp[doReturn,hkd',hcm',hr']
    ·exact bs
    ·rename_i hn1 hn2;have hp:=hplain (fun e=>hn2 e);have hcm':∀v gx older,c'.mode≠ .panicking ({v:=v,recovered:=true,goexit:=gx}::older):=by
      intro v gx older e;have hm2:=hp.core.mode;rw[e]at hm2;generalize hcm:c.mode=mm at hm2;cases hm2 with
      | @panicking a _ hl2=>
      cases a with
      |nil=>have:=hl2.1;simp at this
      |cons x a=>
       have hx:=hl2.head;obtain⟨xv,xr,xg⟩:=x;have:xr=true:=hx.2.1;subst this;exact hn1 _ _ _ hcm
     refine⟨μ,c',cs2',w,⟨h.R,h.G,lo2,bd hle h.hlo, .plain hp,ht⟩,hstep ?_,bg _ _⟩;cases hcm2:c'.mode with
     |run=>simp[doReturn,hkd',hcm2]
     |returning=>simp[doReturn,hkd',hcm2]
     |panicking ch=>
      cases ch with
      |nil=>simp[doReturn,hkd',hcm2]
      |cons x ch=>
       obtain⟨x1,x2,x3⟩:=x;cases x2 with
       |true=>exact absurd hcm2 (hcm' _ _ _)
       |false=>simp[doReturn,hkd',hcm2]
   ·exact bs
theorem IW(C:YN P T){μ:Mu}{s:ASt}{fr':Frame}{cs':List Frame}{w:World}(h:I4 T B μ s fr' cs' w):Out P T B cs0 fr' cs' w (O3 T s):=by
 obtain⟨R,G,lo,hlo,hf,hst⟩:=h;unfold O3;split
 ·rename_i run;cases hf with
  |plain hp=>exact VW C ⟨R,G,hlo,hp,hst⟩ run
  |draw core run h1 h2 h3 h4=>
   unfold U0;rw[h1];exact Cf C R G hlo hst core run h2 h3 h4
 ·rename_i hn;cases hf with
  |plain hp=>exact MJ C ⟨R,G,hlo,hp,hst⟩ hn
  |draw core run=>exact absurd run hn
end
noncomputable section
def Eo(T:Tab)(ops:Array Oper)(k:List YJ)(rest:List Oper):ASt→V0:=
 match rest with
 |[]=>fun s=>toS s k
 |o::r=>fun s=>
  match Uw s.fr ops.toList o with
  |some true=>
   (match aop T s.A (UZ T.nglob s.fr.vars s.fr.over) o.op with
    |some (.val v A)=>(match s.fr.put o.dst v with|some fr=>Eo T ops k r {s with fr:=fr,A:=A}|none=> .stuck)
    |some (.skip A)=>(match s.fr.put o.dst undef with|some fr=>Eo T ops k r {s with fr:=fr,A:=A}|none=> .stuck)
    |some res=>Jj T {s with fr:={s.fr with todo:= .inRegion ops (o::r)::k}} res
    |none=> .stuck)
  |some false=>(match s.fr.put o.dst undef with|some fr=>Eo T ops k r {s with fr:=fr}|none=> .stuck)
  |none=> .stuck
def Z9(T:Tab)(c:Code):ASt→List YJ→V0:=
 match c with
 | .seq a b=>fun s k=>Z9 T a s (.code b::k)
 | .cond x a b=>fun s k=>(match UZ T.nglob s.fr.vars s.fr.over x with|some (.bool true)=>Z9 T a s k|some (.bool false)=>Z9 T b s k|_=> .stuck)
 | .block id b=>fun s k=>Z9 T b s (.inBlock id::k)
 | .loop b=>fun s k=>Z9 T b s (.inLoop b::k)
 | .scope b=>fun s k=>Z9 T b s (.inScope b::k)
 | .region _ ops false=>fun s k=>Eo T ops k ops.toList {s with fr:={s.fr with over:=Jo s.fr.over}}
 |c=>fun s k=>DE T {s with fr:={s.fr with todo:= .code c::k}} c k
def fJ(T:Tab)(s:ASt):V0:=
 match s.fr.todo with
 | .code c::k=>Z9 T c s k
 | .inRegion ops rest::k=>Eo T ops k rest s
 | .inBlock _:: .code c::k=>Z9 T c s k
 | .inLoop b::k=>Z9 T b s (.inLoop b::k)
 |_=>U0 T s
def G3(T:Tab)(s:ASt):V0:=
 match s.fr.mode with
 | .run=>fJ T s
 |_=>R5 T s
def kD(n:Nat)(k:Nat→ASt):ASt:=Nat.rec (motive:=fun _=>ASt) (k 0) (fun m _=>k (Nat.succ m)) n
def bU{α:Type}(l:List α)(k:List α→ASt):ASt:=List.rec (motive:=fun _=>ASt) (k []) (fun a r _=>k (a::r)) l
def fTr{α:Type}(t:Tr α)(k:Tr α→ASt):ASt:=match t with| .e=>k .e| .n l v r=>k (.n l v r)
def fI(m:Qc)(k:Qc→ASt):ASt:=match m with| .run=>k .run| .returning=>k .returning| .panicking c=>k (.panicking c)
def fCK(c:CallKind)(k:CallKind→ASt):ASt:=match c with| .normal=>k .normal| .deferred=>k .deferred|c=>k c
def fON(o:Option Nat)(k:Option Nat→ASt):ASt:=match o with|none=>k none|some n=>k (some n)
theorem WH{n:Nat}{k:Nat→ASt}:kD n k=k n:=by cases n<;>rfl
theorem WI{α:Type}{l:List α}{k:List α→ASt}:bU l k=k l:=by cases l<;>rfl
theorem fG{α:Type}{t:Tr α}{k:Tr α→ASt}:fTr t k=k t:=by cases t<;>rfl
theorem Ot{m:Qc}{k:Qc→ASt}:fI m k=k m:=by cases m<;>rfl
theorem fK{c:CallKind}{k:CallKind→ASt}:fCK c k=k c:=by cases c<;>rfl
theorem fH{o:Option Nat}{k:Option Nat→ASt}:fON o k=k o:=by cases o<;>rfl
def norm(s:ASt):ASt:=
 match s with
 |⟨⟨fn,nt,vars,over,todo,defers,mode,kind,ro⟩,cs,⟨h,nx,fm⟩⟩=>
  fI mode fun mode=>kD fn fun fn=>kD nt fun nt=>bU vars fun vars=>bU over fun over=>bU todo fun todo=>bU defers fun defers=>fCK kind fun kind=>fON ro fun ro=>
   bU cs fun cs=>fTr h fun h=>kD nx fun nx=>fTr fm fun fm=>⟨⟨fn,nt,vars,over,todo,defers,mode,kind,ro⟩,cs,⟨h,nx,fm⟩⟩
theorem norm_eq(s:ASt):norm s=s:=by
 obtain⟨⟨fn,nt,vars,over,todo,defers,mode,kind,ro⟩,cs,⟨h,nx,fm⟩⟩:=s;unfold norm;simp only[Ot,WH,WI,fK,fH,fG]
def mG(T:Tab)(s:ASt):ASt:=match G3 T s with| .next s'=>s'| .branch [s']=>s'|_=>s
def nA(o:V0):Nat:=match o with| .branch l=>len l|_=>0
def MG(o:V0)(i:Nat)(s:ASt):ASt:=match o with| .branch l=>(match nth l i with|some s'=>s'|none=>s)|_=>s
variable {P:Program} {T:Tab} {B:Nat} {cs0:List Frame}
def ES(P:Program)(T:Tab)(B:Nat)(cs0:List Frame)(m:Machine)(w:World):V0→Prop
 | .next s'=>ZK P T B cs0 m w s'
 | .branch l=>∃s'∈l,ZK P T B cs0 m w s'
 | .done f v=>∃μ fr2 w2 v',Steps P m (lone fr2 cs0 w2)∧Below B w w2∧fr2.leaving P w2 (.returned v')∧XI μ v v'∧fr2.fn=f
 | .stuck=>True
theorem Out.toM{fr':Frame}{cs':List Frame}{w:World}{o:V0}(h:Out P T B cs0 fr' cs' w o):ES P T B cs0 (lone fr' (cs'++cs0) w) w o:=by
 cases o with
 |next s=>exact h
 |branch l=>exact h
 |done f v=>
  obtain⟨μ,v',h1,h2,h3,rfl⟩:=h;exact⟨μ,fr',w,v',Steps.refl _ _,bg _ _,h1,h2,h3⟩
 |stuck=>exact bs
theorem IG{m:Machine}{w:World}{fr':Frame}{cs':List Frame}{w':World}{s:ASt}(hs:Steps P m (lone fr' (cs'++cs0) w'))(hb:Below B w w')(h:ZK P T B cs0 (lone fr' (cs'++cs0) w') w' s):ZK P T B cs0 m w s:=by
 obtain⟨μ,a,b,c,h1,h2,h3⟩:=h;exact⟨μ,a,b,c,h1,hs.trans h2,hb.trans h3⟩
theorem ES.pre{m:Machine}{w:World}{fr':Frame}{cs':List Frame}{w':World}{o:V0}(hs:Steps P m (lone fr' (cs'++cs0) w'))(hb:Below B w w')(h:ES P T B cs0 (lone fr' (cs'++cs0) w') w' o):ES P T B cs0 m w o:=by
 cases o with
 |next s=>exact IG hs hb h
 |branch l=>obtain⟨s,hm,h⟩:=h;exact⟨s,hm,IG hs hb h⟩
 |done f v=>
  obtain⟨μ,fr2,w2,v',h1,h2,h3⟩:=h;exact⟨μ,fr2,w2,v',hs.trans h1,hb.trans h2,h3⟩
 |stuck=>exact bs
theorem Kr{m:Machine}{w:World}{s:ASt}(h:ZK P T B cs0 m w s)(hd:∀ops t V base k,s.fr.todo≠ .inDraw ops t V base::k){o:V0}
  (k:∀{μ:Mu} {fr':Frame} {cs':List Frame} {w':World} {lo:Nat},Pl T B μ s fr' cs' w' lo→ES P T B cs0 (lone fr' (cs'++cs0) w') w' o):ES P T B cs0 m w o:=by
 obtain⟨μ,fr',cs',w',⟨R,G,lo,hlo,hf,hst⟩,h1,h2⟩:=h;cases hf with
 |plain hp=>exact ES.pre h1 h2 (k ⟨R,G,hlo,hp,hst⟩)
 |draw core run e1 e2 e3 e4=>exact absurd e1 (hd _ _ _ _ _)
theorem Ny{fr fr1:Xz}{td:List YJ}{d:Option Tmp}{v:Value}(h:fr.put d v=some fr1):({fr with todo:=td}:Xz).put d v=some {fr1 with todo:=td}:=by
 cases d with
 |none=>injection h with h;subst h;rfl
 |some t=>
  have h:(match Nat.blt t fr.nt,Ia fr.vars fr.over t v with|true,(vs,ov)=>some {fr with vars:=vs,over:=ov}|false,_=>none)=some fr1:=h
  show(match Nat.blt t fr.nt,Ia fr.vars fr.over t v with|true,(vs,ov)=>some ({fr with todo:=td,vars:=vs,over:=ov}:Xz)|false,_=>none)=_
  split at h
  ·rename_i vs ov e1 e2;injection h with h;subst h;rfl
  ·cases h
theorem Nz{fr fr1:Xz}{d:Option Tmp}{v:Value}(h:fr.put d v=some fr1):fr1.mode=fr.mode:=by
 cases d with
 |none=>injection h with h;subst h;rfl
 |some t=>rw[(Ik h).1]
theorem IQ(C:YN P T){ops:Array Oper}{k:List YJ}:∀(rest:List Oper) {s:ASt} {μ:Mu} {fr':Frame} {cs':List Frame} {w:World} {lo:Nat},s.fr.mode= .run→
  Pl T B μ {s with fr:={s.fr with todo:= .inRegion ops rest::k}} fr' cs' w lo→ES P T B cs0 (lone fr' (cs'++cs0) w) w (Eo T ops k rest s):=by
 intro rest
 induction rest with
 |nil=>
  intro s μ fr' cs' w lo run h;exact(VW C h run).toM
 |cons o r ih=>
  intro s μ fr' cs' w lo run h;have h1:ES P T B cs0 (lone fr' (cs'++cs0) w) w (MK T {s with fr:={s.fr with todo:= .inRegion ops (o::r)::k}} ops o):=(VW C h run).toM;have on:∀{v:Value} {A:Xx} {fr1:Xz},s.fr.put o.dst v=some fr1→MK T {s with fr:={s.fr with todo:= .inRegion ops (o::r)::k}} ops o=EG {s with fr:={s.fr with todo:= .inRegion ops (o::r)::k}} v A→
    ES P T B cs0 (lone fr' (cs'++cs0) w) w (Eo T ops k r {s with fr:=fr1,A:=A}):=by
   intro v A fr1 hp he;rw[he]at h1;have hf:({s.fr with todo:= .inRegion ops (o::r)::k}:Xz).finish v=some {fr1 with todo:= .inRegion ops r::k}:=Ny (fr:=s.fr) (td:= .inRegion ops r::k) hp;have h2:ES P T B cs0 (lone fr' (cs'++cs0) w) w (.next {s with fr:={fr1 with todo:= .inRegion ops r::k},A:=A}):=by
    have:EG {s with fr:={s.fr with todo:= .inRegion ops (o::r)::k}} v A= .next {s with fr:={fr1 with todo:= .inRegion ops r::k},A:=A}:=by
     unfold EG;rw[hf]
    rw[this]at h1;exact h1
   refine Kr h2 (fun _ _ _ _ _ e=>by cases e) fun hpl=>?_;exact ih (s:={s with fr:=fr1,A:=A}) (by show fr1.mode= .run;rw[Nz hp];exact run) hpl
  unfold Eo;simp only;have hop:MK T {s with fr:={s.fr with todo:= .inRegion ops (o::r)::k}} ops o=(match Uw s.fr ops.toList o with
   |some true=>(match aop T s.A (UZ T.nglob s.fr.vars s.fr.over) o.op with|some r'=>Jj T {s with fr:={s.fr with todo:= .inRegion ops (o::r)::k}} r'|none=> .stuck)
   |some false=>(match({s.fr with todo:= .inRegion ops (o::r)::k}:Xz).finish undef with|some fr=> .next {s with fr:=fr}|none=> .stuck)
   |none=> .stuck):=rfl
  split
  ·rename_i hw;split
   ·rename_i v A ha;split
    ·rename_i fr1 hp;refine on hp ?_;rw[hop,hw,ha];rfl
    ·exact bs
   ·rename_i A ha;split
    ·rename_i fr1 hp;refine on hp ?_;rw[hop,hw,ha];rfl
    ·exact bs
   ·rename_i res hn1 hn2 ha;rw[hop,hw,ha]at h1;exact h1
   ·exact bs
  ·rename_i hw;split
   ·rename_i fr1 hp;have:=on (A:=s.A) hp (by
     rw[hop,hw];unfold EG;rfl)
    exact this
   ·exact bs
  ·exact bs
theorem RM(C:YN P T):∀(c:Code) {s:ASt} {k:List YJ} {μ:Mu} {fr':Frame} {cs':List Frame} {w:World} {lo:Nat},s.fr.mode= .run→
  Pl T B μ {s with fr:={s.fr with todo:= .code c::k}} fr' cs' w lo→ES P T B cs0 (lone fr' (cs'++cs0) w) w (Z9 T c s k):=by
 intro c;have one:∀{c:Code} {s:ASt} {k:List YJ} {μ:Mu} {fr':Frame} {cs':List Frame} {w:World} {lo:Nat},s.fr.mode= .run→Pl T B μ {s with fr:={s.fr with todo:= .code c::k}} fr' cs' w lo→
   ES P T B cs0 (lone fr' (cs'++cs0) w) w (DE T {s with fr:={s.fr with todo:= .code c::k}} c k):=fun run h=>(VW C h run).toM
 induction c with
 |seq a b iha ihb=>
  intro s k μ fr' cs' w lo run h;exact Kr (one run h) (fun _ _ _ _ _ e=>by cases e) fun hpl=>iha run hpl
 |cond x a b iha ihb=>
  intro s k μ fr' cs' w lo run h;have h1:=one run h;have he:DE T {s with fr:={s.fr with todo:= .code (.cond x a b)::k}} (.cond x a b) k=(match UZ T.nglob s.fr.vars s.fr.over x with
   |some (.bool true)=>toS {s with fr:={s.fr with todo:= .code (.cond x a b)::k}} (.code a::k)|some (.bool false)=>toS {s with fr:={s.fr with todo:= .code (.cond x a b)::k}} (.code b::k)|_=> .stuck):=rfl
  rw[he]at h1
  show ES P T B cs0 _ w (match UZ T.nglob s.fr.vars s.fr.over x with|some (.bool true)=>Z9 T a s k|some (.bool false)=>Z9 T b s k|_=> .stuck)
  split
  ·rename_i hx;rw[hx]at h1;exact Kr h1 (fun _ _ _ _ _ e=>by cases e) fun hpl=>iha run hpl
  ·rename_i hx;rw[hx]at h1;exact Kr h1 (fun _ _ _ _ _ e=>by cases e) fun hpl=>ihb run hpl
  ·exact bs
 |block id b ih=>
  intro s k μ fr' cs' w lo run h;exact Kr (one run h) (fun _ _ _ _ _ e=>by cases e) fun hpl=>ih run hpl
 |loop b ih=>
  intro s k μ fr' cs' w lo run h;exact Kr (one run h) (fun _ _ _ _ _ e=>by cases e) fun hpl=>ih run hpl
 |scope b ih=>
  intro s k μ fr' cs' w lo run h;exact Kr (one run h) (fun _ _ _ _ _ e=>by cases e) fun hpl=>ih run hpl
 |region id ops draw=>
  intro s k μ fr' cs' w lo run h;cases draw with
  |true=>exact one run h
  |false=>
   refine Kr (one run h) (fun _ _ _ _ _ e=>by cases e) fun hpl=>?_;exact IQ C ops.toList (s:={s with fr:={s.fr with over:=Jo s.fr.over}}) run hpl
 |_=>intro s k μ fr' cs' w lo run h;exact one run h
theorem RI(C:YN P T){μ:Mu}{s:ASt}{fr':Frame}{cs':List Frame}{w:World}(h:I4 T B μ s fr' cs' w):ES P T B cs0 (lone fr' (cs'++cs0) w) w (G3 T s):=by
 have h0:=h;obtain⟨R,G,lo,hlo,hf,hst⟩:=h;unfold G3;split
 ·rename_i run;have hplain:(∀ops t V base k,s.fr.todo≠ .inDraw ops t V base::k)→Pl T B μ s fr' cs' w lo:=by
   intro hd;cases hf with
   |plain hp=>exact⟨R,G,hlo,hp,hst⟩
   |draw core run e1=>exact absurd e1 (hd _ _ _ _ _)
  have hexec:ES P T B cs0 (lone fr' (cs'++cs0) w) w (U0 T s):=by
   have:=(IW (cs0:=cs0) C h0).toM;unfold O3 at this;rw[run]at this;exact this
  have same:∀{td:List YJ},s.fr.todo=td→({s with fr:={s.fr with todo:=td}}:ASt)=s:=by
   intro td e;subst e;rfl
  unfold fJ;split
  ·rename_i c k ht;have hp:=hplain (by rw[ht];intro _ _ _ _ _ e;cases e);exact RM C c run (by rw[same ht];exact hp)
  ·rename_i ops rest k ht;have hp:=hplain (by rw[ht];intro _ _ _ _ _ e;cases e);exact IQ C rest run (by rw[same ht];exact hp)
  ·rename_i id c k ht;have he:U0 T s=toS s (.code c::k):=by unfold U0;rw[ht];rfl
   rw[he]at hexec;exact Kr hexec (fun _ _ _ _ _ e=>by cases e) fun hpl=>RM C c run hpl
  ·rename_i b k ht;have he:U0 T s=toS s (.code b:: .inLoop b::k):=by unfold U0;rw[ht];rfl
   rw[he]at hexec;exact Kr hexec (fun _ _ _ _ _ e=>by cases e) fun hpl=>RM C b run hpl
  ·exact hexec
 ·rename_i hn;have:=(IW (cs0:=cs0) C h0).toM;unfold O3 at this;split at this
  ·rename_i run;exact absurd run hn
  ·exact this
end
noncomputable section
def mX (T:Tab) (n:Nat):ASt→ASt:=
  Nat.rec (motive:=fun _=>ASt→ASt) (fun s=>norm (mG T s)) (fun _ ih s=>match ih s with|⟨fr,cs,A⟩=>ih ⟨fr,cs,A⟩) n
def Y6(T:Tab)(ns:List Nat)(s:ASt):ASt:=match ns with|[]=>s|n::r=>Y6 T r (mX T n s)
end
noncomputable section
variable {P:Program} {T:Tab} {B:Nat} {cs0:List Frame}
theorem ZK.trans{m:Machine}{w:World}{s s':ASt}(h:ZK P T B cs0 m w s)(k:∀{μ:Mu} {fr':Frame} {cs':List Frame} {w':World},I4 T B μ s fr' cs' w'→ZK P T B cs0 (lone fr' (cs'++cs0) w') w' s'):ZK P T B cs0 m w s':=by
 obtain⟨μ,fr',cs',w',h1,h2,h3⟩:=h;obtain⟨μ2,fr2,cs2,w2,k1,k2,k3⟩:=k h1;exact⟨μ2,fr2,cs2,w2,k1,h2.trans k2,h3.trans k3⟩
theorem ZK.refl{μ:Mu}{s:ASt}{fr':Frame}{cs':List Frame}{w:World}(h:I4 T B μ s fr' cs' w):ZK P T B cs0 (lone fr' (cs'++cs0) w) w s:=
 ⟨μ,fr',cs',w,h,Steps.refl _ _,bg _ _⟩
theorem aJ(C:YN P T)(n:Nat):∀{μ:Mu} {s:ASt} {fr':Frame} {cs':List Frame} {w:World},I4 T B μ s fr' cs' w→ZK P T B cs0 (lone fr' (cs'++cs0) w) w (mX T n s):=by
 induction n with
 |zero=>
  intro μ s fr' cs' w h;have hs:=RI (cs0:=cs0) C h
  show ZK P T B cs0 _ w (norm (mG T s))
  rw[norm_eq];unfold mG;split
  ·rename_i s' e;rw[e]at hs;exact hs
  ·rename_i s' e;rw[e]at hs;obtain⟨s2,hm,hg⟩:=hs;rw[dm]at hm;subst hm;exact hg
  ·exact ZK.refl h
 |succ n ih=>
  intro μ s fr' cs' w h;have h1:=ih (cs':=cs') h;exact h1.trans (s':=mX T (n+1) s) fun h2=>ih h2
theorem IX(C:YN P T):∀(ns:List Nat) {μ:Mu} {s:ASt} {fr':Frame} {cs':List Frame} {w:World},I4 T B μ s fr' cs' w→ZK P T B cs0 (lone fr' (cs'++cs0) w) w (Y6 T ns s):=by
 intro ns
 induction ns with
 |nil=>intro μ s fr' cs' w h;exact ZK.refl h
 |cons n ns ih=>
  intro μ s fr' cs' w h;exact(aJ C n h).trans fun h2=>ih h2
def gcH(keep:List Nat)(h:Tr Yj):Tr Yj:=
 match keep with
 |[]=> .e
 |k::r=>(match h.get k with|some o=>(gcH r h).put (some o) k|none=>gcH r h)
theorem RC{h:Tr Yj}:∀{keep:List Nat} {k:Nat} {o:Yj},(gcH keep h).get k=some o→h.get k=some o:=by
 intro keep
 induction keep with
 |nil=>intro k o hk;cases hk
 |cons a keep ih=>
  intro k o hk;unfold gcH at hk;split at hk
  ·rename_i x hx;rcases Tr.get_put hk with⟨rfl,e⟩|⟨_,hk⟩
   ·injection e with e;subst e;exact hx
   ·exact ih hk
  ·exact ih hk
theorem Oh{h:Tr Yj}:∀{keep:List Nat} {k:Nat} {o:Yj},k∈keep→k+1<2^24→h.get k=some o→(gcH keep h).get k=some o:=by
 intro keep
 induction keep with
 |nil=>intro k o hk;cases hk
 |cons a keep ih=>
  intro k o hk hlt ho;unfold gcH;by_cases e:a=k
  ·subst e;rw[ho];exact Tr.get_put_there _ _ _ hlt
  ·have hk:k∈keep:=by
    rcases av.1 hk with h|h
    ·exact absurd h.symm e
    ·exact h
   split
   ·rw[Tr.get_put_other _ _ _ _ (Ne.symm e)];exact ih hk hlt ho
   ·exact ih hk hlt ho
def SZ(h:Tr Yj)(l:List Nat):List Nat:=
 match l with
 |[]=>[]
 |m::r=>(match h.get m with|some _=>m::SZ h r|none=>SZ h r)
theorem Oc{h:Tr Yj}{m:Nat}{o:Yj}(ho:h.get m=some o):∀{l:List Nat},m∈l→m∈SZ h l:=by
 intro l
 induction l with
 |nil=>intro hm;cases hm
 |cons x l ih=>
  intro hm;unfold SZ;rcases av.1 hm with rfl|hm
  ·rw[ho];simp
  ·split
   ·exact bc _ (ih hm)
   ·exact ih hm
def gcF(fs:List Nat)(h:Tr Yj)(t:Tr (List Nat)):Tr (List Nat):=
 match fs with
 |[]=> .e
 |f::r=>(match t.get f with|some l=>(gcF r h t).put (some (SZ h l)) f|none=>gcF r h t)
theorem S8{h:Tr Yj}{t:Tr (List Nat)}:∀{fs:List Nat} {f:Nat} {l:List Nat},f∈fs→f+1<2^24→t.get f=some l→(gcF fs h t).get f=some (SZ h l):=by
 intro fs
 induction fs with
 |nil=>intro f l hf;cases hf
 |cons a fs ih=>
  intro f l hf hlt hl;unfold gcF;by_cases e:a=f
  ·subst e;rw[hl];exact Tr.get_put_there _ _ _ hlt
  ·have hf:f∈fs:=by
    rcases av.1 hf with h|h
    ·exact absurd h.symm e
    ·exact h
   split
   ·rw[Tr.get_put_other _ _ _ _ (Ne.symm e)];exact ih hf hlt hl
   ·exact ih hf hlt hl
def H9(keep fs:List Nat)(h:Tr Yj):Bool:=
 match keep with
 |[]=>true
 |k::r=>
  (match h.get k with
   |some (.cells _ (.grown g))=>(match mem g.fam fs,Nat.blt g.fam 16000000 with|true,true=>H9 r fs h|_,_=>false)
   |_=>H9 r fs h)
theorem FK{fs:List Nat}{h:Tr Yj}:∀{keep:List Nat},H9 keep fs h=true→∀k∈keep,∀xs g,h.get k=some (.cells xs (.grown g))→g.fam∈fs∧g.fam<16000000:=by
 intro keep
 induction keep with
 |nil=>intro _ k hk;cases hk
 |cons a keep ih=>
  intro hf k hk xs g ho;unfold H9 at hf;rcases av.1 hk with rfl|hk
  ·rw[ho]at hf;simp only at hf;split at hf
   ·rename_i h1 h2;exact⟨H1.1 h1,by simpa using h2⟩
   ·cases hf
  ·refine ih ?_ k hk xs g ho;split at hf
   ·split at hf
    ·exact hf
    ·cases hf
   ·exact hf
def Ge(keep:List Nat)(h:Tr Yj)(ops:List Oper)(b:Nat):Bool:=
 match ops with
 |[]=>true
 |_::r=>
  (match h.get b with
   |none=>Ge keep h r (Nat.succ b)
   |some _=>(match mem b keep,Nat.blt b 16000000 with|true,true=>Ge keep h r (Nat.succ b)|_,_=>false))
theorem ZR{keep:List Nat}{h:Tr Yj}:∀{ops:List Oper} {b:Nat},Ge keep h ops b=true→∀j,j<ops.length→∀o,h.get (b+j)=some o→(gcH keep h).get (b+j)=some o:=by
 intro ops
 induction ops with
 |nil=>intro b _ j hj;cases hj
 |cons x ops ih=>
  intro b hk j hj o ho;unfold Ge at hk;cases j with
  |zero=>
   rw[dy]at ho⊢;rw[ho]at hk;simp only at hk;split at hk
   ·rename_i h1 h2;have h2:b<16000000:=by simpa using h2
    exact Oh (H1.1 h1) (by omega) ho
   ·cases hk
  |succ j=>
   have e:b+(j+1)=Nat.succ b+j:=by omega
   rw[e]at ho⊢;refine ih ?_ j (by simpa using hj) o ho;split at hk
   ·exact hk
   ·split at hk
    ·exact hk
    ·cases hk
def H7(keep:List Nat)(h:Tr Yj)(fr:Xz):Bool:=
 match fr.todo with
 | .inDraw ops _ _ base::_=>Ge keep h ops.toList base
 |_=>true
def GW(keep:List Nat)(h:Tr Yj)(cs:List Xz):Bool:=
 match cs with
 |[]=>true
 |c::r=>(match H7 keep h c with|true=>GW keep h r|false=>false)
def gcS(keep fs:List Nat)(nx:Nat)(s:ASt):ASt:=
 match H9 keep fs s.A.heap,H7 keep s.A.heap s.fr,GW keep s.A.heap s.cs,Nat.ble s.A.next nx with
 |true,true,true,true=>{s with A:={heap:=gcH keep s.A.heap,next:=nx,fams:=gcF fs (gcH keep s.A.heap) s.A.fams}}
 |_,_,_,_=>s
theorem Zn.gc{μ:Mu}{A A':Xx}{lo hi nt:Nat}{vars:List (Option Value)}{over:List (Nat×Value)}{ops:Array Oper}{t:Nat}{V:List (Nat×Value)}{base:Nat}{rest:List Nat}{tm:Array Value}
  (h:Zn T μ A lo hi nt vars over ops t V base rest tm) (hk:∀j,j<ops.toList.length→∀o,A.heap.get (base+j)=some o→A'.heap.get (base+j)=some o):Zn T μ A' lo hi nt vars over ops t V base rest tm where
 ok:=h.ok
 nt:=h.nt
 lo:=h.lo
 hi:=h.hi
 ord:=h.ord
 chain:=h.chain
 done:=h.done
 old:=h.old
 pend:=fun j o h1 h2 h3=>by
  obtain⟨a,b⟩:=h.pend j o h1 h2 h3;have hj:=(aw.1 h2).1;exact⟨a,fun v hv=>(b v hv).mono (fun _ _ h=>h) fun ob h5 _=>hk j (by simpa using hj) ob h5⟩
theorem CH{keep fs:List Nat}{nx:Nat}{μ:Mu}{s:ASt}{fr':Frame}{cs':List Frame}{w:World}(h:I4 T B μ s fr' cs' w):I4 T B μ (gcS keep fs nx s) fr' cs' w:=by
 unfold gcS;split
 case h_2=>exact h
 rename_i k1 k2 k3 k4;have hnx:s.A.next≤nx:=gn k4
 obtain⟨R,G,lo,hlo,hf,hst⟩:=h;refine⟨⟨R.base,fun b o e ho he=>R.obj b o e (RC ho) he,?_,R.sep,?_,fun b o ho=>bq (R.live b o (RC ho)) hnx⟩,G,lo,bd hlo hnx,?_,?_⟩
 ·intro b e he;obtain⟨a,b',c,d⟩:=R.dom b e he;exact⟨bq a hnx,b',c,fun g hg=>bq (d g hg) hnx⟩
 ·intro b xs g ho;obtain⟨h1,l,h2,h3⟩:=R.memb b xs g (RC ho);refine⟨bq h1 hnx,SZ (gcH keep s.A.heap) l,?_,Oc ho h3⟩;have hb:b∈keep:=by
   have:∀{keep:List Nat} {b:Nat} {o:Yj},(gcH keep s.A.heap).get b=some o→b∈keep:=by
    intro keep
    induction keep with
    |nil=>intro b o hk;cases hk
    |cons a keep ih=>
     intro b o hk;unfold gcH at hk;split at hk
     ·rcases Tr.get_put hk with⟨rfl,_⟩|⟨_,hk⟩
      ·simp
      ·exact bc _ (ih hk)
     ·exact bc _ (ih hk)
   exact this ho
  obtain⟨a1,a2⟩:=FK k1 b hb xs g (RC ho);exact S8 a1 (by omega) h2
 ·refine CV.up ?_ hnx;cases hf with
  |plain hp=>exact .plain hp
  |draw core run h1 h2 h3 h4=>
   unfold H7 at k2;rw[h1]at k2;exact .draw core run h1 h2 h3 (h4.gc fun j hj o ho=>ZR k2 j hj o ho)
 ·clear hf;have:∀{hi:Nat} {cs:List Xz} {cs':List Frame},Stack T μ s.A hi cs cs'→GW keep s.A.heap cs=true→Stack T μ {heap:=gcH keep s.A.heap,next:=nx,fams:=gcF fs (gcH keep s.A.heap) s.A.fams} hi cs cs':=by
   intro hi cs cs' hst
   induction hst with
   |nil hi=>intro _;exact .nil _
   | @cons lo hi c c' cs cs' hc hl ht ih=>
    intro k3;unfold GW at k3;split at k3
    case h_2=>cases k3
    rename_i k2;refine .cons ?_ hl (ih k3);cases hc with
    |plain hp=>exact .plain hp
    |wait core run h1 h2 h3 hcc h4=>
     unfold H7 at k2;rw[h1]at k2;exact .wait core run h1 h2 h3 hcc (h4.gc fun j hj o ho=>ZR k2 j hj o ho)
  exact this hst k3
def kC(ds:List (Nat×Nat))(s:ASt):ASt:=
 match s.fr.todo with
 | .inDraw _ _ _ _::_=>s
 |_=>{s with fr:={s.fr with vars:=Ud ds s.fr.vars,over:=[]}}
theorem WE(ds:List (Nat×Nat)){s:ASt}{μ:Mu}{fr':Frame}{cs':List Frame}{w:World}(h:I4 T B μ s fr' cs' w):I4 T B μ (kC ds s) fr' cs' w:=by
 unfold kC;split
 ·exact h
 ·rename_i hno;obtain⟨R,G,lo,hlo,hf,hst⟩:=h;refine⟨R,G,lo,hlo,?_,hst⟩;cases hf with
  |plain hp=>
   refine .plain ⟨⟨hp.core.fn,hp.core.kind,hp.core.round,hp.core.defers,hp.core.mode⟩,⟨hp.tm.1,fun t u hu=>?_⟩,hp.todo⟩;exact hp.tm.2 t u (ZD (ds:=ds) hu).2
  |draw core run h1=>exact absurd h1 (hno _ _ _ _ _)
def UY(keep fs:List Nat)(nx:Nat)(ds:List (Nat×Nat))(s:ASt):ASt:=gcS keep fs nx (kC ds s)
inductive Fin(T:Tab)(f:FuncId)(v:Value):ASt→Prop
 |done {s:ASt} (h:G3 T s= .done f v):Fin T f v s
 |runs {s s':ASt} (ns:List Nat) (keep fs:List Nat) (nx:Nat) (h:gcS keep fs nx (Y6 T ns s)=s') (k:Fin T f v s'):Fin T f v s
 |runw {s s':ASt} (ns keep fs:List Nat) (nx:Nat) (ds:List (Nat×Nat)) (h:UY keep fs nx ds (Y6 T ns s)=s') (k:Fin T f v s'):Fin T f v s
 |branch {s:ASt} {l:List ASt} (h:G3 T s= .branch l) (k:∀s'∈l,Fin T f v s'):Fin T f v s
theorem Fin.two{T:Tab}{f:FuncId}{v:Value}{s s':ASt}(n0 n1 keep fs:List Nat)(nx:Nat)(h:nA (G3 T s)=2)(h0:gcS keep fs nx (Y6 T n0 (MG (G3 T s) 0 s))=s')
  (h1:gcS keep fs nx (Y6 T n1 (MG (G3 T s) 1 s))=s') (k:Fin T f v s'):Fin T f v s:=by
 cases ho:G3 T s with
 |branch l=>
  rw[ho]at h h0 h1;rcases l with _|⟨a,_|⟨b,_|⟨c,l⟩⟩⟩
  ·cases h
  ·cases h
  ·refine .branch ho fun x hx=>?_;rcases av.1 hx with rfl|hx
   ·exact .runs n0 keep fs nx h0 k
   ·rw[dm]at hx;subst hx;exact .runs n1 keep fs nx h1 k
  ·have h:Nat.succ (Nat.succ (Nat.succ (len l)))=2:=h;omega
 |_=>rw[ho]at h;cases h
theorem fF(C:YN P T){f:FuncId}{v:Value}{s:ASt}(hf:Fin T f v s):∀{μ:Mu} {fr':Frame} {cs':List Frame} {w:World},I4 T B μ s fr' cs' w→
  ∃μ' fr2 w2 v',Steps P (lone fr' (cs'++cs0) w) (lone fr2 cs0 w2)∧Below B w w2∧fr2.leaving P w2 (.returned v')∧XI μ' v v'∧fr2.fn=f:=by
 induction hf with
 |done h=>
  intro μ fr' cs' w hs;have:=RI (cs0:=cs0) C hs;rw[h]at this;exact this
 |runs ns keep fs nx h _ ih=>
  intro μ fr' cs' w hs;obtain⟨μ1,fr1,cs1,w1,a,b,c⟩:=IX (cs0:=cs0) C ns hs;have a:=CH (keep:=keep) (fs:=fs) (nx:=nx) a;rw[h]at a;obtain⟨μ',fr2,w2,v',d,e,g⟩:=ih a;exact⟨μ',fr2,w2,v',b.trans d,c.trans e,g⟩
 |runw ns keep fs nx ds h _ ih=>
  intro μ fr' cs' w hs;obtain⟨μ1,fr1,cs1,w1,a,b,c⟩:=IX (cs0:=cs0) C ns hs;have a:=CH (keep:=keep) (fs:=fs) (nx:=nx) (WE ds a);rw[show gcS keep fs nx (kC ds (Y6 T ns _))=_ from h]at a;obtain⟨μ',fr2,w2,v',d,e,g⟩:=ih a;exact⟨μ',fr2,w2,v',b.trans d,c.trans e,g⟩
 |branch h _ ih=>
  intro μ fr' cs' w hs;have:=RI (cs0:=cs0) C hs;rw[h]at this;obtain⟨s',hm,μ1,fr1,cs1,w1,a,b,c⟩:=this;obtain⟨μ',fr2,w2,v',d,e,g⟩:=ih s' hm a;exact⟨μ',fr2,w2,v',b.trans d,c.trans e,g⟩
theorem Pf(C:YN P T){f:FuncId}{v:Value}{A:Xx}{w:World}{μ:Mu}(R:Yi μ B A w.heap)(G:MM μ T.nglob){args:List Value}{args':Array Value}(ha:XF μ args args'.toList)
  {fr:Xz} (he:ZY T f args .normal=some fr) (hf:Fin T f v {fr:=fr,cs:=[],A:=A}):Calls P f args' w fun e w'=>∃μ' v',e= .returned v'∧XI μ' v v'∧Below B w w':=by
 intro cs;have hs:I4 T B μ {fr:=fr,cs:=[],A:=A} (Frame.enter P f args' .normal) [] w:=
  ⟨R,G,A.next,ak _, .plain (Qm C ha he), .nil _⟩
 obtain⟨μ',fr2,w2,v',h1,h2,h3,h4,h5⟩:=fF (cs0:=cs) C hf hs;exact⟨.returned v',w2,fr2,⟨μ',v',rfl,h4,h2⟩,h1,h5,h3⟩
theorem CP(C:YN P T){f:FuncId}{v:Value}{A:Xx}{w:World}{μ:Mu}(R:Yi μ B A w.heap)(G:MM μ T.nglob){fr:Xz}(he:ZY T f [] .normal=some fr)
  (hf:Fin T f v {fr:=fr,cs:=[],A:=A}):Calls P f #[] w fun e w'=>∃μ' v',e= .returned v'∧XI μ' v v'∧Below B w w':=
 Pf C R G (args:=[]) (args':=#[]) .nil he hf
end
noncomputable section
def Kk{α:Type}(l:List (Nat×α)):Tr α:=
 match l with
 |[]=> .e
 |p::r=>(Kk r).put (some p.2) p.1
theorem GJ{α:Type}{Q:Nat→α→Prop}:∀{l:List (Nat×α)},(∀p∈l,Q p.1 p.2)→∀{k:Nat} {a:α},(Kk l).get k=some a→Q k a:=by
 intro l
 induction l with
 |nil=>intro _ k a h;cases h
 |cons p l ih=>
  intro hq k a h;unfold Kk at h;rcases Tr.get_put h with⟨rfl,e⟩|⟨_,h⟩
  ·injection e with e;subst e;exact hq p (by simp)
  ·exact ih (fun q hm=>hq q (by simp[hm])) h
def Aa(P:Program)(t:TypeId):TI:=
 match P.underlying t,P.info? t with
 |some d,some i=>⟨d,i.size,i.bytes,(match i.zero with|some z=>z|none=>undef),i.comparable⟩
 |_,_=>⟨.pointer 0,0,0,undef,false⟩
def W4(P:Program)(t:TypeId):Bool:=
 match P.underlying t,P.info? t with
 |some _,some i=>(match i.zero with|some z=>(match YQ z with|true=>Nat.beq z.cells.size i.size|false=>false)|none=>false)
 |_,_=>false
theorem OM{P:Program}{t:TypeId}(h:W4 P t=true):
  P.underlying t=some (Aa P t).desc∧∃info,P.info? t=some info∧info.size=(Aa P t).size∧info.bytes=(Aa P t).bytes∧info.zero=some (Aa P t).zero∧info.comparable=(Aa P t).cmp∧YQ (Aa P t).zero=true∧(Aa P t).zero.cells.size=(Aa P t).size:=by
 unfold W4 at h;split at h
 ·rename_i d i hu hi;split at h
  case h_2=>cases h
  rename_i z hz;split at h
  case h_2=>cases h
  rename_i hc;have hn:=ap h;have he:Aa P t=⟨d,i.size,i.bytes,z,i.comparable⟩:=by unfold Aa;rw[hu,hi];simp only[hz]
  rw[he];exact⟨hu,i,hi,rfl,rfl,hz,rfl,hc,hn⟩
 ·cases h
def mkF(P:Program)(f:FuncId)(nv:Nat):AFn:=
 match P.funcs[f]? with
 |some fn=>⟨(match fn.body with|some b=>b|none=> .skip),fn.ntmps,nv,fn.results.toList⟩
 |none=>⟨.skip,0,0,[]⟩
def mQ(P:Program)(f:FuncId):Bool:=
 match P.funcs[f]? with
 |some fn=>(match fn.body with|some _=>(match fn.name== "runtime.NumGoroutine" with|true=>false|false=>true)|none=>false)
 |none=>false
theorem W5{P:Program}{f:FuncId}{nv:Nat}(h:mQ P f=true):
  ∃fn,P.funcs[f]? =some fn∧fn.body=some (mkF P f nv).body∧fn.ntmps=(mkF P f nv).ntmps∧fn.results.toList=(mkF P f nv).results∧(fn.name== "runtime.NumGoroutine")=false:=by
 unfold mQ at h;split at h
 ·rename_i fn hf;split at h
  case h_2=>cases h
  rename_i b hb;split at h
  ·cases h
  rename_i hn;have he:mkF P f nv=⟨b,fn.ntmps,nv,fn.results.toList⟩:=by unfold mkF;rw[hf];simp only[hb]
  rw[he];exact⟨fn,hf,hb,rfl,rfl,hn⟩
 ·cases h
def mkEq(P:Program)(t:TypeId):List (TypeId×Nat):=
 match P.underlying t with
 |some (.struct fs)=>(fs.toList.filter fun f=>decide (f.name≠ "_")).map fun f=>(f.type,f.offset)
 |_=>[]
def W6(P:Program)(t:TypeId):Bool:=
 match P.eqGuardType P.depth t with
 |true=>false
 |false=>(match P.underlying t with|some (.struct _)=>(match P.stoodInHeld t with|true=>false|false=>true)|_=>true)
theorem OQ{P:Program}{t:TypeId}(h:W6 P t=true):P.eqGuardType P.depth t=false∧
  (∀fs,P.underlying t=some (.struct fs)→P.stoodInHeld t=false∧(fs.toList.filter fun f=>decide (f.name≠ "_")).map (fun f=>(f.type,f.offset))=mkEq P t):=by
 unfold W6 at h;split at h
 ·cases h
 rename_i hg;refine⟨hg,fun fs hfs=>?_⟩;rw[hfs]at h;simp only at h;refine⟨?_,by unfold mkEq;rw[hfs]⟩;cases hs:P.stoodInHeld t with
 |false=>rfl
 |true=>rw[hs]at h;cases h
def OP(P:Program)(t:TypeId)(name:String)(f:FuncId):Bool:=
 match P.info? t,P.underlying t with
 |some i,some d=>
  (match i.methods.find? (·.name==name)with
   |some m=>
    (match m.path.toList,m.func with
     |[],some (g,ptr)=>(match Nat.beq g f with|true=>(match d with| .pointer _=>ptr|_=>!ptr)|false=>false)
     |_,_=>false)
   |none=>false)
 |_,_=>false
theorem OO{P:Program}{t:TypeId}{name:String}{f:FuncId}(h:OP P t name f=true)(n:Nat)(v:Value)(w:World):(method (n+1) t v name).run P w= .ok (f,v) w:=by
 unfold OP at h;split at h
 case h_2=>cases h
 rename_i i d hi hu;split at h
 case h_2=>cases h
 rename_i m hm;split at h
 case h_2=>cases h
 rename_i g ptr hp hf;split at h
 case h_2=>cases h
 rename_i hg;have hg:=ap hg;subst hg;have hul:(underlying t).run P w= .ok d w:=by simp[Go.underlying,hu]
 have hti:(typeInfo t).run P w= .ok i w:=by simp[Go.typeInfo,hi]
 have hrec:∀wr,(receiverAt t (.val v) ptr wr).run P w= .ok v w:=by
  intro wr;simp only[receiverAt,ag,hul,ae];cases d with
  |pointer e=>
   have:ptr=true:=h;subst this;rfl
  |_=>
   have:(!ptr)=true:=h;cases ptr with
   |true=>cases this
   |false=>rfl
 simp only[method,ag,hti,ae,hm,hp,follow,am,hf,hrec]
def Dd(P:Program)(t:TypeId)(l:List (String×FuncId)):Bool:=
 match l with
 |[]=>true
 |p::r=>(match OP P t p.1 p.2 with|true=>Dd P t r|false=>false)
theorem ON{P:Program}{t:TypeId}:∀{l:List (String×FuncId)},Dd P t l=true→∀name f,BX l name=some f→OP P t name f=true:=by
 intro l
 induction l with
 |nil=>intro _ name f h;cases h
 |cons p l ih=>
  obtain⟨n,g⟩:=p;intro h name f hm;unfold Dd at h;split at h
  case h_2=>cases h
  rename_i h1;unfold BX at hm;split at hm
  ·rename_i e;injection hm with hm;subst hm;subst e;exact h1
  ·exact ih h name f hm
def allB{α:Type}(p:α→Bool)(l:List α):Bool:=match l with|[]=>true|x::r=>(match p x with|true=>allB p r|false=>false)
theorem Uv{α:Type}{p:α→Bool}:∀{l:List α},allB p l=true→∀x∈l,p x=true:=by
 intro l
 induction l with
 |nil=>intro _ x h;cases h
 |cons y l ih=>
  intro h x hx;unfold allB at h;split at h
  case h_2=>cases h
  rename_i hy;rcases av.1 hx with rfl|hx
  ·exact hy
  ·exact ih h x hx
def dP(P:Program)(tys:List Nat)(fns:List (Nat×Nat))(es:List Nat)(ms:List (Nat×List (String×FuncId)))(xs:List (Nat×Nat))(n:Nat):Tab where
 ty:=Kk (tys.map fun t=>(t,Aa P t))
 fn:=Kk (fns.map fun p=>(p.1,mkF P p.1 p.2))
 eqs:=Kk (es.map fun t=>(t,mkEq P t))
 meth:=Kk ms
 ext:=Kk xs
 nglob:=n
def kM{α:Type}(Q:α→Prop)(l:List α):Prop:=match l with|[]=>True|x::r=>Q x∧kM Q r
theorem kM.of{α:Type}{Q:α→Prop}:∀{l:List α},kM Q l→∀x∈l,Q x:=by
 intro l
 induction l with
 |nil=>intro _ x h;cases h
 |cons y l ih=>
  intro h x hx;obtain⟨h1,h2⟩:=h;rcases av.1 hx with rfl|hx
  ·exact h1
  ·exact ih h2 x hx
theorem aC{P:Program}{tys:List Nat}{fns:List (Nat×Nat)}{es:List Nat}{ms:List (Nat×List (String×FuncId))}{xs:List (Nat×Nat)}{n:Nat}(h1:allB (W4 P) tys=true)(h2:allB (fun p:Nat×Nat=>mQ P p.1) fns=true)
  (h3:allB (W6 P) es=true) (h4:allB (fun p:Nat×List (String×FuncId)=>Dd P p.1 p.2) ms=true) (h6:kM (fun p:Nat×Nat=>bG P p.1 p.2) xs) (h5:P.follows .mixedOrders=true):YN P (dP P tys fns es ms xs n) where
 ty:=fun t ti h=>GJ (Q:=fun t ti=>P.underlying t=some ti.desc∧∃info,P.info? t=some info∧info.size=ti.size∧info.bytes=ti.bytes∧info.zero=some ti.zero∧info.comparable=ti.cmp∧YQ ti.zero=true∧ti.zero.cells.size=ti.size)
  (by intro p hp;obtain⟨t,ht,rfl⟩:=cy.1 hp;exact OM (Uv h1 t ht)) h
 fn:=fun f a h=>GJ (Q:=fun f (a:AFn)=>∃fn,P.funcs[f]? =some fn∧fn.body=some a.body∧fn.ntmps=a.ntmps∧fn.results.toList=a.results∧(fn.name== "runtime.NumGoroutine")=false)
  (by intro p hp;obtain⟨q,hq,rfl⟩:=cy.1 hp;exact W5 (Uv h2 q hq)) h
 eqs:=fun t l h=>GJ (Q:=fun t l=>P.eqGuardType P.depth t=false∧(∀fs,P.underlying t=some (.struct fs)→P.stoodInHeld t=false∧(fs.toList.filter fun f=>decide (f.name≠ "_")).map (fun f=>(f.type,f.offset))=l))
  (by intro p hp;obtain⟨t,ht,rfl⟩:=cy.1 hp;exact OQ (Uv h3 t ht)) h
 meth:=fun t l name f h hm v w=>by
  have:=GJ (Q:=fun t l=>Dd P t l=true) (fun p hp=>Uv h4 p hp) h;have e:P.types.size+Made.depth=(P.types.size+(Made.depth - 1))+1:=by simp only[Made.depth]
  rw[e];exact OO (ON this name f hm) _ v w
 ext:=fun f k h=>GJ (Q:=fun f k=>bG P f k) (fun p hp=>h6.of p hp) h
 mixed:=h5
end
noncomputable section
def sO(c:Code)(i:Nat):Code:=
 match c with
 | .seq a b=>(match i with|0=>a|_+1=>b)
 | .cond _ a b=>(match i with|0=>a|_+1=>b)
 | .rangeFunc _ _ a b=>(match i with|0=>a|_+1=>b)
 | .block _ b=>b
 | .loop b=>b
 | .scope b=>b
 |c=>c
def CO(c:Code)(p:List Nat):Code:=match p with|[]=>c|i::r=>CO (sO c i) r
def gF(P:Program)(f:Nat):Code:=match P.funcs[f]? with|some fn=>(match fn.body with|some b=>b|none=> .skip)|none=> .skip
def opsOf(c:Code):Array Oper:=match c with| .region _ ops _=>ops|_=>#[]
def iR(c:Code)(i:Nat):YJ:= .inRegion (opsOf c) (Kg (opsOf c).toList i)
def iD(c:Code)(t:Nat)(V:List (Nat×Value))(base:Nat):YJ:= .inDraw (opsOf c) t V base
def keys{α:Type}(l:List (Nat×α)):List Nat:=match l with|[]=>[]|p::r=>p.1::keys r
def vt:Value:= .bool true
def vf:Value:= .bool false
def vi(n:Nat):Value:= .int .i64 (.ofNat n)
def vb(n:Nat):Value:= .int .u8 (.ofNat n)
def vu(n:Nat):Value:= .int .u64 (.ofNat n)
def bytesOf(l:List Nat):List UInt8:=match l with|[]=>[]|b::r=>UInt8.ofNat b::bytesOf r
def vs(l:List Nat):Value:= .string ⟨⟨bytesOf l⟩⟩
def vp:Value:= .pointer none
def va(b o:Nat):Value:= .pointer (some ⟨b,o,none⟩)
def vx:Value:= .float .f64 0
def vm(b n:Nat):Value:= .slice (some ⟨b,0,none⟩) n n
def sm(b n:Nat):Option Value:=some (.slice (some ⟨b,0,none⟩) n n)
def vn:Value:= .slice none 0 0
def vl(b o l c:Nat):Value:= .slice (some ⟨b,o,none⟩) l c
def vz:Value:= .nilIface
def vg(l:List Value):Value:= .agg ⟨l⟩
def vq(l:List Value):Value:= .tuple ⟨l⟩
def no:Option Value:=none
def so(v:Value):Option Value:=some v
def si(n:Nat):Option Value:=some (.int .i64 (.ofNat n))
def st:Option Value:=some (.bool true)
def sf:Option Value:=some (.bool false)
def sa(b o:Nat):Option Value:=some (.pointer (some ⟨b,o,none⟩))
def sl(b o l c:Nat):Option Value:=some (.slice (some ⟨b,o,none⟩) l c)
def cellsOf(o:Yj):List Value:=match o with| .cells l _=>l|_=>[]
def vbl(l:List Nat):List Value:=match l with|[]=>[]|n::r=>vb n::vbl r
def ob(l:List Value):Yj:= .cells l (.fixed false)
def og(l:List Value)(e f b _t:Nat):Yj:= .cells l (.grown ⟨e,f,b⟩)
def vw(n:Nat):Value:= .int .u32 (.ofNat n)
def tu(l:List Nat):List Value:=match l with|[]=>[]|n::r=>vu n::tu r
def tw(l:List Nat):List Value:=match l with|[]=>[]|n::r=>vw n::tw r
def zrv(n:Nat)(x:Value):List Value:=Nat.rec (motive:=fun _=>List Value) [] (fun _ r=>x::r) n
def tv1(n:Nat):Value:=match n with|0=>vf|1=>vt|n+2=>vi n
def tv(l:List Nat):List Value:=match l with|[]=>[]|n::r=>tv1 n::tv r
def to1(n:Nat):Option Value:=match n with|0=>none|1=>sf|2=>st|n+3=>si n
def to(l:List Nat):List (Option Value):=match l with|[]=>[]|n::r=>to1 n::to r
def tl(n:Nat)(l:List Nat):List Value:=match l with|[]=>[]|b::r=>vm b n::tl n r
def zrp(n x:Nat):List Nat:=Nat.rec (motive:=fun _=>List Nat) [] (fun _ r=>x::r) n
def zF(fn nt:Nat)(vars:List (Option Value))(over:List (Nat×Value))(todo:List YJ):Xz:=⟨fn,nt,vars,over,todo,[], .run, .normal,none⟩
abbrev LH:=List (Nat×Yj)
abbrev LG:=List (Nat×List Nat)
abbrev LF:=List Xz
def rmv{α:Type}(l:List (Nat×α)):List Nat→List (Nat×α):=
 List.rec (motive:=fun _=>List Nat→List (Nat×α)) (fun _=>[])
  (fun p _ ih rs=>List.rec (motive:=fun _=>List (Nat×α)) (p::ih []) (fun r rs' _=>Bool.rec (motive:=fun _=>List (Nat×α)) (p::ih rs) (ih rs') (Nat.beq p.1 r)) rs) l
def rmq{α:Type}(l:List (Nat×α)):List Nat→List (Nat×α):=
 List.rec (motive:=fun _=>List Nat→List (Nat×α)) (fun _=>[])
  (fun p t ih rs=>List.rec (motive:=fun _=>List (Nat×α)) (p::t) (fun r rs' _=>Bool.rec (motive:=fun _=>List (Nat×α)) (p::ih rs) (ih rs') (Nat.beq p.1 r)) rs) l
def zhd(n:Nat)(l:List Value):List Value:=
 List.rec (motive:=fun _=>Nat→List Value) (fun _=>[]) (fun a _ ih n=>Nat.rec (motive:=fun _=>List Value) [] (fun m _=>a::ih m) n) l n
def pch(l:List Value)(ps:List (Nat×Value)):List Value:=
 List.rec (motive:=fun _=>List (Nat×Value)→List Value) (fun _=>[])
  (fun a t ih ps=>List.rec (motive:=fun _=>List Value) (a::t) (fun p r _=>Nat.rec (motive:=fun _=>List Value) (p.2::ih r) (fun g _=>a::ih ((g,p.2)::r)) p.1) ps) l ps
def mrg{α:Type}(l:List (Nat×α)):List (Nat×α)→List (Nat×α):=
 List.rec (motive:=fun _=>List (Nat×α)→List (Nat×α)) (fun ys=>ys)
  (fun p _ ih ys=>List.rec (motive:=fun _=>List (Nat×α)) (p::ih [])
   (fun q t iq=>Bool.rec (motive:=fun _=>List (Nat×α)) (Bool.rec (motive:=fun _=>List (Nat×α)) (p::ih (q::t)) (p::ih t) (Nat.beq q.1 p.1)) (q::iq) (Nat.blt q.1 p.1)) ys) l
def KE(l:List (Nat×Yj)):List (Nat×List Nat):=
 match l with
 |[]=>[]
 |p::r=>(match p.2 with| .cells _ (.grown g)=>(match Nat.beq g.fam p.1 with|true=>(p.1,[p.1])::KE r|false=>KE r)|_=>KE r)
def gE(n:Nat):Nat→List UInt8:=
 Nat.rec (motive:=fun _=>Nat→List UInt8) (fun _=>[]) (fun _ ih x=>UInt8.ofNat (Nat.mod x 128)::ih (Nat.div x 128)) n
def vS(n x:Nat):Value:= .string ⟨⟨gE n x⟩⟩
def mei(i:Nat)(l:List (Nat×Nat)):List MapEntry:=match l with|[]=>[]|p::r=>⟨vi p.1,vi p.2,i⟩::mei (Nat.succ i) r
def dz(l:List Nat):List (Nat×Nat):=match l with|[]=>[]|a::r=>(a,0)::dz r
def zrl(n:Nat)(l:List Value):List Value:=Nat.rec (motive:=fun _=>List Value) [] (fun _ r=>app l r) n
def opAt(c:Code)(i:Nat):Oper:=match Kg (opsOf c).toList i with|o::_=>o|[]=>default
end
end Go.Proofs.YtbkpmfjfpcoehaaGreatDoor.Sim
