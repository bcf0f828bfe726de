/- A machine that runs closed calls of the program by the kernel: regions that draw their order; every step of the machine is followed by the model; runs; tables. No condition. -/
import Derived.Test.YtjhfcfpkgfpoiaaGreatDoorSimB
namespace Go.Proofs.YtjhfcfpkgfpoiaaGreatDoor.Sim
open Go Go.RowKit
section
theorem ZU{x:Nat}{l:List Nat}:mem x l=true↔x∈l:=by
 induction l with
 |nil=>simp[mem]
 |cons y l ih=>
  unfold mem;split
  ·rename_i h;have:=Nat.eq_of_beq_eq_true h;subst this;simp
  ·rename_i h;rw[ih];have hne:x≠y:=fun e=>by subst e;rw[Nat.beq_refl]at h;cases h
   simp[hne]
theorem Xji{x:Nat}{l:List Nat}:mem x l=false↔x∉l:=by
 rw[←ZU];simp
theorem Ybv{x:Nat}{a b:List Nat}:x∈uni a b↔x∈a∨x∈b:=by
 induction a with
 |nil=>simp[uni]
 |cons y a ih=>
  unfold uni;split
  ·rename_i h;rw[ZU]at h;rw[ih];simp;grind
  ·rw[List.mem_cons,ih];simp;grind
theorem Xtx{acc:List (List Nat)}{x:Nat}:∀{es:List Edge},x∈Xj6 acc es↔∃e∈es,Region.binds .any e=true∧(x=e.on∨∃l,acc[e.on]? =some l∧x∈l):=by
 intro es
 induction es with
 |nil=>simp[Xj6]
 |cons e es ih=>
  unfold Xj6;split
  ·rename_i h;rw[Ybv,ih,List.mem_cons,YH];constructor
   ·rintro((rfl|hx)|⟨e',a,b⟩)
    ·exact⟨e,by simp,h, .inl rfl⟩
    ·split at hx
     ·rename_i l hl;exact⟨e,by simp,h, .inr ⟨l,hl,hx⟩⟩
     ·cases hx
    ·exact⟨e',by simp[a],b⟩
   ·rintro⟨e',a,b,c⟩;rcases List.mem_cons.1 a with rfl|a
    ·rcases c with rfl|⟨l,hl,hx⟩
     ·exact .inl (.inl rfl)
     ·refine .inl (.inr ?_);rw[hl];exact hx
    ·exact .inr ⟨e',a,b,c⟩
  ·rename_i h;rw[ih];constructor
   ·rintro⟨e',a,b⟩;exact⟨e',by simp[a],b⟩
   ·rintro⟨e',a,b,c⟩;rcases List.mem_cons.1 a with rfl|a
    ·rw[h]at b;cases b
    ·exact⟨e',a,b,c⟩
theorem Xzm:∀(ops:List Oper) (acc:List (List Nat)),(Xj5 acc ops).length=acc.length+ops.length:=by
 intro ops
 induction ops with
 |nil=>intro acc;simp[Xj5]
 |cons o ops ih=>intro acc;unfold Xj5;rw[ih,Jp];simp;omega
theorem Xzl:∀(ops:List Oper) (acc:List (List Nat)) (i:Nat),i<acc.length→(Xj5 acc ops)[i]? =acc[i]?:=by
 intro ops
 induction ops with
 |nil=>intro acc i _;rfl
 |cons o ops ih=>
  intro acc i hi;unfold Xj5;rw[ih _ _ (by rw[Jp];simp;omega),Jp,List.getElem?_append_left hi]
theorem Xzn:∀(ops:List Oper) (acc:List (List Nat)) (j:Nat) (o:Oper),ops[j]? =some o→
  (Xj5 acc ops)[acc.length+j]? =some (Xj6 ((Xj5 acc ops).take (acc.length+j)) o.after.toList):=by
 intro ops
 induction ops with
 |nil=>intro acc j o h;simp at h
 |cons o' ops ih=>
  intro acc j o h;cases j with
  |zero=>
   simp at h;subst h;unfold Xj5;rw[Xzl _ _ _ (by rw[Jp];simp),Jp];simp only[Nat.add_zero,List.getElem?_append_right (Nat.le_refl _),Nat.sub_self,List.getElem?_cons_zero]
   congr 2
   have:∀(ops:List Oper) (acc acc2:List (List Nat)),(Xj5 (acc++acc2) ops).take acc.length=acc:=by
    intro ops
    induction ops with
    |nil=>intro acc acc2;simp[Xj5]
    |cons o ops ih=>intro acc acc2;unfold Xj5;rw[Jp,List.append_assoc];exact ih _ _
   exact(this _ _ _).symm
  |succ j=>
   simp at h;have:=ih (app acc [Xj6 acc o'.after.toList]) j o h;unfold Xj5;rw[Jp]at this⊢;simp only[List.length_append,List.length_singleton]at this;have e:acc.length+(j+1)=acc.length+1+j:=by omega
   rw[e];exact this
theorem Xdp{ops:List Oper}{k j:Nat}{o:Oper}(ho:ops[j]? =some o)(h:before (X0 ops) k j=true):
  ∃e∈o.after.toList,Region.binds .any e=true∧(k=e.on∨before (X0 ops) k e.on=true):=by
 have hg:=Xzn ops [] j o ho;simp at hg;unfold before at h;rw[YH]at h;have h:(match(Xj5 [] ops)[j]? with|some l=>mem k l|none=>false)=true:=h;rw[hg]at h;rw[ZU,Xtx]at h;obtain⟨e,a,b,c⟩:=h;refine⟨e,a,b,?_⟩;rcases c with c|⟨l,hl,hx⟩
 ·exact .inl c
 ·right;unfold before;rw[YH]
  show(match(Xj5 [] ops)[e.on]? with|some l=>mem k l|none=>false)=true
  have hlt:(Xj5 [] ops)[e.on]? =some l:=by
   rw[List.getElem?_take]at hl;split at hl
   ·exact hl
   ·cases hl
  rw[hlt,ZU];exact hx
theorem GD{ops:List Oper}:∀{n x:Nat},x∈VB ops n↔∃o,n≤x∧ops[x - n]? =some o∧Ho o.op=true:=by
 induction ops with
 |nil=>intro n x;simp[VB]
 |cons o ops ih=>
  intro n x;have hs:∀(o':Oper),(n≤x∧(o::ops)[x - n]? =some o')↔(x=n∧o=o')∨(Nat.succ n≤x∧ops[x - Nat.succ n]? =some o'):=by
   intro o';constructor
   ·rintro⟨a,b⟩;rcases Nat.eq_or_lt_of_le a with e|h
    ·subst e;simp at b;exact .inl ⟨rfl,b⟩
    ·refine .inr ⟨h,?_⟩;have:x - n=(x - Nat.succ n)+1:=by omega
     rw[this]at b;simpa using b
   ·rintro(⟨rfl,rfl⟩|⟨a,b⟩)
    ·simp
    ·refine⟨by omega,?_⟩;have:x - n=(x - Nat.succ n)+1:=by omega
     rw[this];simpa using b
  have hs2:(∃o',n≤x∧(o::ops)[x - n]? =some o'∧Ho o'.op=true)↔(x=n∧Ho o.op=true)∨∃o',Nat.succ n≤x∧ops[x - Nat.succ n]? =some o'∧Ho o'.op=true:=by
   constructor
   ·rintro⟨o',a,b,c⟩;rcases(hs o').1 ⟨a,b⟩with⟨h1,rfl⟩|⟨h1,h2⟩
    ·exact .inl ⟨h1,c⟩
    ·exact .inr ⟨o',h1,h2,c⟩
   ·rintro(⟨h1,c⟩|⟨o',h1,h2,c⟩)
    ·obtain⟨a,b⟩:=(hs o).2 (.inl ⟨h1,rfl⟩);exact⟨o,a,b,c⟩
    ·obtain⟨a,b⟩:=(hs o').2 (.inr ⟨h1,h2⟩);exact⟨o',a,b,c⟩
  rw[hs2];unfold VB;split
  ·rename_i h;rw[ih];simp[h]
  ·rename_i h;rw[List.mem_cons,ih];simp[h]
end
section
theorem Hj{j:Nat}:∀{es:List Edge},VU es j=true→∀e∈es,Region.binds .any e=true→e.on<j:=by
 intro es
 induction es with
 |nil=>intro _ e he;cases he
 |cons e0 es ih=>
  intro h e he hb;unfold VU at h;split at h
  ·cases h
  ·rename_i hne;rcases List.mem_cons.1 he with rfl|he
   ·cases hlt:Nat.blt e.on j with
    |true=>simpa using hlt
    |false=>exact absurd hlt (hne hb)
   ·exact ih h e he hb
theorem Xuh{l:List (Nat×Nat)}{g:Nat}(h:Yfm l g=true):∃d,(d,g)∈l:=by
 induction l with
 |nil=>cases h
 |cons p l ih=>
  unfold Yfm at h;split at h
  ·rename_i hb;exact⟨p.1,by rw[←Nat.eq_of_beq_eq_true hb];exact List.mem_cons_self⟩
  ·obtain⟨d,hd⟩:=ih h;exact⟨d,List.mem_cons_of_mem _ hd⟩
structure Ym5(D:DI)(o:Oper)(j:Nat):Prop where
 edges:VU o.after.toList j=true
 guard:∀g want,o.guard=some (g,want)→before D g j=true∧∃d,(d,g)∈D.dsts
theorem Xat{D:DI}:∀{ops:List Oper} {n:Nat},Xtm D ops n=true→∀j o,ops[j]? =some o→Ym5 D o (n+j):=by
 intro ops
 induction ops with
 |nil=>intro n _ j o h;simp at h
 |cons o0 ops ih=>
  intro n h j o ho;unfold Xtm at h;split at h
  case h_2=>cases h
  rename_i h2 h3;cases j with
  |zero=>
   simp at ho;subst ho;refine⟨h2,?_⟩;intro g want hg;rw[hg]at h3;have h3:(match before D g (n+0)with|true=>Yfm D.dsts g|false=>false)=true:=h3;split at h3
   ·rename_i hb;exact⟨hb,Xuh h3⟩
   ·cases h3
  |succ j=>
   simp at ho;have:=ih h j o ho;have e:n+(j+1)=Nat.succ n+j:=by omega
   rw[e];exact this
theorem HM{ops:List Oper}:∀{n d i:Nat},(d,i)∈dstsOf ops n↔∃o,n≤i∧ops[i - n]? =some o∧o.dst=some d:=by
 induction ops with
 |nil=>intro n d i;simp[dstsOf]
 |cons o ops ih=>
  intro n d i;have hs2:(∃o',n≤i∧(o::ops)[i - n]? =some o'∧o'.dst=some d)↔(i=n∧o.dst=some d)∨∃o',Nat.succ n≤i∧ops[i - Nat.succ n]? =some o'∧o'.dst=some d:=by
   constructor
   ·rintro⟨o',a,b,c⟩;rcases Nat.eq_or_lt_of_le a with e|h
    ·subst e;simp at b;subst b;exact .inl ⟨rfl,c⟩
    ·refine .inr ⟨o',h,?_,c⟩;have:i - n=(i - Nat.succ n)+1:=by omega
     rw[this]at b;simpa using b
   ·rintro(⟨rfl,c⟩|⟨o',a,b,c⟩)
    ·exact⟨o,by omega,by simp,c⟩
    ·refine⟨o',by omega,?_,c⟩;have:i - n=(i - Nat.succ n)+1:=by omega
     rw[this];simpa using b
  rw[hs2];unfold dstsOf;split
  ·rename_i d0 h;rw[List.mem_cons,ih,h];constructor
   ·rintro(h1|h1)
    ·injection h1 with a b;subst a;subst b;exact .inl ⟨rfl,rfl⟩
    ·exact .inr h1
   ·rintro(⟨rfl,c⟩|h1)
    ·injection c with c;subst c;exact .inl rfl
    ·exact .inr h1
  ·rename_i h;rw[ih,h];simp
theorem Xqa{l:List (Nat×Nat)}{k:Nat}:Xyb l k=none→∀i,(k,i)∉l:=by
 induction l with
 |nil=>intro _ i h;cases h
 |cons p l ih=>
  obtain⟨a,b⟩:=p;intro h i hm;unfold Xyb at h;split at h
  ·cases h
  ·rename_i hne;rcases List.mem_cons.1 hm with e|hm
   ·injection e with e1 e2;subst e1;rw[Nat.beq_refl]at hne;cases hne
   ·exact ih h i hm
theorem GB{l:List (Nat×Nat)}(h:Xi9 l=true):∀{d i:Nat},(d,i)∈l↔XK l d=some i:=by
 induction l with
 |nil=>intro d i;simp[Xdx]
 |cons p l ih=>
  intro d i;unfold Xi9 at h;split at h
  case h_2=>cases h
  rename_i hn;have hn:=Xqa hn;obtain⟨a,b⟩:=p;rw[YV,List.mem_cons];by_cases e:a=d
  ·subst e;simp;constructor
   ·rintro(rfl|h1)
    ·rfl
    ·exact absurd h1 (hn i)
   ·intro h1;exact .inl h1.symm
  ·simp[e,Ne.symm e];exact ih h
theorem Xp5{nt:Nat}{l:List (Nat×Nat)}(h:Xtn nt l=true):∀p∈l,p.1<nt:=by
 induction l with
 |nil=>intro p hp;cases hp
 |cons q l ih=>
  intro p hp;unfold Xtn at h;split at h
  case h_2=>cases h
  rename_i hq;rcases List.mem_cons.1 hp with rfl|hp
  ·simpa using hq
  ·exact ih h p hp
end
section
theorem Xav(md:Region.Mode)(ops:Array Oper):∀(fuel t:Nat) (listed:Array Bool) (acc:List Nat),
  Region.linearise.go md ops fuel t listed acc=acc.reverse++Region.linearise.go md ops fuel t listed []:=by
 intro fuel
 induction fuel with
 |zero=>intro t listed acc;simp[Region.linearise.go]
 |succ fuel ih=>
  intro t listed acc;simp only[Region.linearise.go];split
  ·rename_i i hi;rw[ih _ _ (i::acc),ih _ _ [i]];simp
  ·simp
def Shut(D:DI)(listed:Array Bool):Prop:=∀j,listed.getD j false=true→∀k,before D k j=true→listed.getD k false=true
theorem Vm{listed:Array Bool}{i j:Nat}(hi:i<listed.size):(listed.setIfInBounds i true).getD j false=true↔j=i∨listed.getD j false=true:=by
 simp only[Array.getD_eq_getD_getElem?,Array.getElem?_setIfInBounds];by_cases e:i=j
 ·subst e;simp[hi]
 ·simp[e,Ne.symm e]
theorem Xjk{ops:Array Oper}(hok:∀j o,ops[j]? =some o→VU o.after.toList j=true):∀(fuel t:Nat) (listed:Array Bool),listed.size=ops.size→Shut (X0 ops.toList) listed→
  ((List.range ops.size).filter fun i=>!listed.getD i false).length≤fuel→
  (Region.linearise.go .any ops fuel t listed []).Nodup∧(∀i,i∈Region.linearise.go .any ops fuel t listed []↔i<ops.size∧listed.getD i false=false)∧
  (Region.linearise.go .any ops fuel t listed []).Pairwise (fun a b=>before (X0 ops.toList) b a=false):=by
 intro fuel
 induction fuel with
 |zero=>
  intro t listed hsz _ hf;simp only[Region.linearise.go,List.reverse_nil];refine⟨List.nodup_nil,fun i=>⟨fun h=>(by cases h),fun⟨h1,h2⟩=>?_⟩,List.Pairwise.nil⟩;have:i∈((List.range ops.size).filter fun i=>!listed.getD i false):=by
   rw[List.mem_filter];exact⟨by simpa using h1,by rw[h2];rfl⟩
  have h0:=List.eq_nil_of_length_eq_zero (Nat.le_zero.1 hf);rw[h0]at this;cases this
 |succ fuel ih=>
  intro t listed hsz hsh hf;simp only[Region.linearise.go];generalize hrs:((List.range ops.size).filter fun i=>!listed.getD i true&&((ops[i]?).map (·.after.all fun e=>!Region.binds .any e||listed.getD e.on false)).getD false)=rs;have hready:∀i,i∈rs↔∃o,ops[i]? =some o∧listed.getD i false=false∧∀e∈o.after,Region.binds .any e=true→listed.getD e.on false=true:=by
   intro i;rw[←hrs,List.mem_filter];constructor
   ·rintro⟨h1,h2⟩;have hlt:i<ops.size:=by simpa using h1
    rw[Array.getElem?_eq_getElem hlt]at h2⊢;simp only[Option.map_some,Option.getD_some,Bool.and_eq_true,Bool.not_eq_true',Array.all_eq_true']at h2;refine⟨_,rfl,?_,?_⟩
    ·have:=h2.1;simp only[Array.getD_eq_getD_getElem?,Array.getElem?_eq_getElem (show i<listed.size by omega)]at this⊢;exact this
    ·intro e he hb;have:=h2.2 e he;rw[hb]at this;simpa using this
   ·rintro⟨o,ho,h1,h2⟩;have hlt:=(Array.getElem?_eq_some_iff.1 ho).1;refine⟨by simpa using hlt,?_⟩;rw[ho];simp only[Option.map_some,Option.getD_some,Bool.and_eq_true,Bool.not_eq_true',Array.all_eq_true'];refine⟨?_,?_⟩
    ·simp only[Array.getD_eq_getD_getElem?,Array.getElem?_eq_getElem (show i<listed.size by omega)]at h1⊢;exact h1
    ·intro e he;cases hb:Region.binds .any e with
     |false=>rfl
     |true=>simpa using h2 e he hb
  have hnext:∀i,i∈rs→(i<ops.size∧listed.getD i false=false∧Shut (X0 ops.toList) (listed.setIfInBounds i true)):=by
   intro i hi;obtain⟨o,ho,h1,h2⟩:=(hready i).1 hi;have hlt:=(Array.getElem?_eq_some_iff.1 ho).1;refine⟨hlt,h1,?_⟩;intro j hj k hk;rw[Vm (by omega)]at hj⊢;rcases hj with rfl|hj
   ·obtain⟨e,he,hb,hc⟩:=Xdp (ops:=ops.toList) (by simpa using ho) hk;have hl:=h2 e (by simpa using he) hb;rcases hc with rfl|hc
    ·exact .inr hl
    ·exact .inr (hsh _ hl _ hc)
   ·exact .inr (hsh _ hj _ hk)
  split
  ·rename_i i hi;have him:i∈rs:=List.mem_of_getElem? hi;obtain⟨hlt,h1,hsh'⟩:=hnext i him;rw[Xav];simp only[List.reverse_cons,List.reverse_nil,List.nil_append,List.singleton_append];have hcnt:((List.range ops.size).filter fun j=>!(listed.setIfInBounds i true).getD j false).length≤fuel:=by
    have hsub:((List.range ops.size).filter fun j=>!(listed.setIfInBounds i true).getD j false)=((List.range ops.size).filter fun j=>!listed.getD j false).erase i:=by
     rw[List.Nodup.erase_eq_filter (List.nodup_range.filter _),List.filter_filter];apply List.filter_congr;intro j _;have:=Vm (listed:=listed) (i:=i) (j:=j) (by omega);cases hj:(listed.setIfInBounds i true).getD j false with
     |true=>
      rcases this.1 hj with rfl|h
      ·simp
      ·rw[h];simp
     |false=>
      have hn:¬(j=i∨listed.getD j false=true):=fun h=>by rw[this.2 h]at hj;cases hj
      have hn1:j≠i:=fun e=>hn (.inl e);have hn2:listed.getD j false=false:=by cases h:listed.getD j false with
       |false=>rfl
       |true=>exact absurd (.inr h) hn
      rw[hn2];simp[hn1]
    have hmem:i∈((List.range ops.size).filter fun j=>!listed.getD j false):=by
     rw[List.mem_filter];exact⟨by simpa using hlt,by rw[h1];rfl⟩
    rw[hsub,List.length_erase_of_mem hmem];omega
   obtain⟨a,b,c⟩:=ih (t / rs.length) (listed.setIfInBounds i true) (by simpa using hsz) hsh' hcnt;have hnot:∀j,j∈Region.linearise.go .any ops fuel (t / rs.length) (listed.setIfInBounds i true) []→j≠i∧(listed.setIfInBounds i true).getD j false=false:=by
    intro j hj;have h2:=((b j).1 hj).2;refine⟨?_,h2⟩;rintro rfl;rw[(Vm (by omega)).2 (.inl rfl)]at h2;cases h2
   refine⟨?_,?_,?_⟩
   ·exact List.nodup_cons.2 ⟨fun hm=>(hnot i hm).1 rfl,a⟩
   ·intro j;rw[List.mem_cons,b];constructor
    ·rintro(rfl|⟨h2,h3⟩)
     ·exact⟨hlt,h1⟩
     ·refine⟨h2,?_⟩;cases h:listed.getD j false with
      |false=>rfl
      |true=>rw[(Vm (by omega)).2 (.inr h)]at h3;cases h3
    ·rintro⟨h2,h3⟩;by_cases e:j=i
     ·exact .inl e
     ·refine .inr ⟨h2,?_⟩;cases h:(listed.setIfInBounds i true).getD j false with
      |false=>rfl
      |true=>
       rcases(Vm (by omega)).1 h with h|h
       ·exact absurd h e
       ·rw[h3]at h;cases h
   ·refine List.pairwise_cons.2 ⟨?_,c⟩;intro j hj;obtain⟨hne,hjl⟩:=hnot j hj;cases hb:before (X0 ops.toList) j i with
    |false=>rfl
    |true=>
     have:=hsh' i ((Vm (by omega)).2 (.inl rfl)) j hb;rw[this]at hjl;cases hjl
  ·rename_i hnone;have hrs0:rs=[]:=by
    cases rs with
    |nil=>rfl
    |cons x xs=>
     have hlt:t%(x::xs).length<(x::xs).length:=Nat.mod_lt _ (by simp);rw[List.getElem?_eq_getElem hlt]at hnone;cases hnone
   simp only[List.reverse_nil];refine⟨List.nodup_nil,fun i=>⟨fun h=>(by cases h),fun⟨h1,h2⟩=>?_⟩,List.Pairwise.nil⟩;exfalso;have hall:∀m,m<ops.size→listed.getD m false=true:=by
    intro m
    induction m using Nat.strongRecOn with
    |_ m ihm=>
     intro hm;cases hlm:listed.getD m false with
     |true=>rfl
     |false=>
      have ho:=Array.getElem?_eq_getElem hm;have:m∈rs:=(hready m).2 ⟨_,ho,hlm,fun e he hb=>by
       have:=Hj (hok m _ ho) e (by simpa using he) hb;exact ihm e.on this (by omega)⟩
      rw[hrs0]at this;cases this
   rw[hall i h1]at h2;cases h2
theorem Xcl{ops:Array Oper}(hok:∀j o,ops[j]? =some o→VU o.after.toList j=true)(t:Nat):
  (Region.schedule true ops t).Nodup∧(∀i,i∈Region.schedule true ops t↔i<ops.size)∧(Region.schedule true ops t).Pairwise (fun a b=>before (X0 ops.toList) b a=false):=by
 have hz:∀j,(Array.replicate ops.size false).getD j false=false:=by
  intro j;simp only[Array.getD_eq_getD_getElem?,Array.getElem?_replicate];split<;>rfl
 have:=Xjk hok ops.size t (Array.replicate ops.size false) (by simp) (fun j hj=>by rw[hz]at hj;cases hj)
  (by refine Nat.le_trans (List.length_filter_le _ _) (by simp))
 simp only[Region.schedule,Bool.true_or,if_true,Region.linearise];refine⟨this.1,fun i=>?_,this.2.2⟩;rw[this.2.1];simp[hz]
end
section
theorem KS{ops:List Oper}{nt:Nat}(h:Xc3 ops nt=true):
  Xtm (X0 ops) ops 0=true∧Gz (X0 ops) (X0 ops).chain=true∧Xi9 (X0 ops).dsts=true∧Xtn nt (X0 ops).dsts=true:=by
 unfold Xc3 at h;split at h
 ·rename_i a b c d;exact⟨a,b,c,d⟩
 ·cases h
theorem Xdq{ops:Array Oper}{nt:Nat}(h:Xc3 ops.toList nt=true):∀{j k:Nat} {o:Oper},ops[j]? =some o→before (X0 ops.toList) k j=true→k<j:=by
 intro j
 induction j using Nat.strongRecOn with
 |_ j ih=>
  intro k o ho hb;obtain⟨e,he,hbe,hc⟩:=Xdp (ops:=ops.toList) (by simpa using ho) hb;have hok:=(Xat (KS h).1 j o (by simpa using ho)).edges;rw[Nat.zero_add]at hok;have hlt:=Hj hok e he hbe;rcases hc with rfl|hc
  ·exact hlt
  ·have hj:=(Array.getElem?_eq_some_iff.1 ho).1;have:=ih e.on hlt (Array.getElem?_eq_getElem (show e.on<ops.size by omega)) hc;omega
theorem Xca{ops:Array Oper}{nt:Nat}(h:Xc3 ops.toList nt=true){i:Nat}{o:Oper}(ho:ops[i]? =some o){d:Tmp}(hd:o.dst=some d):
  XK (X0 ops.toList).dsts d=some i∧d<nt:=by
 obtain⟨_,_,h3,h4⟩:=KS h;have hm:(d,i)∈(X0 ops.toList).dsts:=HM.2 ⟨o,Nat.zero_le _,by simpa using ho,hd⟩;exact⟨(GB h3).1 hm,Xp5 h4 _ hm⟩
theorem Xs7(tm:Array Value)(d:Option Tmp)(v:Value):(Xrq tm d v).size=tm.size:=by cases d<;>simp[Xrq]
theorem Xe9{tm:Array Value}{d:Option Tmp}{v:Value}{u:Nat}(h:d≠some u):(Xrq tm d v)[u]? =tm[u]?:=by
 cases d with
 |none=>rfl
 |some x=>
  simp only[Xrq,Array.getElem?_setIfInBounds];have:x≠u:=fun e=>h (by rw[e]);simp[this]
theorem Xs8{tm:Array Value}{d:Tmp}{v:Value}(h:d<tm.size):(Xrq tm (some d) v)[d]? =some v:=by
 simp[Xrq,h]
variable {P:Program} {T:Tab} {B:Nat}
theorem Xae.exec'{μ μ':Mu}{A:Xm}{lo hi nt:Nat}{vars:List (Option Value)}{over:List (Nat×Value)}{ops:Array Oper}{t t':Nat}{V V':List (Nat×Value)}{base i:Nat}{rest:List Nat}{tm:Array Value}
  (h:Xae T μ A lo hi nt vars over ops t V base (i::rest) tm) {o:Oper} (ho:ops[i]? =some o) {v v':Value} (hv:XH μ' v v')
  (hm:Mu.Le μ μ') (hpd:∀j,j∈rest→μ (base+j)=none→μ' (base+j)=none)
  (ht:(mem i (X0 ops.toList).chain=true∧t'=t+1)∨(mem i (X0 ops.toList).chain=false∧t'=t))
  (hV:(V'=V∧XK V i=some v)∨(V'=(i,v)::V∧XK V i=none)):Xae T μ' A lo hi nt vars over ops t' V' base rest (Xrq tm o.dst v'):=by
 obtain⟨S,h1,h2,h3⟩:=h.ord;have hnd:(i::rest).Nodup:=h2.sublist (List.sublist_append_right _ _);have hi:i∉rest:=(List.nodup_cons.1 hnd).1;have hVi:XK V' i=some v:=by
  rcases hV with⟨rfl,h⟩|⟨rfl,_⟩
  ·exact h
  ·simp[YV]
 have hVo:∀j,j≠i→XK V' j=XK V j:=by
  intro j hj;rcases hV with⟨rfl,_⟩|⟨rfl,_⟩
  ·rfl
  ·simp[YV,Ne.symm hj]
 have hVs:∀k u,XK V k=some u→XK V' k=some u:=by
  intro k u hk;by_cases e:k=i
  ·subst e;rcases hV with⟨rfl,_⟩|⟨rfl,hn⟩
   ·exact hk
   ·rw[hn]at hk;cases hk
  ·rw[hVo k e];exact hk
 refine⟨h.ok,by rw[Xs7];exact h.nt,h.lo,h.hi,⟨S++[i],by simpa using h1,by simpa using h2,fun j=>by rw[←h3 j];simp⟩,?_,?_,?_,?_⟩
 ·have hc:=h.chain;rw[List.filter_cons]at hc;rcases ht with⟨ht,rfl⟩|⟨ht,rfl⟩
  ·rw[ht,if_pos rfl]at hc;have:(X0 ops.toList).chain.drop (t+1)=((X0 ops.toList).chain.drop t).drop 1:=by rw[List.drop_drop]
   rw[this,←hc];rfl
  ·rw[ht]at hc;simpa using hc
 ·intro j o' hj ho';by_cases e:j=i
  ·subst e;rw[ho]at ho';injection ho' with ho';subst ho';refine⟨v,hVi,fun d hd=>⟨v',?_,hv⟩⟩;rw[hd];exact Xs8 (Nat.lt_of_lt_of_le (Xca h.ok ho hd).2 h.nt)
  ·obtain⟨u,a,b⟩:=h.done j o' (fun hm=>(List.mem_cons.1 hm).elim e hj) ho';refine⟨u,by rw[hVo j e];exact a,fun d hd=>?_⟩;obtain⟨u',c,f⟩:=b d hd;refine⟨u',?_,f.mono hm⟩;rw[Xe9]
   ·exact c
   ·intro hd2;have x1:=(Xca h.ok ho' hd).1;have x2:=(Xca h.ok ho hd2).1;rw[x1]at x2;injection x2 with x2;exact e x2
 ·intro u w hu hk;obtain⟨w',a,b⟩:=h.old u w hu (fun k hk'=>List.mem_cons_of_mem _ (hk k hk'));refine⟨w',?_,b.mono hm⟩;rw[Xe9]
  ·exact a
  ·intro hd2;exact hi (hk i (Xca h.ok ho hd2).1)
 ·intro j o' hj ho' hal;obtain⟨a,b⟩:=h.pend j o' (List.mem_cons_of_mem _ hj) ho' hal;refine⟨hpd j hj a,fun u hu=>?_⟩;have hne:j≠i:=fun e=>hi (e▸hj);rw[hVo j hne]at hu;exact(b u hu).mono hVs fun _ h _=>h
theorem Xae.exec{μ:Mu}{A:Xm}{lo hi nt:Nat}{vars:List (Option Value)}{over:List (Nat×Value)}{ops:Array Oper}{t t':Nat}{V V':List (Nat×Value)}{base i:Nat}{rest:List Nat}{tm:Array Value}
  (h:Xae T μ A lo hi nt vars over ops t V base (i::rest) tm) {o:Oper} (ho:ops[i]? =some o) {v v':Value} (hv:XH μ v v')
  (ht:(mem i (X0 ops.toList).chain=true∧t'=t+1)∨(mem i (X0 ops.toList).chain=false∧t'=t))
  (hV:(V'=V∧XK V i=some v)∨(V'=(i,v)::V∧XK V i=none)):Xae T μ A lo hi nt vars over ops t' V' base rest (Xrq tm o.dst v'):=
 h.exec' ho hv (Mu.Le.refl _) (fun _ _ h=>h) ht hV
theorem Xgd{μ:Mu}{A:Xm}{lo hi:Nat}{fr:Xt}{fr':Frame}{ops:Array Oper}{t:Nat}{V Vi:List (Nat×Value)}{base i:Nat}{rest:List Nat}(G:Xrl μ T.nglob)
  (h:Xae T μ A lo hi fr.nt fr.vars fr.over ops t V base (i::rest) fr'.tmps) (hVi:∀k u,XK Vi k=some u→XK V k=some u):
  Xab μ (dev T.nglob (X0 ops.toList) Vi fr.vars fr.over i) fr'.eval:=by
 obtain⟨S,h1,h2,h3⟩:=h.ord;have hlt:∀k,k∈S++i::rest→k<ops.size:=fun k=>(h3 k).1;have hpw:=List.pairwise_append.1 h1;intro x v hx;cases x with
 |tmp u=>
  have hx:Yiz (X0 ops.toList) Vi fr.vars fr.over i u=some v:=hx;have hgo:(∃v',fr'.tmps[u]? =some v'∧XH μ v v')→XH μ v (fr'.eval (.tmp u)):=by
   rintro⟨v',a,b⟩;simp only[Frame.eval,Array.getD_eq_getD_getElem?,a];exact b
  refine hgo ?_;unfold Yiz at hx;have hkd:∀k,XK (X0 ops.toList).dsts u=some k→∃o,ops[k]? =some o∧o.dst=some u:=by
   intro k hk;have hm:=(GB (KS h.ok).2.2.1).2 hk;obtain⟨o,_,a,b⟩:=HM.1 hm;exact⟨o,by simpa using a,b⟩
  split at hx
  ·rename_i k hk;obtain⟨o,ho,hd⟩:=hkd k hk;have hks:k∈S++i::rest:=(h3 k).2 (Array.getElem?_eq_some_iff.1 ho).1;split at hx
   ·rename_i hb;have hnr:k∉i::rest:=by
     intro hm;rcases List.mem_cons.1 hm with rfl|hm
     ·have:=Xdq h.ok ho hb;omega
     ·have:=(List.pairwise_cons.1 hpw.2.1).1 k hm;rw[hb]at this;cases this
    obtain⟨w,a,b⟩:=h.done k o hnr ho;rw[hVi k v hx]at a;injection a with a;subst a;exact b u hd
   ·have hin:k∈i::rest→∃v',fr'.tmps[u]? =some v'∧XH μ v v':=by
     intro hm;refine h.old u v ?_ (fun k2 hk2=>by rw[hk]at hk2;injection hk2 with hk2;subst hk2;exact hm);split at hx
     ·exact hx
     ·split at hx
      ·exact hx
      ·cases hx
    apply hin;split at hx
    ·rename_i he;rw[Nat.eq_of_beq_eq_true he];exact List.mem_cons_self
    ·split at hx
     ·rename_i hb;rcases List.mem_append.1 hks with hm|hm
      ·have:=hpw.2.2 k hm i List.mem_cons_self;rw[hb]at this;cases this
      ·exact hm
     ·cases hx
  ·rename_i hn;exact h.old u v hx (fun k hk=>by rw[hn]at hk;cases hk)
 |const c=>
  have hx:(match YF c with|true=>some c|false=>none)=some v:=hx;split at hx
  ·rename_i hc;injection hx with hx;subst hx;exact YE hc μ
  ·cases hx
 |global g=>
  have hx:(match Nat.blt g T.nglob with|true=>some (Value.pointer (some ⟨g,0,none⟩))|false=>none)=some v:=hx;split at hx
  ·rename_i hc;injection hx with hx;subst hx;exact .ptr (e:=⟨g,0,none,0⟩) (G g (by simpa using hc))
  ·cases hx
 |func f=>
  injection hx with hx;subst hx;exact XE.func (fun l h=>by cases h) .nil .nil
end
section
variable {P:Program} {T:Tab} {B:Nat}
theorem Xm9{μ:Mu}{ops:Array Oper}{tm:Array Value}{g:Nat}{og:Oper}(hg:ops[g]? =some og){u u':Value}{d:Tmp}(hd:og.dst=some d)(ht:tm[d]? =some u')(hu:XH μ u u'){want b:Bool}
  (h:Z9 (some u) want=some b):(yielded ops tm g==some want)=b:=by
 have hy:yielded ops tm g=(match u' with| .bool b=>some b|_=>none):=by
  unfold yielded;simp only[hg,Option.bind_some,hd,ht];cases u'<;>rfl
 rw[hy];cases hu with
 |bool x=>cases x<;>cases want<;>injection h with h<;>subst h<;>rfl
 |tuple hn hx=>cases want<;>injection h with h<;>subst h<;>rfl
 |_=>cases want<;>cases h
theorem Vp{μ:Mu}{A:Xm}{lo hi nt:Nat}{vars:List (Option Value)}{over:List (Nat×Value)}{ops:Array Oper}{t:Nat}{V Vi:List (Nat×Value)}{base i:Nat}{rest:List Nat}{tm:Array Value}
  (h:Xae T μ A lo hi nt vars over ops t V base (i::rest) tm) (hVi:∀k u,XK Vi k=some u→XK V k=some u) {o:Oper} (ho:ops[i]? =some o) {b:Bool}
  (hw:V0 (X0 ops.toList) Vi o i=some b):Region.wanted o (yielded ops tm)=b:=by
 unfold V0 at hw;unfold Region.wanted;split at hw
 ·rename_i hg;injection hw with hw;subst hw;simp[hg]
 ·rename_i g want hg;rw[hg];split at hw
  case h_2=>cases hw
  rename_i hb;obtain⟨S,h1,h2,h3⟩:=h.ord;have hpw:=List.pairwise_append.1 h1;have hlt:=Xdq h.ok ho hb;have hgs:g<ops.size:=by have:=(Array.getElem?_eq_some_iff.1 ho).1;omega
  obtain⟨og,hog⟩:∃og,ops[g]? =some og:=⟨_,Array.getElem?_eq_getElem hgs⟩;have hnr:g∉i::rest:=by
   intro hm;rcases List.mem_cons.1 hm with rfl|hm
   ·omega
   ·have:=(List.pairwise_cons.1 hpw.2.1).1 g hm;rw[hb]at this;cases this
  obtain⟨u,a,c⟩:=h.done g og hnr hog;cases hVg:XK Vi g with
  |none=>rw[hVg]at hw;cases want<;>cases hw
  |some u0=>
  have:=hVi g u0 hVg;rw[a]at this;injection this with this;subst this;rw[hVg]at hw;cases hd:og.dst with
  |none=>
   have hok:=(Xat (KS h.ok).1 i o (by simpa using ho)).guard g want hg;obtain⟨d,hdm⟩:=hok.2;obtain⟨o2,_,x1,x2⟩:=HM.1 hdm;have x1:ops[g]? =some o2:=by simpa using x1
   rw[hog]at x1;injection x1 with x1;subst x1;rw[hd]at x2;cases x2
  |some d=>
   obtain⟨u',e,f⟩:=c d hd;exact Xm9 hog hd e f hw
end
section
theorem Xot{a b:Value}(h:Xk9 a b=true):a=b:=by
 unfold Xk9 at h;split at h
 ·split at h<;>first|rfl|cases h
 ·split at h
  ·rename_i hk;rw[Xbj]at h;simp at hk h;subst hk;subst h;rfl
  ·cases h
 ·rfl
 ·split at h
  ·rename_i ha;have ha:=Nat.eq_of_beq_eq_true ha;have hb:=Nat.eq_of_beq_eq_true h;subst ha;subst hb;rfl
  ·cases h
 ·split at h
  ·rename_i ha;have ha:=Nat.eq_of_beq_eq_true ha;have hb:=Nat.eq_of_beq_eq_true h;subst ha;subst hb;rfl
  ·cases h
 ·split at h
  ·rename_i a b c d;have a:=Nat.eq_of_beq_eq_true a;have b:=Nat.eq_of_beq_eq_true b;have c:=Nat.eq_of_beq_eq_true c;have d:=Nat.eq_of_beq_eq_true d;subst a;subst b;subst c;subst d;rfl
  ·cases h
 ·rfl
 ·have h:=Nat.eq_of_beq_eq_true h;subst h;rfl
 ·rfl
 ·rfl
 ·cases h
theorem Xla{a b:Value}(h:Yeu a b=true):a=b:=by
 unfold Yeu at h;split at h
 ·rw[HD]at h;simp at h;subst h;rfl
 ·exact Xot h
theorem Xf2:∀{xs ys:List Value},Ya3 xs ys=true→xs=ys:=by
 intro xs
 induction xs with
 |nil=>intro ys h;cases ys with|nil=>rfl|cons y ys=>cases h
 |cons x xs ih=>
  intro ys h;cases ys with
  |nil=>cases h
  |cons y ys=>
   unfold Ya3 at h;split at h
   ·rename_i h1;rw[Xla h1,ih h]
   ·cases h
theorem Yet{a b:Value}(h:vEq a b=true):a=b:=by
 unfold vEq at h;split at h
 ·rw[Xf2 h]
 ·rw[Xf2 h]
 ·split at h
  ·rename_i h1;rw[Nat.eq_of_beq_eq_true h1,Xla h]
  ·cases h
 ·split at h
  ·rename_i a b c;rw[Nat.eq_of_beq_eq_true a,Xf2 b,Xf2 c]
  ·cases h
 ·exact Xla h
end
section
theorem Ybf{T:Tab}{A:Xm}{ev:Operand→Option Value}{o:Op}{v:Value}(h:qop T A ev o=some v):aop T A ev o=some (.val v A):=by
 have rpA:∀{r:Option Value} {u:Value} {A':Xm},rp A r=some (.val u A')→A'=A:=by
  intro r u A' h;unfold rp at h;split at h
  ·injection h with h;injection h with _ h;exact h.symm
  ·cases h
 unfold qop at h;split at h
 ·cases h
 rename_i hq;split at h
 case h_2=>cases h
 rename_i u A' ha;have key:A'=A∧u=v:=by
  have hv:(∀s d x,o≠ .convert s d x)→u=v:=by
   intro hn;split at h
   ·rename_i s d x;exact absurd rfl (hn s d x)
   ·injection h
  cases o with
  |move x=>exact⟨rpA ha,hv nofun⟩
  |assign x=>exact⟨rpA ha,hv nofun⟩
  |pick c a b=>
   refine⟨?_,hv nofun⟩;have ha:Xs1 A (ev c) (ev a) (ev b)=some (.val u A'):=ha;unfold Xs1 at ha;split at ha
   ·exact rpA ha
   ·exact rpA ha
   ·cases ha
  |build t ps=>
   refine⟨?_,hv nofun⟩;have ha:(match evP ev ps.toList with|some l=>rp A (Xc1 T t l)|none=>none)=some (.val u A'):=ha;split at ha
   ·exact rpA ha
   ·cases ha
  |load t a=>
   refine⟨?_,hv nofun⟩;have ha:(match ev a with|some v=>rv (Hg T A t v)|none=>none)=some (.val u A'):=ha;split at ha
   case h_2=>cases ha
   unfold rv at ha;split at ha
   case h_2=>cases ha
   rename_i x B hx;injection ha with ha;injection ha with _ ha;subst ha;unfold Hg at hx;split at hx
   case h_2=>cases hx
   split at hx
   case h_2=>cases hx
   split at hx
   ·split at hx
    ·injection hx with hx;injection hx with _ hx;exact hx.symm
    ·cases hx
   ·split at hx
    ·injection hx with hx;injection hx with _ hx;exact hx.symm
    ·cases hx
  |nilCheck x=>
   refine⟨?_,hv nofun⟩;have ha:(match ev x with|some v=>Ye7 A v|none=>none)=some (.val u A'):=ha;split at ha
   case h_2=>cases ha
   unfold Ye7 at ha;split at ha<;>first|cases ha;done|(injection ha with ha;injection ha with _ ha;exact ha.symm)
  |binOp op t x y yt=>
   refine⟨?_,hv nofun⟩;have ha:(match ev x,ev y with|some v,some u=>rp A (Zr T A op t x y v u)|_,_=>none)=some (.val u A'):=ha;split at ha
   ·exact rpA ha
   ·cases ha
  |unOp op t x=>
   refine⟨?_,hv nofun⟩;have ha:(match ev x with|some v=>rp A (Yfa op v)|none=>none)=some (.val u A'):=ha;split at ha
   ·exact rpA ha
   ·cases ha
  |convert s d x=>
   have ha:(match ev x with|some v=>rv (Gc T A s d v)|none=>none)=some (.val u A'):=ha;split at ha
   case h_2=>cases ha
   unfold rv at ha;split at ha
   case h_2=>cases ha
   rename_i x B hx;injection ha with ha;injection ha with ha1 ha;subst ha;subst ha1;have hs:(∀a n c,x≠ .slice a n c)∧x=v:=by
    simp only at h;split at h
    ·cases h
    ·rename_i hn;injection h with h;exact⟨fun a n c e=>hn a n c e,h⟩
   refine⟨?_,hs.2⟩;unfold Gc at hx;split at hx
   case h_2=>cases hx
   split at hx
   ·injection hx with hx;injection hx with _ hx;exact hx.symm
   ·injection hx with hx;injection hx with _ hx;exact hx.symm
   ·injection hx with hx;injection hx with _ hx;exact hx.symm
   ·split at hx
    case h_2=>cases hx
    split at hx
    case h_2=>cases hx
    split at hx
    case h_2=>cases hx
    injection hx with hx;injection hx with hx _;exact absurd hx.symm (hs.1 _ _ _)
   ·split at hx
    case h_2=>cases hx
    split at hx
    case h_2=>cases hx
    split at hx
    case h_2=>cases hx
    split at hx
    ·split at hx
     ·injection hx with hx;injection hx with _ hx;exact hx.symm
     ·cases hx
    ·split at hx
     ·injection hx with hx;injection hx with _ hx;exact hx.symm
     ·split at hx
      case h_2=>cases hx
      split at hx
      ·injection hx with hx;injection hx with _ hx;exact hx.symm
      ·cases hx
    ·cases hx
   ·split at hx
    case h_2=>cases hx
    split at hx
    case h_2=>cases hx
    split at hx
    ·cases hx
    ·injection hx with hx;injection hx with _ hx;exact hx.symm
   ·cases hx
  |makeInterface t x=>
   refine⟨?_,hv nofun⟩;have ha:(match ev x with|some v=>rp A (Xcx T t v)|none=>none)=some (.val u A'):=ha;split at ha
   ·exact rpA ha
   ·cases ha
  |makeFunc fn first captured=>
   refine⟨?_,hv nofun⟩;have ha:(match evL ev first.toList,evL ev captured.toList with|some a,some b=>Xs4 A fn a b|_,_=>none)=some (.val u A'):=ha;split at ha
   case h_2=>cases ha
   unfold Xs4 at ha;split at ha
   ·injection ha with ha;injection ha with _ ha;exact ha.symm
   ·cases ha
  |slice t x lo hi mx=>
   refine⟨?_,hv nofun⟩;cases mx with
   |some m=>
    cases hi with
    |none=>cases ha
    |some hi=>
     have ha:(match ev x,evO ev lo,ev hi,ev m with|some v,some l,some h,some m=>rp A (ZN T A t v l h m)|_,_,_,_=>none)=some (.val u A'):=ha;split at ha
     ·exact rpA ha
     ·cases ha
   |none=>
    have ha:(match ev x,evO ev lo,evO ev hi with|some v,some l,some h=>rp A (Xcu T A t v l h)|_,_,_=>none)=some (.val u A'):=ha;split at ha
    ·exact rpA ha
    ·cases ha
  |fieldAddr t x f=>
   refine⟨?_,hv nofun⟩;have ha:(match ev x with|some v=>rp A (Jt T t v f)|none=>none)=some (.val u A'):=ha;split at ha
   ·exact rpA ha
   ·cases ha
  |field t x f=>
   refine⟨?_,hv nofun⟩;have ha:(match ev x with|some v=>rp A (Hh T t v f)|none=>none)=some (.val u A'):=ha;split at ha
   ·exact rpA ha
   ·cases ha
  |indexAddr t x i=>
   refine⟨?_,hv nofun⟩;have ha:(match ev x,ev i with|some v,some u=>rp A (Js T t v u)|_,_=>none)=some (.val u A'):=ha;split at ha
   ·exact rpA ha
   ·cases ha
  |index t x i=>
   refine⟨?_,hv nofun⟩;have ha:(match ev x,ev i with|some v,some u=>rp A (Xcw T t v u)|_,_=>none)=some (.val u A'):=ha;split at ha
   ·exact rpA ha
   ·cases ha
  |lookup t x i ok=>
   refine⟨?_,hv nofun⟩;have ha:(match ev x,ev i with|some v,some u=>rp A (ZQ T A t v u ok)|_,_=>none)=some (.val u A'):=ha;split at ha
   ·exact rpA ha
   ·cases ha
  |entry it=>
   refine⟨?_,hv nofun⟩;have ha:(match ev it with|some v=>rp A (Xcz A v)|none=>none)=some (.val u A'):=ha;split at ha
   ·exact rpA ha
   ·cases ha
  |typeAssert x xt t ok=>
   refine⟨?_,hv nofun⟩;have ha:(match ev x with|some v=>rp A (ZR T v t ok)|none=>none)=some (.val u A'):=ha;split at ha
   ·exact rpA ha
   ·cases ha
  |extract x i=>
   refine⟨?_,hv nofun⟩;have ha:(match ev x with|some v=>rp A (Vu v i)|none=>none)=some (.val u A'):=ha;split at ha
   ·exact rpA ha
   ·cases ha
  |call c=>
   refine⟨?_,hv nofun⟩;obtain⟨callee,args,argTypes⟩:=c;cases callee with
   |value f=>cases hq
   |invoke r n=>cases hq
   |builtin b=>
    have ha:(match evL ev args.toList with|some args=>Gv T A b argTypes.toList args|none=>none)=some (.val u A'):=ha;split at ha
    case h_2=>cases ha
    cases b with
    |len=>
     unfold Gv at ha;split at ha<;>first|exact rpA ha|cases ha;done|(rename_i he _;cases he)
    |min=>
     unfold Gv at ha;split at ha<;>first|exact rpA ha|cases ha;done|(rename_i he _;cases he)
    |max=>
     unfold Gv at ha;split at ha<;>first|exact rpA ha|cases ha;done|(rename_i he _;cases he)
    |_=>cases hq
  |_=>cases hq
 rw[ha,key.1,key.2]
end
section
def Sub(V V':List (Nat×Value)):Prop:=∀k u,XK V k=some u→XK V' k=some u
theorem Sub.refl(V:List (Nat×Value)):Sub V V:=fun _ _ h=>h
theorem Sub.trans{a b c:List (Nat×Value)}(h:Sub a b)(k:Sub b c):Sub a c:=fun x u hx=>k x u (h x u hx)
theorem Sub.cons{V:List (Nat×Value)}{j:Nat}{v:Value}(h:XK V j=none):Sub V ((j,v)::V):=by
 intro k u hk;rw[YV];by_cases e:j=k
 ·subst e;rw[h]at hk;cases hk
 ·simp[e,hk]
theorem ZV{V:List (Nat×Value)}{j k:Nat}{v:Value}(h:k≠j):XK ((j,v)::V) k=XK V k:=by
 rw[YV];simp[Ne.symm h]
theorem Xc8{V:List (Nat×Value)}{j:Nat}{v:Value}:XK ((j,v)::V) j=some v:=by
 rw[YV];simp
def Ygk(T:Tab)(D:DI)(A:Xm)(vars:List (Option Value))(over:List (Nat×Value))(Vi:List (Nat×Value))(o:Oper)(j:Nat)(v:Value):Prop:=
 (V0 D Vi o j=some true∧qop T A (dev T.nglob D Vi vars over j) o.op=some v)∨(V0 D Vi o j=some false∧v=undef)
theorem VO{o:Op}(h:Xh3 o=true):KT o=false:=by
 cases o<;>first|rfl|cases h
theorem YU(n j:Nat):Nat.succ n+j=n+(j+1):=by omega
theorem Xy5{T:Tab}{D:DI}{A:Xm}{vars:List (Option Value)}{over:List (Nat×Value)}{done pending:List Nat}:∀{ops:List Oper} {n:Nat} {V V1:List (Nat×Value)},
  Xes T D A vars over done pending ops n V=some V1→
  Sub V V1∧(∀k,(∀j o,ops[j]? =some o→KT o.op=true→k≠n+j)→XK V1 k=XK V k)∧
  (∀j o,ops[j]? =some o→KF D (n+j) pending=true→KG D (n+j) done=true→KT o.op=true→∃Vi v,Sub Vi V1∧XK V1 (n+j)=some v∧Ygk T D A vars over Vi o (n+j) v)∧
  (∀j o,ops[j]? =some o→KF D (n+j) pending=true→KG D (n+j) done=true→Xh3 o.op=true→∃v,XK V1 (n+j)=some v):=by
 intro ops
 induction ops with
 |nil=>
  intro n V V1 h;injection h with h;subst h;exact⟨Sub.refl _,fun _ _=>rfl,fun j o h=>by simp at h,fun j o h=>by simp at h⟩
 |cons o ops ih=>
  intro n V V1 h;unfold Xes at h;have step:∀{V':List (Nat×Value)},Sub V V'→(∀k,k≠n→XK V' k=XK V k)→(KT o.op=false→V'=V)→Xes T D A vars over done pending ops (Nat.succ n) V'=some V1→
    (KF D n pending=true→KG D n done=true→KT o.op=true→∃Vi v,Sub Vi V1∧XK V1 n=some v∧Ygk T D A vars over Vi o n v)→
    (KF D n pending=true→KG D n done=true→Xh3 o.op=true→∃v,XK V1 n=some v)→
    Sub V V1∧(∀k,(∀j o',(o::ops)[j]? =some o'→KT o'.op=true→k≠n+j)→XK V1 k=XK V k)∧
    (∀j o',(o::ops)[j]? =some o'→KF D (n+j) pending=true→KG D (n+j) done=true→KT o'.op=true→∃Vi v,Sub Vi V1∧XK V1 (n+j)=some v∧Ygk T D A vars over Vi o' (n+j) v)∧
    (∀j o',(o::ops)[j]? =some o'→KF D (n+j) pending=true→KG D (n+j) done=true→Xh3 o'.op=true→∃v,XK V1 (n+j)=some v):=by
   intro V' h1 h2 h3 h4 h5 h6;obtain⟨a,b,c,d⟩:=ih h4;refine⟨h1.trans a,?_,?_,?_⟩
   ·intro k hk;have hb:XK V1 k=XK V' k:=b k (fun j o' ho' hq=>by rw[YU];exact hk (j+1) o' (by simpa using ho') hq);rw[hb];cases hq:KT o.op with
    |false=>rw[h3 hq]
    |true=>exact h2 k (by simpa using hk 0 o rfl hq)
   ·intro j o' ho' hx hy hq;cases j with
    |zero=>simp at ho';subst ho';exact h5 hx hy hq
    |succ j=>simp at ho';rw[←YU]at hx hy⊢;exact c j o' ho' hx hy hq
   ·intro j o' ho' hx hy hq;cases j with
    |zero=>simp at ho';subst ho';exact h6 hx hy hq
    |succ j=>simp at ho';rw[←YU]at hx hy⊢;exact d j o' ho' hx hy hq
  split at h
  ·rename_i hq;split at h
   ·cases h
   ·rename_i hne;refine step (Sub.refl _) (fun _ _=>rfl) (fun _=>rfl) h (fun _ _ hq'=>by rw[hq]at hq';cases hq') ?_;intro hx hy hal;cases hv:XK V n with
    |none=>exact absurd hv (hne hal hx hy)
    |some v=>exact⟨v,(ih h).1 n v hv⟩
  ·rename_i hq;split at h
   ·rename_i hx hy;split at h
    case h_2=>cases h
    rename_i v hv;have hqv:Ygk T D A vars over V o n v:=by
     split at hv
     ·rename_i hw;exact .inl ⟨hw,hv⟩
     ·rename_i hw;injection hv with hv;exact .inr ⟨hw,hv.symm⟩
     ·cases hv
    split at h
    ·rename_i hn;have hs:=(ih h).1;refine step (Sub.cons hn) (fun k hk=>ZV hk) (fun hq'=>by rw[hq]at hq';cases hq') h (fun _ _ _=>⟨V,v,(Sub.cons hn).trans hs,hs n v Xc8,hqv⟩) (fun _ _ hal=>by rw[VO hal]at hq;cases hq)
    ·rename_i u hu;split at h
     case h_2=>cases h
     rename_i he;have he:=Yet he;subst he;have hs:=(ih h).1;refine step (Sub.refl _) (fun _ _=>rfl) (fun _=>rfl) h (fun _ _ _=>⟨V,u,hs,hs n u hu,hqv⟩) (fun _ _ hal=>by rw[VO hal]at hq;cases hq)
   ·rename_i hne;refine step (Sub.refl _) (fun _ _=>rfl) (fun _=>rfl) h (fun hx hy _=>absurd hy (hne hx)) (fun hx hy _=>absurd hy (hne hx))
structure Yd0(T:Tab)(D:DI)(vars:List (Option Value))(over:List (Nat×Value))(base:Nat)(ops:List Oper)(n:Nat)(A:Xm)(V:List (Nat×Value))(A1:Xm)(V1:List (Nat×Value)):Prop where
 sub:Sub V V1
 next:A1.next=A.next
 fams:A1.fams=A.fams
 heap:∀b,(∀j o,ops[j]? =some o→Xh3 o.op=true→XK V (n+j)=none→b≠base+(n+j))→A1.heap.get b=A.heap.get b
 new:∀b ob,A1.heap.get b=some ob→A.heap.get b=some ob∨(Gd ob=true∧∃j o,ops[j]? =some o∧Xh3 o.op=true∧XK V (n+j)=none∧b=base+(n+j))
 pend:∀j o v,ops[j]? =some o→Xh3 o.op=true→XK V (n+j)=none→XK V1 (n+j)=some v→Xfy T A1 D V1 vars over base (n+j) o v
 look:∀k,(∀j o,ops[j]? =some o→k≠n+j)→XK V1 k=XK V k
theorem Ycy{T:Tab}{D:DI}{vars:List (Option Value)}{over:List (Nat×Value)}{done pending:List Nat}{base:Nat}:∀{ops:List Oper} {n:Nat} {A:Xm} {V:List (Nat×Value)} {A1:Xm} {V1:List (Nat×Value)},
  dpre T D vars over done pending base ops n A V=some (A1,V1)→Yd0 T D vars over base ops n A V A1 V1:=by
 intro ops
 induction ops with
 |nil=>
  intro n A V A1 V1 h;injection h with h;injection h with h1 h2;subst h1;subst h2;exact⟨Sub.refl _,rfl,rfl,fun _ _=>rfl,fun _ _ h=> .inl h,fun j o v h=>by simp at h,fun _ _=>rfl⟩
 |cons o ops ih=>
  intro n A V A1 V1 h;unfold dpre at h;have step:∀{V':List (Nat×Value)},Sub V V'→(∀k,k≠n→XK V' k=XK V k)→dpre T D vars over done pending base ops (Nat.succ n) A V'=some (A1,V1)→
    (∀v,Xh3 o.op=true→XK V n=none→XK V1 n=some v→Xfy T A1 D V1 vars over base n o v)→Yd0 T D vars over base (o::ops) n A V A1 V1:=by
   intro V' h1 h2 h4 h5;have k:=ih h4;have hn:∀j,n+(j+1)≠n:=fun j=>by omega
   refine⟨h1.trans k.sub,k.next,k.fams,?_,?_,?_,?_⟩
   ·intro b hb;refine k.heap b fun j o' ho' hal hno=>?_;rw[YU]at hno⊢;rw[h2 _ (hn j)]at hno;exact hb (j+1) o' (by simpa using ho') hal hno
   ·intro b ob hb;rcases k.new b ob hb with h|⟨h,j,o',a,b',c,d⟩
    ·exact .inl h
    ·rw[YU]at c d;rw[h2 _ (hn j)]at c;exact .inr ⟨h,j+1,o',by simpa using a,b',c,d⟩
   ·intro j o' v ho' hal hno hv;cases j with
    |zero=>simp at ho';subst ho';exact h5 v hal hno hv
    |succ j=>
     simp at ho';rw[←h2 _ (hn j)]at hno;rw[←YU]at hno hv⊢;exact k.pend j o' v ho' hal hno hv
   ·intro q hq;rw[k.look q (fun j o' ho'=>by rw[YU];exact hq (j+1) o' (by simpa using ho'))];exact h2 q (by simpa using hq 0 o rfl)
  have same:∀{V':List (Nat×Value)},dpre T D vars over done pending base ops (Nat.succ n) A V'=some (A1,V1)→XK V1 n=XK V' n:=by
   intro V' h4;exact(ih h4).look n (fun j o' _=>by rw[YU];omega)
  split at h
  ·rename_i hc;refine step (Sub.refl _) (fun _ _=>rfl) h fun v hal=>?_;unfold Ho at hc;rw[hal,VO hal]at hc;cases hc
  ·split at h
   ·rename_i u hu;exact step (Sub.refl _) (fun _ _=>rfl) h fun v _ hno=>by rw[hno]at hu;cases hu
   ·rename_i hno;split at h
    ·split at h
     ·rename_i hw;split at h
      ·rename_i hal;split at h
       case h_2=>cases h
       rename_i ob mk ha;split at h
       case h_2=>cases h
       rename_i hng hlt;have hlt:base+n<16000000:=by simpa using hlt
       have k:=ih h;have hn:∀j,n+(j+1)≠n:=fun j=>by omega
       have h2:∀k,k≠n→XK ((n,mk (Nat.add base n))::V) k=XK V k:=fun k hk=>ZV hk;have hhead:A1.heap.get (base+n)=some ob:=by
        rw[k.heap _ (fun j o' _ _ _=>by rw[YU];omega)];exact Tr.get_put_there _ _ _ (by have:base.add n=base+n:=rfl;omega)
       refine⟨(Sub.cons hno).trans k.sub,k.next,k.fams,?_,?_,?_,?_⟩
       ·intro b hb;rw[k.heap b fun j o' ho' hal' hno'=>by
         rw[YU]at hno'⊢;rw[h2 _ (hn j)]at hno';exact hb (j+1) o' (by simpa using ho') hal' hno']
        exact Tr.get_put_other _ _ _ _ (by simpa using hb 0 o rfl hal (by simpa using hno))
       ·intro b ob' hb;rcases k.new b ob' hb with h|⟨h,j,o',a,b',c,d⟩
        ·rcases Tr.get_put h with⟨h1,h2⟩|⟨_,h2⟩
         ·injection h2 with h2;subst h2;exact .inr ⟨hng,0,o,rfl,hal,by simpa using hno,h1⟩
         ·exact .inl h2
        ·rw[YU]at c d;rw[h2 _ (hn j)]at c;exact .inr ⟨h,j+1,o',by simpa using a,b',c,d⟩
       ·intro j o' v ho' hal' hno' hv;cases j with
        |zero=>
         simp at ho';subst ho';have hv1:=k.sub n _ (Xc8 (V:=V) (j:=n) (v:=mk (Nat.add base n)));have hv:XK V1 n=some v:=hv;rw[hv1]at hv;injection hv with hv;subst hv;exact⟨V,(Sub.cons hno).trans k.sub, .inr ⟨hw,ob,mk,ha,rfl,hhead,hng⟩⟩
        |succ j=>
         simp at ho';rw[←h2 _ (hn j)]at hno';rw[←YU]at hno' hv⊢;exact k.pend j o' v ho' hal' hno' hv
       ·intro q hq;rw[k.look q (fun j o' ho'=>by rw[YU];exact hq (j+1) o' (by simpa using ho'))];exact h2 q (by simpa using hq 0 o rfl)
      ·rename_i hal;have hx:∀{v:Value} {X:Prop},Xh3 o.op=true→X:=fun h=>by rw[h]at hal;cases hal
       split at h
       ·exact step (Sub.cons hno) (fun k hk=>ZV hk) h fun v h=>by rw[h]at hal;cases hal
       ·exact step (Sub.refl _) (fun _ _=>rfl) h fun v h=>by rw[h]at hal;cases hal
     ·rename_i hw;refine step (Sub.cons hno) (fun k hk=>ZV hk) h fun v hal _ hv=>?_;rw[same h,Xc8]at hv;injection hv with hv;subst hv;exact⟨V,(Sub.cons hno).trans (ih h).sub, .inl ⟨hw,rfl⟩⟩
     ·refine step (Sub.refl _) (fun _ _=>rfl) h fun v hal _ hv=>?_;rw[same h,hno]at hv;cases hv
    ·refine step (Sub.refl _) (fun _ _=>rfl) h fun v hal _ hv=>?_;rw[same h,hno]at hv;cases hv
end
section
variable {P:Program} {T:Tab} {B:Nat} {cs0:List Frame}
structure Yas(T:Tab)(D:DI)(A1:Xm)(vars:List (Option Value))(over:List (Nat×Value))(done pending:List Nat)(ops:Array Oper)(V1:List (Nat×Value)):Prop where
 quiet:∀j o,ops[j]? =some o→KF D j pending=true→KG D j done=true→KT o.op=true→∃Vi v,Sub Vi V1∧XK V1 j=some v∧Ygk T D A1 vars over Vi o j v
 als:∀j o,ops[j]? =some o→KF D j pending=true→KG D j done=true→Xh3 o.op=true→∃v,XK V1 j=some v
theorem Xy2{D:DI}{A A1:Xm}{vars:List (Option Value)}{over:List (Nat×Value)}{done pending:List Nat}{base:Nat}{ops:Array Oper}{V V1:List (Nat×Value)}
  (h:Xy3 T D A vars over done pending base ops.toList V=some (A1,V1)):
  ∃Va,Yd0 T D vars over base ops.toList 0 A V A1 Va∧Xes T D A1 vars over done pending ops.toList 0 Va=some V1:=by
 unfold Xy3 at h;split at h
 ·split at h
  case h_2=>cases h
  rename_i V2 h2;injection h with h;injection h with h1 h3;subst h1;subst h3;refine⟨V,⟨Sub.refl _,rfl,rfl,fun _ _=>rfl,fun _ _ h=> .inl h,?_,fun _ _=>rfl⟩,h2⟩;intro j o v _ _ a b;rw[a]at b;cases b
 ·split at h
  case h_2=>cases h
  rename_i A2 V2 h2;split at h
  case h_2=>cases h
  rename_i V3 h3;injection h with h;injection h with h1 h4;subst h1;subst h4;exact⟨V2,Ycy h2,h3⟩
theorem Ya9{μ:Mu}{A A1:Xm}{lo hi nt:Nat}{vars:List (Option Value)}{over:List (Nat×Value)}{ops:Array Oper}{t:Nat}{V V1:List (Nat×Value)}{base:Nat}{rest:List Nat}{tm:Array Value}{hp:Array Obj}{done pending:List Nat}
  (h:Xae T μ A lo hi nt vars over ops t V base rest tm) (R:Yr μ B A hp) (hhi:hi≤A.next)
  (hs:Xy3 T (X0 ops.toList) A vars over done pending base ops.toList V=some (A1,V1)):
  Xae T μ A1 lo hi nt vars over ops t V1 base rest tm∧Yr μ B A1 hp∧Yas T (X0 ops.toList) A1 vars over done pending ops V1∧A1.next=A.next∧Kept lo μ A A1:=by
 obtain⟨Va,hp1,hpass⟩:=Xy2 hs;obtain⟨s1,s2,s3,s4⟩:=Xy5 hpass;have hsub:=hp1.sub.trans s1;have hget:∀{j:Nat} {o:Oper},ops.toList[j]? =some o↔ops[j]? =some o:=by intro j o;simp
 have hrest:∀{j:Nat} {o:Oper},ops[j]? =some o→XK V j=none→j∈rest:=by
  intro j o ho hn;rcases Classical.em (j∈rest)with h1|h1
  ·exact h1
  ·obtain⟨v,a,_⟩:=h.done j o h1 ho;rw[hn]at a;cases a
 refine⟨⟨h.ok,h.nt,h.lo,h.hi,h.ord,h.chain,?_,h.old,?_⟩,?_,?_,hp1.next,?_⟩
 ·intro i o hi' ho;obtain⟨v,a,b⟩:=h.done i o hi' ho;exact⟨v,hsub i v a,b⟩
 ·intro j o hj ho hal;obtain⟨a,b⟩:=h.pend j o hj ho hal;refine⟨a,fun v hv=>?_⟩;rw[s2 j (fun j' o' ho' hq=>by
   rintro rfl;rw[Nat.zero_add]at ho;rw[Option.some.inj (ho'.symm.trans (hget.2 ho)),VO hal]at hq;cases hq)]at hv
  cases hVj:XK V j with
  |some v'=>
   have:=hp1.sub j v' hVj;rw[hv]at this;injection this with this;subst this;refine(b v hVj).mono hsub fun ob h5 _=>?_;rw[hp1.heap _ (fun j' o' _ _ hn=>by
    intro e;have:j=j':=by omega
    subst this;rw[Nat.zero_add,hVj]at hn;cases hn)]
   exact h5
  |none=>
   have:=hp1.pend j o v (hget.2 ho) hal (by rw[Nat.zero_add];exact hVj) (by rw[Nat.zero_add];exact hv);rw[Nat.zero_add]at this;exact this.mono s1 fun _ h _=>h
 ·refine⟨R.base,?_,?_,R.sep,?_,?_⟩
  ·intro b o e hb he;rcases hp1.new b o hb with h1|⟨_,j,o',ho',hal,hn,rfl⟩
   ·exact R.obj b o e h1 he
   ·rw[Nat.zero_add]at hn he;have:=(h.pend j o' (hrest (hget.1 ho') hn) (hget.1 ho') hal).1;rw[this]at he;cases he
  ·intro b e he;rw[hp1.next];exact R.dom b e he
  ·intro b xs g hb;rw[hp1.next,hp1.fams];rcases hp1.new b _ hb with h1|⟨hng,_⟩
   ·exact R.memb b xs g h1
   ·cases hng
  ·intro b o hb;rw[hp1.next];rcases hp1.new b o hb with h1|⟨_,j,o',ho',_,_,rfl⟩
   ·exact R.live b o h1
   ·have:=(Array.getElem?_eq_some_iff.1 (hget.1 ho')).1;have:=h.hi;omega
 ·refine⟨?_,?_⟩
  ·intro j o ho hx hy hq;have:=s3 j o (hget.2 ho) (by rw[Nat.zero_add];exact hx) (by rw[Nat.zero_add];exact hy) hq;rw[Nat.zero_add]at this;exact this
  ·intro j o ho hx hy hq;have:=s4 j o (hget.2 ho) (by rw[Nat.zero_add];exact hx) (by rw[Nat.zero_add];exact hy) hq;rw[Nat.zero_add]at this;exact this
 ·intro b o hb _ ho _;rw[hp1.heap b (fun j o' _ _ _=>by have:=h.lo;omega)];exact ho
theorem Zf:∀(ops:List Oper) (n:Nat),(VB ops n).Pairwise (· < ·)∧∀x∈VB ops n,n≤x:=by
 intro ops
 induction ops with
 |nil=>intro n;exact⟨List.Pairwise.nil,fun x h=>by cases h⟩
 |cons o ops ih=>
  intro n;obtain⟨a,b⟩:=ih (Nat.succ n);unfold VB;split
  ·exact⟨a,fun x hx=>by have:=b x hx;omega⟩
  ·refine⟨List.pairwise_cons.2 ⟨fun x hx=>b x hx,a⟩,fun x hx=>?_⟩;rcases List.mem_cons.1 hx with rfl|hx
   ·exact Nat.le_refl _
   ·have:=b x hx;omega
theorem Xps{D:DI}{j:Nat}{l:List Nat}(h:∀c∈l,before D c j=false):KF D j l=true:=by
 induction l with
 |nil=>rfl
 |cons c l ih=>
  unfold KF;rw[h c (by simp)];exact ih fun c' hc=>h c' (by simp[hc])
theorem Xpt{D:DI}{j:Nat}{l:List Nat}(h:∀c∈l,before D j c=false):KG D j l=true:=by
 induction l with
 |nil=>rfl
 |cons c l ih=>
  unfold KG;rw[h c (by simp)];exact ih fun c' hc=>h c' (by simp[hc])
theorem Xwx:∀(l:List Nat) (n:Nat),Xr5 l n=l.take n:=by
 intro l
 induction l with
 |nil=>intro n;cases n<;>rfl
 |cons x l ih=>
  intro n;cases n with
  |zero=>rfl
  |succ n=>exact congrArg (x::·) (ih n)
theorem Xug{μ:Mu}{A:Xm}{lo hi nt:Nat}{vars:List (Option Value)}{over:List (Nat×Value)}{ops:Array Oper}{t:Nat}{V:List (Nat×Value)}{base i:Nat}{rest:List Nat}{tm:Array Value}
  (h:Xae T μ A lo hi nt vars over ops t V base (i::rest) tm) (hi:mem i (X0 ops.toList).chain=false):
  KF (X0 ops.toList) i (Y2 (X0 ops.toList).chain t)=true∧KG (X0 ops.toList) i (Xr5 (X0 ops.toList).chain t)=true:=by
 obtain⟨S,h1,h2,h3⟩:=h.ord;have hpw:=List.pairwise_append.1 h1;have hc:=h.chain;rw[List.filter_cons,hi]at hc;simp only[Bool.false_eq_true,if_false]at hc;refine⟨Xps fun c hm=>?_,Xpt fun c hm=>?_⟩
 ·rw[KR,←hc,List.mem_filter]at hm;exact(List.pairwise_cons.1 hpw.2.1).1 c hm.1
 ·rw[Xwx]at hm;have hch:c∈(X0 ops.toList).chain:=List.mem_of_mem_take hm;obtain⟨o,_,ho,_⟩:=GD.1 hch;have hsz:c<ops.size:=by
   have ho:ops[c]? =some o:=by simpa using ho
   exact(Array.getElem?_eq_some_iff.1 ho).1
  have hne:c≠i:=by rintro rfl;rw[Xji]at hi;exact hi hch
  rcases List.mem_append.1 ((h3 c).2 hsz)with hS|hr
  ·exact hpw.2.2 c hS i (by simp)
  ·rcases List.mem_cons.1 hr with e|hr
   ·exact absurd e hne
   ·exfalso;have:c∈(X0 ops.toList).chain.drop t:=by rw[←hc,List.mem_filter];exact⟨hr,ZU.2 hch⟩
    have hs:=(Zf ops.toList 0).1;have hs:(X0 ops.toList).chain.Pairwise (· < ·):=hs;rw[←List.take_append_drop t (X0 ops.toList).chain]at hs;have:=(List.pairwise_append.1 hs).2.2 c hm c this;omega
end
section
variable {P:Program} {T:Tab} {B:Nat} {cs0:List Frame}
theorem ZA{fr:Frame}{cs:List Frame}{w:World}{ops:Array Oper}{i:Nat}{rest:List Nat}{k:List Item}{o:Oper}(hm:fr.mode= .run)(ht:fr.todo= .inRegion ops (i::rest)::k)
  (ho:ops[i]? =some o) (hw:Region.wanted o (yielded ops fr.tmps)=true) (hd:fr.roundOf=none∨∀c,o.op≠ .defer c):
  stepG P true {frame:=fr,callers:=cs,status:= .running,dying:=none} w=stepG.apply P true fr cs none (execOp fr.eval o) w:=by
 simp only[stepG,stepG.exec,hm,ht,ho,Option.map_some,Option.getD_some,hw,if_true,stepG.oper,Frame.oper?];rcases hd with hd|hd
 ·simp only[hd]
 ·split
  ·rename_i h;exact absurd h (hd _)
  ·rfl
theorem Xf5{fr:Frame}{cs:List Frame}{w w':World}{ops:Array Oper}{i:Nat}{rest:List Nat}{k:List Item}{o:Oper}(hm:fr.mode= .run)(ht:fr.todo= .inRegion ops (i::rest)::k)
  (ho:ops[i]? =some o) (hw:Region.wanted o (yielded ops fr.tmps)=true) (hd:fr.roundOf=none∨∀c,o.op≠ .defer c) {v:Value} (hr:(execOp fr.eval o).run P w= .ok (.value v) w'):
  Steps P (lone fr cs w) (lone (fr.finish v) cs w'):=by
 refine .one (step_lone_go ?_);rw[ZA hm ht ho hw hd];simp only[stepG.apply,Sem.runT_eq,hr,if_true,GStep.bare_after,GStep.bare_go]
theorem Zk{fr:Frame}{cs:List Frame}{w:World}{ops:Array Oper}{i:Nat}{rest:List Nat}{k:List Item}{o:Oper}(hm:fr.mode= .run)(ht:fr.todo= .inRegion ops (i::rest)::k)
  (ho:ops[i]? =some o) (hw:Region.wanted o (yielded ops fr.tmps)=false):
  Steps P (lone fr cs w) (lone (fr.finish undef) cs w):=by
 refine .one (step_lone_go ?_);simp[stepG,stepG.exec,hm,ht,ho,hw]
theorem Ji{fr:Frame}{ops:Array Oper}{i:Nat}{rest:List Nat}{k:List Item}{o:Oper}(ht:fr.todo= .inRegion ops (i::rest)::k)(ho:ops[i]? =some o)(v:Value):
  fr.finish v= {fr with tmps:=Xrq fr.tmps o.dst v,todo:= .inRegion ops rest::k}:=by
 simp only[Frame.finish,ht,ho,Option.bind_some];cases o.dst<;>rfl
theorem Xbg{o:Op}(h:KT o=true∨Xh3 o=true):∀c,o≠ .defer c:=by
 rintro c rfl;rcases h with h|h<;>cases h
theorem Xae.lohi{μ:Mu}{A:Xm}{lo hi nt:Nat}{vars:List (Option Value)}{over:List (Nat×Value)}{ops:Array Oper}{t:Nat}{V:List (Nat×Value)}{base:Nat}{rest:List Nat}{tm:Array Value}
  (h:Xae T μ A lo hi nt vars over ops t V base rest tm):lo≤hi:=by have:=h.lo;have:=h.hi;omega
theorem Xs6(C:Y0 P T){A:Xm}{lo hi:Nat}{fr:Xt}{ops:Array Oper}{t:Nat}{V:List (Nat×Value)}{base:Nat}{k:List Item}{cs:List Frame}(hhi:hi≤A.next)
  (hs:Yas T (X0 ops.toList) A fr.vars fr.over (Xr5 (X0 ops.toList).chain t) (Y2 (X0 ops.toList).chain t) ops V):
  ∀(rest:List Nat) {μ:Mu} {fr':Frame} {w:World},fr'.mode= .run→fr'.todo= .inRegion ops rest::k→Xae T μ A lo hi fr.nt fr.vars fr.over ops t V base rest fr'.tmps→Yr μ B A w.heap→Xrl μ T.nglob→
  ∃μ' tm w' rest',Mu.Ext lo μ μ'∧Steps P (lone fr' cs w) (lone {fr' with tmps:=tm,todo:= .inRegion ops rest'::k} cs w')∧Below B w w'∧
   Xae T μ' A lo hi fr.nt fr.vars fr.over ops t V base rest' tm∧Yr μ' B A w'.heap∧(rest'=[]∨∃c r,rest'=c::r∧mem c (X0 ops.toList).chain=true):=by
 intro rest
 induction rest with
 |nil=>
  intro μ fr' w _ ht hd R _;refine⟨μ,fr'.tmps,w,[],Mu.Ext.refl _ _,?_,Below.refl _ _,hd,R, .inl rfl⟩;rw[←ht];exact Steps.refl _ _
 |cons i rest ih=>
  intro μ fr' w hm ht hd R G;cases hc:mem i (X0 ops.toList).chain with
  |true=>
   refine⟨μ,fr'.tmps,w,i::rest,Mu.Ext.refl _ _,?_,Below.refl _ _,hd,R, .inr ⟨i,rest,rfl,hc⟩⟩;rw[←ht];exact Steps.refl _ _
  |false=>
   obtain⟨ho1,ho2⟩:=Xug hd hc;obtain⟨S,h1,h2,h3⟩:=hd.ord;have hlt:i<ops.size:=(h3 i).1 (by simp);obtain⟨o,ho⟩:∃o,ops[i]? =some o:=⟨_,Array.getElem?_eq_getElem hlt⟩;have go:∀{μ1:Mu} {v v':Value} {w1:World},Mu.Ext lo μ μ1→(∀j,j∈rest→μ (base+j)=none→μ1 (base+j)=none)→XK V i=some v→XH μ1 v v'→Yr μ1 B A w1.heap→Below B w w1→
     Steps P (lone fr' cs w) (lone (fr'.finish v') cs w1)→
     ∃μ' tm w' rest',Mu.Ext lo μ μ'∧Steps P (lone fr' cs w) (lone {fr' with tmps:=tm,todo:= .inRegion ops rest'::k} cs w')∧Below B w w'∧
      Xae T μ' A lo hi fr.nt fr.vars fr.over ops t V base rest' tm∧Yr μ' B A w'.heap∧(rest'=[]∨∃c r,rest'=c::r∧mem c (X0 ops.toList).chain=true):=by
    intro μ1 v v' w1 hext hpd hv hvr R1 hb hst;have hd1:=hd.exec' ho hvr hext.1 hpd (.inr ⟨hc,rfl⟩) (.inl ⟨rfl,hv⟩);rw[Ji ht ho]at hst;obtain⟨μ',tm,w',rest',a,b,c,d,e,f⟩:=ih (fr':={fr' with tmps:=Xrq fr'.tmps o.dst v',todo:= .inRegion ops rest::k}) hm rfl hd1 R1 (G.mono hext.1);exact⟨μ',tm,w',rest',⟨hext.1.trans a.1,fun b hb hn=>a.2 b hb (hext.2 b hb hn)⟩,hst.trans b,hb.trans c,d,e,f⟩
   have skip:∀{Vi:List (Nat×Value)},Sub Vi V→V0 (X0 ops.toList) Vi o i=some false→XK V i=some undef→_:=fun{Vi} hVi hw hv=>
    go (Mu.Ext.refl _ μ) (fun _ _ h=>h) hv (XE.tuple .nil) R (Below.refl _ _) (Zk hm ht ho (Vp hd hVi ho hw))
   have hcl:KT o.op=true∨Xh3 o.op=true:=by
    cases hq:KT o.op with
    |true=>exact .inl rfl
    |false=>
     cases ha:Xh3 o.op with
     |true=>exact .inr rfl
     |false=>
      exfalso;rw[Xji]at hc;refine hc (GD.2 ⟨o,Nat.zero_le _,by simpa using ho,?_⟩);unfold Ho;rw[hq,ha]
   rcases hcl with hq|hal
   ·obtain⟨Vi,v,hVi,hv,hqv⟩:=hs.quiet i o ho ho1 ho2 hq;rcases hqv with⟨hw,hqo⟩|⟨hw,rfl⟩
    ·have hrho:=Xgd (fr':=fr') G hd hVi;obtain⟨v',w1,μ1,hr,hext,R1,hvr,hb,_⟩:=Xka C R hrho (o:=o) (Ybf hqo);refine go (hext.le (Nat.le_trans hd.lohi hhi)) ?_ hv hvr R1 hb (Xf5 hm ht ho (Vp hd hVi ho hw) (.inr (Xbg (.inl hq))) hr);intro j hj hn;have hjs:j<ops.size:=(h3 j).1 (by simp[hj]);exact hext.2 _ (by have:=hd.hi;omega) hn
    ·exact skip hVi hw hv
   ·obtain⟨v,hv⟩:=hs.als i o ho ho1 ho2 hal;obtain⟨hmu,hp⟩:=hd.pend i o (by simp) ho hal;obtain⟨Vi,hVi,hp⟩:=hp v hv;rcases hp with⟨hw,rfl⟩|⟨hw,ob,mk,hao,rfl,hget,hng⟩
    ·exact skip hVi hw hv
    ·have hrho:=Xgd (fr':=fr') G hd hVi;obtain⟨s,he,o',v',hr,_,hor,hvr⟩:=Ydt (w:=w) C R.base hrho (o:=o) hao;have hle:=Mu.le_add (e:=⟨w.heap.size,0,none,0⟩) hmu;have R1:Yr (μ.add (base+i) ⟨w.heap.size,0,none,0⟩) B A (w.alloc o').heap:=R.map hmu (by have:=hd.hi;omega) rfl rfl (fun g hg=>by cases hg) (fun o2 ho2=>by
      rw[hget]at ho2;injection ho2 with ho2;subst ho2;exact hor _ hle)
     refine go (μ1:=μ.add (base+i) ⟨w.heap.size,0,none,0⟩) ⟨hle,?_⟩ ?_ hv (hvr _ _ (by simp)) R1 ((Below.refl _ _).alloc R.base _)
      (Xf5 hm ht ho (Vp hd hVi ho hw) (.inr (Xbg (.inr hal))) (v:=v') (w':=w.alloc o') (by rw[he];simp[hr]))
     ·intro b hb hn;rw[Mu.add,if_neg (by have:=hd.lo;omega)];exact hn
     ·intro j hj hn;have hne:j≠i:=by
       rintro rfl;have:=h2.sublist (List.sublist_append_right _ _);exact(List.nodup_cons.1 this).1 hj
      rw[Mu.add,if_neg (by omega)];exact hn
end
section
variable {P:Program} {T:Tab} {B:Nat} {cs0:List Frame}
theorem Xr3{vars:List (Option Value)}{over:List (Nat×Value)}{t u:Nat}{v x:Value}(h:Gn (Xko vars over t v).1 (Xko vars over t v).2 u=some x):(u=t∧x=v)∨(u≠t∧Gn vars over u=some x):=by
 by_cases e:u=t
 ·subst e;left;refine⟨rfl,?_⟩;unfold Xko at h;split at h
  ·rename_i o ho;rw[YH]at ho;have hl:=(List.getElem?_eq_some_iff.1 ho).1;simp only[Gn,YH,Hm,List.getElem?_set,hl]at h;simp at h;exact h.symm
  ·rename_i hn;simp only[Gn,hn,YV]at h;simp at h;exact h.symm
 ·right;refine⟨e,?_⟩;unfold Xko at h;split at h
  ·simp only[Gn,YH,Hm,List.getElem?_set]at h⊢;simpa[Ne.symm e]using h
  ·simp only[Gn,YV]at h⊢;simpa[Ne.symm e]using h
theorem Xnl{fr fr1:Xt}{t:Tmp}{v:Value}(h:fr.put (some t) v=some fr1):
  fr1= {fr with vars:=fr1.vars,over:=fr1.over}∧∀u x,Gn fr1.vars fr1.over u=some x→(u=t∧x=v)∨(u≠t∧Gn fr.vars fr.over u=some x):=by
 have h:(match Nat.blt t fr.nt,Xko fr.vars fr.over t v with|true,(vs,ov)=>some {fr with vars:=vs,over:=ov}|false,_=>none)=some fr1:=h;split at h
 ·rename_i vs ov _ he;injection h with h;subst h;refine⟨rfl,fun u x hu=>?_⟩;refine Xr3 ?_;rw[he];exact hu
 ·cases h
theorem Xvb{V:List (Nat×Value)}{Q:Nat→Value→Prop}:∀{ds:List (Nat×Nat)} {fr fr1:Xt},Xjz V ds fr=some fr1→
  (∀u v,Gn fr.vars fr.over u=some v→(∀j,(u,j)∉ds)→Q u v)→(∀d j v,(d,j)∈ds→XK V j=some v→Q d v)→
  (∀u v,Gn fr1.vars fr1.over u=some v→Q u v)∧fr1= {fr with vars:=fr1.vars,over:=fr1.over}:=by
 intro ds
 induction ds with
 |nil=>
  intro fr fr1 h h1 _;injection h with h;subst h;exact⟨fun u v hu=>h1 u v hu (fun j hj=>by cases hj),rfl⟩
 |cons p ds ih=>
  obtain⟨d,j⟩:=p;intro fr fr1 h h1 h2;unfold Xjz at h;split at h
  case h_2=>cases h
  rename_i v hv;split at h
  case h_2=>cases h
  rename_i fr2 hp;obtain⟨e,hg⟩:=Xnl hp;obtain⟨a,b⟩:=ih h (fun u x hu hn=>by
   rcases hg u x hu with⟨rfl,rfl⟩|⟨hne,hu⟩
   ·exact h2 u j x (by simp) hv
   ·refine h1 u x hu fun j' hj'=>?_;rcases List.mem_cons.1 hj' with e|hj'
    ·injection e with e _;exact hne e
    ·exact hn j' hj') (fun d' j' v' hm hv'=>h2 d' j' v' (by simp[hm]) hv')
  refine⟨a,?_⟩;rw[b,e]
theorem Xyu{μ:Mu}{A:Xm}{lo hi:Nat}{fr fr1:Xt}{ops:Array Oper}{t:Nat}{V:List (Nat×Value)}{base:Nat}{tm:Array Value}{k:List Ye}
  (h:Xae T μ A lo hi fr.nt fr.vars fr.over ops t V base [] tm) (hf:Xjz V (X0 ops.toList).dsts {fr with todo:=k}=some fr1):
  Xd8 μ fr.nt fr1.vars fr1.over tm∧fr1= {fr with vars:=fr1.vars,over:=fr1.over,todo:=k}:=by
 obtain⟨a,b⟩:=Xvb (Q:=fun u v=>∃v',tm[u]? =some v'∧XH μ v v') hf (fun u v hu hn=>h.old u v hu (fun k' hk'=>absurd ((GB (KS h.ok).2.2.1).2 hk') (hn k')))
  (fun d j v hm hv=>by
   obtain⟨o,_,ho,hd⟩:=HM.1 hm;obtain⟨v2,x,y⟩:=h.done j o (by simp) (by simpa using ho);rw[hv]at x;injection x with x;subst x;exact y d hd)
 exact⟨⟨h.nt,a⟩,b⟩
theorem Xa6{A:Xm}{ev:Operand→Option Value}{o:Op}{r:Kv}(h:aop T A ev o=some r)(hr:∀d,r≠ .defer d):∀c,o≠ .defer c:=by
 rintro c rfl;have h:Xcp ev c=some r:=h;unfold Xcp at h;split at h
 ·split at h
  ·injection h with h;exact hr _ h.symm
  ·cases h
 ·cases h
theorem Xq1{μ:Mu}{A:Xm}{lo hi nt:Nat}{vars:List (Option Value)}{over:List (Nat×Value)}{ops:Array Oper}{t:Nat}{V:List (Nat×Value)}{base:Nat}{rest:List Nat}{tm:Array Value}
  (h:Xae T μ A lo hi nt vars over ops t V base rest tm) (he:rest=[]∨∃c r,rest=c::r∧mem c (X0 ops.toList).chain=true):
  (nth (X0 ops.toList).chain t=none→rest=[])∧(∀c,nth (X0 ops.toList).chain t=some c→(∃r,rest=c::r)∧mem c (X0 ops.toList).chain=true):=by
 have hc:=h.chain;constructor
 ·intro hn;rw[YH,List.getElem?_eq_none_iff]at hn;rw[List.drop_eq_nil_of_le hn]at hc;rcases he with he|⟨c,r,rfl,hm⟩
  ·exact he
  ·rw[List.filter_cons,hm]at hc;cases hc
 ·intro c hn;rw[YH]at hn;have hlt:=(List.getElem?_eq_some_iff.1 hn).1;have hd:=List.drop_eq_getElem_cons hlt;rw[(List.getElem?_eq_some_iff.1 hn).2]at hd;rw[hd]at hc;rcases he with rfl|⟨c',r,rfl,hm⟩
  ·cases hc
  ·rw[List.filter_cons,hm]at hc;simp only[if_true]at hc;injection hc with hc _;subst hc;exact⟨⟨r,rfl⟩,hm⟩
theorem Xzz(C:Y0 P T){μ:Mu}{s:ASt}{fr':Frame}{cs':List Frame}{w:World}{lo:Nat}(R:Yr μ B s.A w.heap)(G:Xrl μ T.nglob)(hlo:lo≤s.A.next)(hs:Stack T μ s.A lo s.cs cs')
  {ops:Array Oper} {t:Nat} {V:List (Nat×Value)} {base:Nat} {k:List Ye} {rest:List Nat} {k':List Item} (core:Xwi μ s.fr fr') (run:s.fr.mode= .run)
  (h2:fr'.todo= .inRegion ops rest::k') (h3:Jx μ k k') (h4:Xae T μ s.A lo s.A.next s.fr.nt s.fr.vars s.fr.over ops t V base rest fr'.tmps):
  Out P T B cs0 fr' cs' w (Ydw T s ops t V base k):=by
 unfold Ydw;split
 case h_2=>trivial
 rename_i A1 V1 hsl;obtain⟨hd1,R1,hso,hnx,hkept⟩:=Ya9 h4 R (Nat.le_refl _) hsl;have hrun:fr'.mode= .run:=by
  have:=core.mode;rw[run]at this;generalize fr'.mode=mm at this;cases this;rfl
 obtain⟨μ1,tm,w1,rest1,hext,hst,hb,hd2,R2,hend⟩:=Xs6 (cs:=cs'++cs0) C (by rw[hnx];exact Nat.le_refl _) hso rest hrun h2 hd1 R1 G;have hs2:Stack T μ1 A1 lo s.cs cs':=hs.mono hext hkept (Nat.le_refl _);have G1:=G.mono hext.1;obtain⟨ch1,ch2⟩:=Xq1 hd2 hend;have core2:∀{μ2:Mu} {fr1:Xt} {tm2:Array Value} {td:List Item},Mu.Le μ1 μ2→fr1.fn=s.fr.fn→fr1.kind=s.fr.kind→fr1.roundOf=s.fr.roundOf→fr1.defers=s.fr.defers→fr1.mode=s.fr.mode→Xwi μ2 fr1 {fr' with tmps:=tm2,todo:=td}:=by
  intro μ2 fr1 tm2 td hle e1 e2 e3 e4 e5;have c:=core.mono (hext.1.trans hle);exact⟨by rw[e1];exact c.fn,by rw[e2];exact c.kind,by rw[e3];exact c.round,by rw[e4];exact c.defers,by rw[e5];exact c.mode⟩
 split
 ·
  rename_i hn;have:=ch1 hn;subst this;split
  case h_2=>trivial
  rename_i fr1 hf;obtain⟨ht,he⟩:=Xyu hd2 hf;have e1:fr1.fn=s.fr.fn∧fr1.kind=s.fr.kind∧fr1.roundOf=s.fr.roundOf∧fr1.defers=s.fr.defers∧fr1.mode=s.fr.mode∧fr1.todo=k∧fr1.nt=s.fr.nt:=by rw[he];simp
  refine⟨μ1,{fr' with tmps:=tm,todo:=k'},cs',w1,⟨R2,G1,lo,by show lo≤A1.next;rw[hnx];exact hlo, .plain ⟨core2 (Mu.Le.refl _) e1.1 e1.2.1 e1.2.2.1 e1.2.2.2.1 e1.2.2.2.2.1,?_,?_⟩,hs2⟩,hst.trans ?_,hb⟩
  ·rw[e1.2.2.2.2.2.2];exact ht
  ·intro _;rw[e1.2.2.2.2.2.1];exact h3.mono hext.1
  ·refine .one (step_lone_go ?_);simp[stepG,stepG.exec,hrun]
 ·rename_i c hn;obtain⟨⟨r,rfl⟩,hmem⟩:=ch2 c hn;split
  case h_2=>trivial
  rename_i o ho;have ho:ops[c]? =some o:=by rw[YH]at ho;simpa using ho
  split
  ·
   rename_i hw hno;have hst2:=Zk (P:=P) (fr:={fr' with tmps:=tm,todo:= .inRegion ops (c::r)::k'}) (cs:=cs'++cs0) (w:=w1) hrun rfl ho (Vp hd2 (Sub.refl _) ho hw);rw[Ji rfl ho]at hst2;have hd3:=hd2.exec ho (v:=undef) (v':=undef) (XE.tuple .nil) (.inl ⟨hmem,rfl⟩) (.inr ⟨rfl,hno⟩);exact⟨μ1,_,cs',w1,⟨R2,G1,lo,by show lo≤A1.next;rw[hnx];exact hlo, .draw (core2 (Mu.Le.refl _) rfl rfl rfl rfl rfl) run rfl rfl (h3.mono hext.1) (by show Xae _ _ _ _ A1.next _ _ _ _ _ _ _ _ _;rw[hnx];exact hd3),hs2⟩,hst.trans hst2,hb⟩
  ·rename_i hw hno;have hwt:=Vp hd2 (Sub.refl _) ho hw;have hrho:=Xgd (fr':={fr' with tmps:=tm,todo:= .inRegion ops (c::r)::k'}) G1 hd2 (Sub.refl _);split
   ·rename_i v A hop;obtain⟨v',w2,μ2,hr,hext2,R3,hvr,hb2,hkeep⟩:=Xka C R2 hrho (o:=o) hop;have hst2:=Xf5 (P:=P) (fr:={fr' with tmps:=tm,todo:= .inRegion ops (c::r)::k'}) (cs:=cs'++cs0) (w:=w1) hrun rfl ho hwt (.inr (Xa6 hop nofun)) hr;rw[Ji rfl ho]at hst2;have hd3:=(hd2.mono (by rw[hnx]at hext2;exact hext2) (hkeep.kept _) (by have:=hkeep.1;rw[hnx]at this;exact this)).exec ho hvr (.inl ⟨hmem,rfl⟩) (.inr ⟨rfl,hno⟩);refine⟨μ2,_,cs',w2,⟨R3,G1.mono hext2.1,lo,?_, .draw (core2 hext2.1 rfl rfl rfl rfl rfl) run rfl rfl (h3.mono (hext.1.trans hext2.1)) hd3,hs2.mono (hext2.le ?_) (hkeep.kept _) (Nat.le_refl _)⟩,hst.trans hst2,hb.trans hb2⟩
    ·show lo≤A.next
     have:=hkeep.1;rw[hnx]at this;omega
    ·rw[hnx];exact hlo
   ·rename_i A hop;obtain⟨w2,hr,R3,hb2,hkeep⟩:=Xka C R2 hrho (o:=o) hop;have hst2:Steps P (lone {fr' with tmps:=tm,todo:= .inRegion ops (c::r)::k'} (cs'++cs0) w1) (lone (({fr' with tmps:=tm,todo:= .inRegion ops (c::r)::k'}:Frame).finish undef) (cs'++cs0) w2):=by
     refine .one (step_lone_go ?_);rw[ZA (fr:={fr' with tmps:=tm,todo:= .inRegion ops (c::r)::k'}) hrun rfl ho hwt (.inr (Xa6 hop nofun))];simp only[stepG.apply,Sem.runT_eq,hr,if_true,GStep.bare_after,GStep.bare_go]
    rw[Ji rfl ho]at hst2;have hd3:=(hd2.mono (Mu.Ext.refl _ _) (hkeep.kept _) (by have:=hkeep.1;rw[hnx]at this;exact this)).exec ho (v:=undef) (v':=undef) (XE.tuple .nil) (.inl ⟨hmem,rfl⟩) (.inr ⟨rfl,hno⟩);refine⟨μ1,_,cs',w2,⟨R3,G1,lo,?_, .draw (core2 (Mu.Le.refl _) rfl rfl rfl rfl rfl) run rfl rfl (h3.mono hext.1) hd3,hs2.mono (Mu.Ext.refl _ _) (hkeep.kept _) (Nat.le_refl _)⟩,hst.trans hst2,hb.trans hb2⟩
    show lo≤A.next
    have:=hkeep.1;rw[hnx]at this;omega
   ·rename_i f args hop;obtain⟨args',hr,hargs,_⟩:=Xka C R2 hrho (o:=o) hop;split
    case h_2=>trivial
    rename_i fr1 hen;refine⟨μ1,Frame.enter P f args' .normal,{fr' with tmps:=tm,todo:= .inRegion ops (c::r)::k'}::cs',w1,⟨R2,G1,A1.next,Nat.le_refl _, .plain (Xb8 C hargs hen), .cons ?_ ?_ hs2⟩,hst.trans ?_,hb⟩
    ·exact .wait (core2 (Mu.Le.refl _) rfl rfl rfl rfl rfl) run rfl rfl (h3.mono hext.1) hn (by rw[hnx];exact hd2)
    ·rw[hnx];exact hlo
    ·refine .one (step_lone_go ?_);rw[ZA (fr:={fr' with tmps:=tm,todo:= .inRegion ops (c::r)::k'}) hrun rfl ho hwt (.inr (Xa6 hop nofun))];simp only[stepG.apply,Sem.runT_eq,hr,if_true,GStep.bare_after,GStep.bare_go];rfl
   ·exact True.intro
  ·exact True.intro
end
section
variable {P:Program} {T:Tab} {B:Nat} {cs0:List Frame}
theorem Xw5{μ:Mu}{m:H8}{m':FrameMode}(h:VH μ m m')(e:m= .run):m'= .run:=by
 cases h with
 |run=>rfl
 |_=>cases e
theorem Z4{μ:Mu}{A:Xm}{lo hi:Nat}{c c1:Xt}{c':Frame}(h:Ygn T μ A lo hi c c'){v v':Value}(hv:XH μ v v')(hf:c.drawFinish v=some c1):Yat T μ A lo hi c1 (c'.finish v'):=by
 cases h with
 |plain h=>
  unfold Xt.drawFinish at hf;split at hf
  ·rename_i ops t V base k hm ht;have htd:=h.todo hm;rw[ht]at htd;obtain⟨y,k',_,hy,_⟩:=htd.cons_left;cases hy
  ·rename_i hm _;exact .plain (Vy h hm hv hf)
  ·cases hf
 | @wait ops t ci V base k rest k' core run h1 h2 h3 hc h4=>
  unfold Xt.drawFinish at hf;rw[run,h1]at hf;simp only[Nat.succ_eq_add_one]at hf;have hcn:nth (VB ops.toList 0) t=some ci:=hc;rw[hcn]at hf;simp only at hf;split at hf
  case h_2=>cases hf
  rename_i hno;injection hf with hf;subst hf;obtain⟨S,_,_,g3⟩:=h4.ord;have hlt:ci<ops.size:=(g3 ci).1 (by simp);obtain⟨o,ho⟩:∃o,ops[ci]? =some o:=⟨_,Array.getElem?_eq_getElem hlt⟩;rw[Ji h2 ho];have hm:mem ci (X0 ops.toList).chain=true:=ZU.2 (by rw[YH]at hc;exact List.mem_of_getElem? hc);exact .draw ⟨core.fn,core.kind,core.round,core.defers,run▸core.mode⟩ rfl rfl rfl h3 (h4.exec ho hv (.inl ⟨hm,rfl⟩) (.inr ⟨rfl,hno⟩))
theorem Xi8{D:DI}:∀{C:List Nat} {c l:Nat},Gz D (c::C)=true→l∈C→∃p∈c::C,before D p l=true:=by
 intro C
 induction C with
 |nil=>intro c l _ h;cases h
 |cons b C ih=>
  intro c l h hl;unfold Gz at h;split at h
  case h_2=>cases h
  rename_i hb;rcases List.mem_cons.1 hl with rfl|hl
  ·exact⟨c,by simp,hb⟩
  ·obtain⟨p,hp,hx⟩:=ih h hl;exact⟨p,by simp at hp⊢;exact .inr hp,hx⟩
theorem Xi7{D:DI}{c:Nat}{C:List Nat}(h:Gz D (c::C)=true):Gz D C=true:=by
 cases C with
 |nil=>rfl
 |cons b C=>
  unfold Gz at h;split at h
  ·exact h
  ·cases h
theorem Xzg{D:DI}:∀{C L:List Nat},Gz D C=true→(∀x∈C,before D x x=false)→C.Nodup→L.Nodup→(∀x,x∈L↔x∈C)→L.Pairwise (fun a b=>before D b a=false)→L=C:=by
 intro C
 induction C with
 |nil=>
  intro L _ _ _ _ hm _;cases L with
  |nil=>rfl
  |cons l L=>have:=(hm l).1 (by simp);cases this
 |cons c C ih=>
  intro L hok hirr hc hl hm hp;cases L with
  |nil=>have:=(hm c).2 (by simp);cases this
  |cons l L=>
   have hlc:l=c:=by
    rcases List.mem_cons.1 ((hm l).1 (by simp))with h|h
    ·exact h
    ·exfalso;obtain⟨p,hpm,hb⟩:=Xi8 hok h;have hne:p≠l:=by
      rintro rfl;rw[hirr p hpm]at hb;cases hb
     rcases List.mem_cons.1 ((hm p).2 hpm)with e|hpL
     ·exact hne e
     ·have:=(List.pairwise_cons.1 hp).1 p hpL;rw[hb]at this;cases this
   subst hlc;rw[ih (Xi7 hok) (fun x hx=>hirr x (by simp[hx])) (List.nodup_cons.1 hc).2 (List.nodup_cons.1 hl).2 ?_ (List.pairwise_cons.1 hp).2];intro x;have:=hm x;simp only[List.mem_cons]at this;constructor
   ·intro h;rcases this.1 (.inr h)with e|h2
    ·subst e;exact absurd h (List.nodup_cons.1 hl).1
    ·exact h2
   ·intro h;rcases this.2 (.inr h)with e|h2
    ·subst e;exact absurd h (List.nodup_cons.1 hc).1
    ·exact h2
theorem Yr.bump{μ:Mu}{A:Xm}{h:Array Obj}(R:Yr μ B A h)(n:Nat):Yr μ B {A with next:=Nat.add A.next n} h:=by
 have hle:A.next≤Nat.add A.next n:=Nat.le_add_right _ _
 refine⟨R.base,R.obj,?_,R.sep,?_,?_⟩
 ·intro b e he;obtain⟨a,b',c,d⟩:=R.dom b e he;exact⟨Nat.lt_of_lt_of_le a hle,b',c,fun g hg=>Nat.lt_of_lt_of_le (d g hg) hle⟩
 ·intro b xs g hb;obtain⟨a,c⟩:=R.memb b xs g hb;exact⟨Nat.lt_of_lt_of_le a hle,c⟩
 ·intro b o hb;exact Nat.lt_of_lt_of_le (R.live b o hb) hle
theorem Xzk{μ:Mu}{A:Xm}{h:Array Obj}(R:Yr μ B A h){nt:Nat}{vars:List (Option Value)}{over:List (Nat×Value)}{tm:Array Value}(ht:Xd8 μ nt vars over tm){ops:Array Oper}(hok:Xc3 ops.toList nt=true){lo:Nat}(hlo:lo≤A.next)
  (A':Xm) (x:Nat):Xae T μ A' lo (Nat.add A.next (len ops.toList)) nt vars over ops 0 [] A.next (Region.schedule true ops x) tm:=by
 obtain⟨h1,h2,h3,h4⟩:=KS hok;have hed:∀j o,ops[j]? =some o→VU o.after.toList j=true:=by
  intro j o ho;have:=(Xat h1 j o (by simpa using ho)).edges;rw[Nat.zero_add]at this;exact this
 obtain⟨s1,s2,s3⟩:=Xcl hed x;have hlen:len ops.toList=ops.size:=by rw[Xbi];simp
 refine⟨hok,ht.1,hlo,?_,⟨[],by simpa using s3,by simpa using s1,by simpa using s2⟩,?_,?_,fun u v hu _=>ht.2 u v hu,?_⟩
 ·rw[hlen];exact Nat.le_refl _
 ·rw[List.drop_zero];refine Xzg h2 ?_ ?_ (s1.sublist List.filter_sublist) ?_ (s3.sublist List.filter_sublist)
  ·intro c hc;obtain⟨o,_,ho,_⟩:=GD.1 hc;have ho:ops[c]? =some o:=by simpa using ho
   cases hb:before (X0 ops.toList) c c with
   |false=>rfl
   |true=>have:=Xdq hok ho hb;omega
  ·exact(Zf ops.toList 0).1.imp (fun h=>by omega)
  ·intro c;rw[List.mem_filter,ZU,s2];constructor
   ·rintro⟨_,h⟩;exact h
   ·intro hc;refine⟨?_,hc⟩;obtain⟨o,_,ho,_⟩:=GD.1 hc;have ho:ops[c]? =some o:=by simpa using ho
    exact(Array.getElem?_eq_some_iff.1 ho).1
 ·intro i o hi ho;exact absurd ((s2 i).2 (Array.getElem?_eq_some_iff.1 ho).1) hi
 ·intro j o _ _ _;refine⟨?_,fun v hv=>by rw[Xdx]at hv;cases hv⟩;cases hm:μ (A.next+j)with
  |none=>rfl
  |some e=>have:=(R.dom _ e hm).1;omega
theorem Xpx(C:Y0 P T){μ:Mu}{A:Xm}{w:World}(R:Yr μ B A w.heap){t:TypeId}{a a':Value}(ha:XH μ a a'){r:Value×Xm}(h:Hg T A t a=some r):
  ∃ad v',a'= .pointer (some ad)∧(loadVar t ad).run P w= .ok v' w∧XH μ r.1 v':=by
 unfold Hg at h;split at h
 ·rename_i b off;cases ha with
  | @ptr _ _ e he=>
  split at h
  ·rename_i ti ht;split at h
   ·rename_i hagg;split at h
    ·rename_i ys hl;injection h with h;subst h;obtain⟨zs,hz,hv,_⟩:=KA P R he hl;refine⟨_, .agg zs,rfl,?_,XE.agg hv⟩;simp[loadVar,C.isAgg ht,hagg,C.sizeOf ht,hz]
    ·cases h
   ·rename_i hagg;split at h
    ·rename_i x xs hl;injection h with h;subst h;have hx:xs=[]:=by
      obtain⟨zs,_,hv,hn⟩:=KA P R he hl;cases xs with
      |nil=>rfl
      |cons y ys=>simp at hn
     subst hx;obtain⟨z,hz,hv⟩:=Xdy P R he hl;refine⟨_,z,rfl,?_,hv⟩;simp only[loadVar,Sem.run_bind,Result.andThen_ok,C.isAgg ht,hagg,Bool.false_eq_true,if_false];exact hz
    ·cases h
  ·cases h
 ·cases h
theorem Xqq{μ:Mu}:∀{l l':List PanicEntry},Km (Xev μ) l l'→Km (Xev μ) (Xmt l) (l'.dropWhile (!·.goexit)):=by
 intro l
 induction l with
 |nil=>intro l' h;rw[h.nil_left];exact .nil
 |cons x l ih=>
  intro l' h;obtain⟨y,o2,rfl,hxy,ho2⟩:=h.cons_left;unfold Xmt;rw[List.dropWhile_cons,List.dropWhile_cons,←hxy.2.2];split
  ·exact ih ho2
  ·exact .cons hxy ho2
theorem Xpg(C:Y0 P T){μ:Mu}{A:Xm}{w:World}(R:Yr μ B A w.heap){fr:Xt}{tm:Array Value}(ht:Xd8 μ fr.nt fr.vars fr.over tm){a:AFn}(ha:T.fn.get fr.fn=some a){vs:List Value}
  (h:GT T A fr a.results=some vs):
  ∃fn v',P.funcs[fr.fn]? =some fn∧(results fn tm).run P w= .ok v' w∧XH μ (tup vs) v':=by
 obtain⟨fn,h1,_,_,h4,_⟩:=C.fn _ a ha;have key:∀(rs:List ResultVar) (vs:List Value),GT T A fr rs=some vs→∃vs',(rs.mapM (fun(r:ResultVar)=>(match r with| .tmp t=>pure (tm.getD t undef)| .cell a t=>do loadVar t (←asAddr (tm.getD a undef)):Sem Value))).run P w= .ok vs' w∧XE μ vs vs':=by
  intro rs
  induction rs with
  |nil=>intro vs h;injection h with h;subst h;exact⟨[],by simp, .nil⟩
  |cons r rs ih=>
   intro vs h;cases r with
   |tmp t=>
    simp only[GT]at h;split at h
    case h_2=>cases h
    rename_i v l hv hl;injection h with h;subst h;obtain⟨vs',g1,g2⟩:=ih l hl;obtain⟨v',g3,g4⟩:=ht.2 t v hv;refine⟨v'::vs',?_, .cons g4 g2⟩;simp only[List.mapM_cons,Sem.run_bind,Sem.run_pure,Result.andThen_ok,Array.getD_eq_getD_getElem?,g3,Option.getD_some];simp only[Array.getD_eq_getD_getElem?]at g1;rw[g1];rfl
   |cell p t=>
    simp only[GT]at h;split at h
    case h_2=>cases h
    rename_i pv hp;split at h
    case h_2=>cases h
    rename_i v A' l hv hl;injection h with h;subst h;obtain⟨vs',g1,g2⟩:=ih l hl;obtain⟨p',g3,g4⟩:=ht.2 p pv hp;obtain⟨ad,v',rfl,g5,g6⟩:=Xpx C R g4 hv;refine⟨v'::vs',?_, .cons g6 g2⟩;simp only[List.mapM_cons,Sem.run_bind,Sem.run_pure,Array.getD_eq_getD_getElem?,g3,Option.getD_some,asAddr,Result.andThen_ok,g5];simp only[Array.getD_eq_getD_getElem?,asAddr]at g1;rw[g1];rfl
 obtain⟨vs',g1,g2⟩:=key _ _ h;rw[←h4]at g1;have hrun:(results fn tm).run P w= .ok (if h:vs'.toArray.size=1 then vs'.toArray[0]else .tuple vs'.toArray) w:=by
  unfold results;rw[Array.mapM_eq_mapM_toList];simp only[Sem.run_bind,Sem.run_map,Sem.run_pure]
  erw [g1]
  rfl
 refine⟨fn,_,h1,hrun,?_⟩;rcases vs with _|⟨v,_|⟨u,vs⟩⟩
 ·rw[g2.nil_left];exact XE.tuple .nil
 ·obtain⟨v',l,rfl,hv,hl⟩:=g2.cons_left;rw[hl.nil_left];simpa[tup]using hv
 ·have hsz:¬vs'.toArray.size=1:=by
   intro e;have hl:=g2.1;simp at e;rw[e]at hl;simp at hl
  rw[dif_neg hsz];exact XE.tuple (by simpa using g2)
end
section
variable {P:Program} {T:Tab} {B:Nat} {cs0:List Frame}
structure Pl(T:Tab)(B:Nat)(μ:Mu)(s:ASt)(fr':Frame)(cs':List Frame)(w:World)(lo:Nat):Prop where
 R:Yr μ B s.A w.heap
 G:Xrl μ T.nglob
 hlo:lo≤s.A.next
 p:Plain μ s.fr fr'
 st:Stack T μ s.A lo s.cs cs'
theorem Pl.frame{μ:Mu}{s:ASt}{fr':Frame}{cs':List Frame}{w:World}{lo:Nat}(h:Pl T B μ s fr' cs' w lo){fr1:Xt}{fr1':Frame}(hp:Plain μ fr1 fr1'){m:Machine}(hst:Steps P m (lone fr1' (cs'++cs0) w)){w0:World}(hb:Below B w0 w):
  ∃μ fr' cs' w',Xoo T B μ {s with fr:=fr1} fr' cs' w'∧Steps P m (lone fr' (cs'++cs0) w')∧Below B w0 w':=
 ⟨μ,fr1',cs',w,⟨h.R,h.G,lo,h.hlo, .plain hp,h.st⟩,hst,hb⟩
theorem Xaq{μ:Mu}{a b:Option Nat}(h:VQ μ a b)(e:a=none):b=none:=by
 cases h with
 |none=>rfl
 |some _=>cases e
theorem Xap{μ:Mu}{a b:Option Nat}(h:VQ μ a b){l:Nat}(e:a=some l):∃en,μ l=some en∧b=some en.blk:=by
 cases h with
 |none=>cases e
 |some h=>injection e with e;subst e;exact⟨_,h,rfl⟩
theorem Xgv{μ:Mu}{A:Xm}{w:World}(R:Yr μ B A w.heap){l:Nat}{L L':Xrn}{e:Ent}(hl:A.heap.get l=some (.loop L))(he:μ l=some e)
  (h1:L'.fn=L.fn) (h2:L'.vars=L.vars) (h3:L'.over=L.over) (h4:L'.nt=L.nt) (h5:L'.params=L.params) (h6:L'.assign=L.assign) (h7:L'.body=L.body) (h8:L'.defers=L.defers):
  ∃r:Loop,w.heap[e.blk]? =some (.loop r)∧r.state=L.st∧r.pending=L.pending∧B≤e.blk∧
   Yr μ B (Xdr A l (.loop L')) (wr w e.blk (.loop {r with state:=L'.st,pending:=L'.pending})).heap∧VI μ A (Xdr A l (.loop L'))∧Below B w (wr w e.blk (.loop {r with state:=L'.st,pending:=L'.pending})):=by
 obtain⟨hg,hB,tm,ed,a,b,c⟩:=R.obj l _ e hl he;have hb:e.blk<w.heap.size:=(R.dom l e he).2.1;obtain⟨x,y,z⟩:=Ht (w:=w) R he hg hB (o:= .loop L') trivial (o':= .loop {state:=L'.st,pending:=L'.pending,fn:=L.fn,tmps:=tm,params:=L.params.toArray,assign:=L.assign,body:=L.body,defers:=ed.blk}) (by
  refine⟨hg,hB,tm,ed,by rw[h8];exact a,by rw[h4,h2,h3];exact b,?_⟩;rw[Ja hb,h1,h5,h6,h7])
 exact⟨_,c,rfl,rfl,hB,x,y,z⟩
theorem Xv5{μ:Mu}{s:ASt}{fr':Frame}{cs':List Frame}{w:World}{lo:Nat}(h:Pl T B μ s fr' cs' w lo){jump:Option Code}{m:Machine}
  (k1:fr'.roundOf=none→(jump=none∨jump=some .ret)→Steps P m (lone {fr' with mode:= .returning} (cs'++cs0) w))
  (k2:∀l v w2,fr'.roundOf=some l→(Instr.endRound l jump).run P w= .ok v w2→∀fr2 cs2 w3,(doReturn P true fr' (cs'++cs0) none v w2).bare= .go {frame:=fr2,callers:=cs2,status:= .running,dying:=none} w3→Steps P m (lone fr2 cs2 w3)):
  (∀s',Xaa s jump= .next s'→Xa9 P T B cs0 m w s')∧(∀l,Xaa s jump≠ .branch l)∧(∀f v,Xaa s jump≠ .done f v):=by
 unfold Xaa;split
 ·rename_i hro;have hro':=Xaq h.p.core.round hro;have hret:Plain μ {s.fr with mode:= .returning} {fr' with mode:= .returning}:=⟨⟨h.p.core.fn,h.p.core.kind,h.p.core.round,h.p.core.defers, .returning⟩,h.p.tm,fun h=>by cases h⟩;split
  ·refine⟨?_,nofun,nofun⟩;intro s' e;injection e with e;subst e;exact h.frame hret (k1 hro' (.inl rfl)) (Below.refl _ _)
  ·refine⟨?_,nofun,nofun⟩;intro s' e;injection e with e;subst e;exact h.frame hret (k1 hro' (.inr rfl)) (Below.refl _ _)
  ·exact⟨nofun,nofun,nofun⟩
 ·rename_i l hro;obtain⟨en,hen,hro'⟩:=Xap h.p.core.round hro;split
  case h_2=>exact⟨nofun,nofun,nofun⟩
  rename_i L c rest hl hcs hkd;split
  case h_2=>exact⟨nofun,nofun,nofun⟩
  rename_i c1 hf;refine⟨?_,nofun,nofun⟩;intro s' e;injection e with e;subst e;have hst:=h.st;rw[hcs]at hst;generalize hcs':cs'=cs2 at hst;cases hst with
  | @cons lo2 _ _ c' _ cs2' hc hle ht=>
  subst hcs';obtain⟨r,g1,g2,g3,g4,g5,g6,g7⟩:=Xgv (L':={L with st:=(if jump.isNone then .ready else .done),pending:=jump}) h.R hl hen rfl rfl rfl rfl rfl rfl rfl rfl;have hrun:=run_endRound (P:=P) jump g1;have hfr:=Z4 hc (.bool _) hf;have hfr2:Yat T μ (Xdr s.A l (.loop {L with st:=(if jump.isNone then .ready else .done),pending:=jump})) lo2 lo c1 (c'.finish (.bool jump.isNone)):=by
   cases hfr with
   |plain hp=>exact .plain hp
   |draw core run h1 h2 h3 h4=>exact .draw core run h1 h2 h3 (h4.mono (Mu.Ext.refl _ _) (g6.kept _) (Nat.le_refl _))
  have hfr3:Yat T μ (Xdr s.A l (.loop {L with st:=(if jump.isNone then .ready else .done),pending:=jump})) lo2 s.A.next c1 (c'.finish (.bool jump.isNone)):=by
   cases hfr2 with
   |plain hp=>exact .plain hp
   |draw core run h1 h2 h3 h4=>exact .draw core run h1 h2 h3 ⟨h4.ok,h4.nt,h4.lo,Nat.le_trans h4.hi h.hlo,h4.ord,h4.chain,h4.done,h4.old,h4.pend⟩
  refine⟨μ,c'.finish (.bool jump.isNone),cs2',_,⟨g5,h.G,lo2,Nat.le_trans hle h.hlo,hfr3,ht.mono (Mu.Ext.refl _ _) (g6.kept _) (Nat.le_refl _)⟩,?_,g7⟩;refine k2 _ _ _ hro' hrun _ _ _ ?_;have hkd':fr'.kind= .normal:=by rw[h.p.core.kind,hkd]
  simp[doReturn,hkd'];rfl
theorem Yat.up{μ:Mu}{A:Xm}{lo hi hi':Nat}{fr:Xt}{fr':Frame}(h:Yat T μ A lo hi fr fr')(hh:hi≤hi'):Yat T μ A lo hi' fr fr':=by
 cases h with
 |plain hp=>exact .plain hp
 |draw core run h1 h2 h3 h4=>exact .draw core run h1 h2 h3 ⟨h4.ok,h4.nt,h4.lo,Nat.le_trans h4.hi hh,h4.ord,h4.chain,h4.done,h4.old,h4.pend⟩
theorem Xic{over:List (Nat×Value)}:∀t v,XK (Jb over) t=some v→XK over t=some v:=by
 intro t v h;unfold Jb at h;split at h
 ·rename_i a b c d l;obtain⟨a1,a2⟩:=a;obtain⟨b1,b2⟩:=b;obtain⟨c1,c2⟩:=c;obtain⟨d1,d2⟩:=d;simp only[YV,Xdx]at h⊢;split at h
  ·rename_i e;rw[if_pos e];exact h
  ·rename_i e;rw[if_neg e];split at h
   ·rename_i e;rw[if_pos e];exact h
   ·rename_i e;rw[if_neg e];split at h
    ·rename_i e;rw[if_pos e];exact h
    ·rename_i e;rw[if_neg e];split at h
     ·rename_i e;rw[if_pos e];exact h
     ·cases h
 ·exact h
theorem Xba{μ:Mu}{fr:Xt}{fr':Frame}{ops:Array Oper}(hp:Plain μ fr fr'){o:Oper}{b:Bool}(h:GS fr ops.toList o=some b):Region.wanted o (yielded ops fr'.tmps)=b:=by
 unfold GS at h;unfold Region.wanted;split at h
 ·rename_i hg;injection h with h;subst h;simp[hg]
 ·rename_i g want hg;rw[hg];split at h
  case h_2=>cases h
  rename_i og hog;have hog:ops[g]? =some og:=by rw[YH]at hog;simpa using hog
  split at h
  case h_2=>cases h
  rename_i t hd;cases hv:Gn fr.vars fr.over t with
  |none=>rw[hv]at h;cases want<;>cases h
  |some u=>
   rw[hv]at h;obtain⟨u',e,f⟩:=hp.tm.2 t u hv;exact Xm9 hog hd e f h
end
section
variable {P:Program} {T:Tab} {B:Nat} {cs0:List Frame}
theorem Xnq{fr':Frame}{cs':List Frame}{w:World}{o:XG}(h:(∀s',o= .next s'→Xa9 P T B cs0 (lone fr' (cs'++cs0) w) w s')∧(∀l,o= .branch l→∃s'∈l,Xa9 P T B cs0 (lone fr' (cs'++cs0) w) w s')∧∀f v,o≠ .done f v):Out P T B cs0 fr' cs' w o:=by
 cases o with
 |next s'=>exact h.1 s' rfl
 |branch l=>exact h.2.1 l rfl
 |done f v=>exact absurd rfl (h.2.2 f v)
 |stuck=>exact True.intro
theorem Ybl{fr':Frame}{cs':List Frame}{w:World}{o:XG}(h:(∀s',o= .next s'→Xa9 P T B cs0 (lone fr' (cs'++cs0) w) w s')∧(∀l,o≠ .branch l)∧∀f v,o≠ .done f v):Out P T B cs0 fr' cs' w o:=
 Xnq ⟨h.1,fun l e=>absurd e (h.2.1 l),h.2.2⟩
theorem Xda{μ:Mu}{s:ASt}{fr':Frame}{cs':List Frame}{w:World}{lo:Nat}(h:Pl T B μ s fr' cs' w lo)(hrun:fr'.mode= .run){jump:Option Code}
  (hx:(jump=none∧fr'.todo=[])∨(∃k,jump=some .ret∧fr'.todo= .code .ret::k)∨∃id k,jump=some (.exit id)∧fr'.todo= .code (.exit id)::k∧exitTo id k=none):
  Out P T B cs0 fr' cs' w (Xaa s jump):=by
 refine Ybl (Xv5 h ?_ ?_)
 ·intro hro hj;refine .one (step_lone_go ?_);rcases hx with⟨rfl,ht⟩|⟨k,rfl,ht⟩|⟨id,k,rfl,ht,he⟩
  ·simp[stepG,stepG.exec,hrun,ht,hro]
  ·simp[stepG,stepG.exec,hrun,ht,hro]
  ·rcases hj with hj|hj<;>cases hj
 ·intro l v w2 hro hr fr2 cs2 w3 hd;refine .one (step_lone_go ?_);rcases hx with⟨rfl,ht⟩|⟨k,rfl,ht⟩|⟨id,k,rfl,ht,he⟩
  ·simp only[stepG,stepG.exec,hrun,ht,hro,Sem.runT_eq,hr,GStep.bare_after];exact hd
  ·simp only[stepG,stepG.exec,hrun,ht,hro,Sem.runT_eq,hr,GStep.bare_after];exact hd
  ·simp only[stepG,stepG.exec,hrun,ht,hro,he,Option.elim,Sem.runT_eq,hr,GStep.bare_after];exact hd
theorem Xjx{w:World}{l₀:Nat}{r₀:Loop}(h:w.heap[l₀]? =some (.loop r₀))(fn:FuncId)(tmps:Array Value)(ps:Array Tmp)(assign body:Code):
  (Instr.enterLoop fn tmps ps assign body (some l₀)).run P w= .ok (w.heap.size,[]) (w.alloc (.loop {state:= .ready,pending:=none,fn,tmps,params:=ps,assign,body,defers:=r₀.defers})):=by
 unfold Instr.enterLoop;simp only[Sem.run_bind,run_getLoop h,run_newObj,Result.andThen,Sem.run_pure];rfl
theorem Xz0(C:Y0 P T){μ:Mu}{s:ASt}{fr':Frame}{cs':List Frame}{w:World}{lo:Nat}(h:Pl T B μ s fr' cs' w lo)(hrn:s.fr.mode= .run)(hrun:fr'.mode= .run){c:Code}{k:List Ye}
  (ht:s.fr.todo= .code c::k):Out P T B cs0 fr' cs' w (Xrk T s c k):=by
 obtain⟨k',ht',hk⟩:∃k',fr'.todo= .code c::k'∧Jx μ k k':=by
  have:=h.p.todo hrn;rw[ht]at this;obtain⟨y,k',a,b,d⟩:=this.cons_left;cases b;exact⟨k',a,d⟩
 have hc:=h.p.core;have to:∀{td:List Ye} {td':List Item},Jx μ td td'→
   (stepG P true {frame:=fr',callers:=cs'++cs0,status:= .running,dying:=none} w).bare= .go {frame:={fr' with todo:=td'},callers:=cs'++cs0,status:= .running,dying:=none} w→
   Out P T B cs0 fr' cs' w (.next {s with fr:={s.fr with todo:=td}}):=by
  intro td td' htd hst;exact h.frame (fr1:={s.fr with todo:=td}) (fr1':={fr' with todo:=td'}) ⟨⟨hc.fn,hc.kind,hc.round,hc.defers,hc.mode⟩,h.p.tm,fun _=>htd⟩ (.one (step_lone_go hst)) (Below.refl _ _)
 cases c with
 |skip=>exact to hk (by simp[stepG,stepG.exec,hrun,ht'])
 |label l=>exact to hk (by simp[stepG,stepG.exec,hrun,ht'])
 |seq a b=>exact to (.cons (.code a) (.cons (.code b) hk)) (by simp[stepG,stepG.exec,hrun,ht'])
 |cond c a b=>
  have hrho:=ZH (fr':=fr') h.G h.p.tm
  show Out P T B cs0 fr' cs' w (Ydx T s c a b k)
  unfold Ydx;split
  ·rename_i hv;have:=hrho _ _ hv;generalize he:fr'.eval c=ev at this;cases this;exact to (.cons (.code a) hk) (by simp[stepG,stepG.exec,hrun,ht',he])
  ·rename_i hv;have:=hrho _ _ hv;generalize he:fr'.eval c=ev at this;cases this;exact to (.cons (.code b) hk) (by simp[stepG,stepG.exec,hrun,ht',he])
  ·exact True.intro
 |block id b=>exact to (.cons (.code b) (.cons (.inBlock id) hk)) (by simp[stepG,stepG.exec,hrun,ht'])
 |loop b=>exact to (.cons (.code b) (.cons (.inLoop b) hk)) (by simp[stepG,stepG.exec,hrun,ht'])
 |scope b=>exact to (.cons (.code b) (.cons (.inScope b) hk)) (by simp[stepG,stepG.exec,hrun,ht'])
 |exit id=>
  obtain⟨e1,e2⟩:=Yct (id:=id) hk
  show Out P T B cs0 fr' cs' w (Xv7 s id k)
  unfold Xv7;split
  ·rename_i r hr;obtain⟨r',hr',hrr⟩:=e1 r hr;exact to hrr (by simp[stepG,stepG.exec,hrun,ht',hr'])
  ·rename_i hn;exact Xda h hrun (.inr (.inr ⟨id,k',rfl,ht',e2 hn⟩))
 |ret=>exact Xda h hrun (.inr (.inl ⟨k',rfl,ht'⟩))
 |region id ops draw=>
  cases draw with
  |false=>
   have htr:Xd8 μ s.fr.nt s.fr.vars (Jb s.fr.over) fr'.tmps:=h.p.tm.drop Xic;refine h.frame (fr1:={s.fr with over:=Jb s.fr.over,todo:= .inRegion ops ops.toList::k}) (fr1':={fr' with todo:= .inRegion ops (List.range ops.size)::k'}) ⟨⟨hc.fn,hc.kind,hc.round,hc.defers,hc.mode⟩,htr,fun _=> .cons ?_ hk⟩ (.one (step_lone_go (by simp[stepG,stepG.exec,hrun,ht']))) (Below.refl _ _);have:=Ku.inRegion (μ:=μ) (ops:=ops) (i:=0) (Nat.zero_le _);simpa[List.range_eq_range']using this
  |true=>
   show Out P T B cs0 fr' cs' w (Ydv s ops k)
   unfold Ydv;split
   case h_2=>exact True.intro
   rename_i hok;have htr:Xd8 μ s.fr.nt s.fr.vars (Jb s.fr.over) fr'.tmps:=h.p.tm.drop Xic;have hd:=Xzk (T:=T) h.R htr hok h.hlo {s.A with next:=Nat.add s.A.next (len ops.toList)} (w.tape w.drawn (.order fr'.fn id));have hle:s.A.next≤Nat.add s.A.next (len ops.toList):=Nat.le_add_right _ _
   refine⟨μ,{fr' with todo:= .inRegion ops (Region.schedule true ops (w.tape w.drawn (.order fr'.fn id)))::k'},cs',{w with drawn:=w.drawn+1},
    ⟨h.R.bump _,h.G,lo,Nat.le_trans h.hlo hle, .draw ⟨hc.fn,hc.kind,hc.round,hc.defers,hc.mode⟩ ?_ rfl rfl hk hd,?_⟩, .one (step_lone_go ?_),(Below.refl _ _).drew⟩
   ·have:=hc.mode;rw[hrun]at this
    show s.fr.mode= .run
    generalize s.fr.mode=mm at this;cases this;rfl
   ·exact h.st.mono (Mu.Ext.refl _ _) (fun b o _ _ ho _=>ho) (Nat.le_refl _)
   ·simp[stepG,stepG.exec,hrun,ht',choose,Sem.run,Question.forced,Question.cut,C.mixed]
 |rangeFunc f params assign body=>
  show Out P T B cs0 fr' cs' w (aRF T s f params assign body k)
  unfold aRF;simp only;split
  case h_2=>exact True.intro
  rename_i fv hfv;split
  case h_2=>
   rename_i l hro;obtain⟨en,hen,hro'⟩:=Xap hc.round hro;split
   case h_2=>exact True.intro
   rename_i L0 hl0;split
   case h_2=>exact True.intro
   rename_i r hr;obtain⟨_,hB0,tm0,ed,hed,htr0,hob⟩:=h.R.obj l _ en hl0 hen;obtain⟨R1,K1,B1,E1⟩:=Jw h.R (o:= .loop {st:= .ready,pending:=none,fn:=s.fr.fn,vars:=s.fr.vars,over:=s.fr.over,nt:=s.fr.nt,params:=params.toList,assign:=assign,body:=body,defers:=L0.defers}) trivial
    (o':= .loop {state:= .ready,pending:=none,fn:=fr'.fn,tmps:=fr'.tmps,params,assign,body,defers:=ed.blk}) (fun μ' hm=>⟨rfl,h.R.base,fr'.tmps,ed,hm _ _ hed,h.p.tm.mono hm,by
     rw[heap_alloc_new,hc.fn]⟩)
   have hE:Mu.Le μ (μ.add s.A.next ⟨w.heap.size,0,none,0⟩):=E1.1;have hEx:Mu.Ext lo μ (μ.add s.A.next ⟨w.heap.size,0,none,0⟩):=⟨hE,fun b hb hn=>E1.2 b (Nat.lt_of_lt_of_le hb h.hlo) hn⟩;generalize hμ2:μ.add s.A.next ⟨w.heap.size,0,none,0⟩=μ2 at*
   have hl:μ2 s.A.next=some ⟨w.heap.size,0,none,0⟩:=by rw[←hμ2];simp
   have hfv':=(ZH (fr':=fr') h.G h.p.tm f fv hfv).mono hE;obtain⟨d,g1,g2⟩:=Xgh C R1 hfv' (args':=[.func (.yield w.heap.size) #[] #[]]) (.cons (.yield hl) .nil) hr;have hp2:Plain μ2 {s.fr with todo:= .inRangeFunc s.A.next::k} {fr' with todo:= .inRangeFunc w.heap.size::k'}:=
    ⟨⟨hc.fn,hc.kind,hc.round.mono hE,hc.defers.mono fun _ _=>HA.mono hE,hc.mode.mono hE⟩,h.p.tm.mono hE,fun _=> .cons (Ku.inRangeFunc hl) (hk.mono hE)⟩
   have hst2:Stack T μ2 (YG s.A (.loop {st:= .ready,pending:=none,fn:=s.fr.fn,vars:=s.fr.vars,over:=s.fr.over,nt:=s.fr.nt,params:=params.toList,assign:=assign,body:=body,defers:=L0.defers})) lo s.cs cs':=by
    refine h.st.mono hEx ?_ (Nat.le_refl _);intro b o hb hn ho hg;exact K1.2 b o hn ho (GA hg)
   refine Xnq (Xhs C (s:={fr:={s.fr with todo:= .inRangeFunc s.A.next::k},cs:=s.cs,A:=YG s.A (.loop {st:= .ready,pending:=none,fn:=s.fr.fn,vars:=s.fr.vars,over:=s.fr.over,nt:=s.fr.nt,params:=params.toList,assign:=assign,body:=body,defers:=L0.defers})})
    (sem:=(do let d←resolve ({fr' with todo:= .inRangeFunc w.heap.size::k'}:Frame).eval {callee:= .value f,args:=#[.const (.func (.yield w.heap.size) #[] #[])],argTypes:=#[]} 0;invoke d.target d.args)) R1 (h.G.mono hE) ?_ hp2 hrn hst2 ?_ B1 (ResOk.bind_ok (f:=fun d=>invoke d.target d.args) ?_ g2 rfl))
   ·have:=K1.1;have:=h.hlo
    show lo≤(YG s.A _).next
    omega
   ·intro fr2 cs2 w2 hb;refine .one (step_lone_go ?_);have hrl:=Xjx (P:=P) hob fr'.fn fr'.tmps params assign body;simp only[stepG,stepG.exec,hrun,ht',hro',Sem.runT_eq,hrl,GStep.bare_after];simp only[hrun,hro']at hb;exact hb
   ·simpa[resolve,Frame.eval]using g1
  rename_i hro;have hro':=Xaq hc.round hro;obtain⟨R1,K1,B1,E1⟩:=Jw h.R (o:= .deferred (some [])) trivial (o':= .deferred (some [])) (fun μ' _=>⟨rfl,h.R.base, .inr ⟨[],[],rfl,heap_alloc_new _ _, .nil⟩⟩);have hsz:(w.alloc (.deferred (some []))).heap.size=w.heap.size+1:=by simp
  obtain⟨R2,K2,B2,E2⟩:=Jw R1 (o:= .loop {st:= .ready,pending:=none,fn:=s.fr.fn,vars:=s.fr.vars,over:=s.fr.over,nt:=s.fr.nt,params:=params.toList,assign:=assign,body:=body,defers:=s.A.next}) trivial
   (o':= .loop {state:= .ready,pending:=none,fn:=fr'.fn,tmps:=fr'.tmps,params,assign,body,defers:=w.heap.size}) (fun μ' hm=>⟨rfl,by rw[hsz];exact Nat.le_succ_of_le h.R.base,fr'.tmps,⟨w.heap.size,0,none,0⟩,hm _ _ (by simp),h.p.tm.mono (E1.1.trans hm),by
    rw[heap_alloc_new,hc.fn]⟩)
  split
  case h_2=>exact True.intro
  rename_i r hr;have hE:Mu.Le μ ((μ.add s.A.next ⟨w.heap.size,0,none,0⟩).add (YG s.A (.deferred (some []))).next ⟨(w.alloc (.deferred (some []))).heap.size,0,none,0⟩):=E1.1.trans E2.1;have hEx:Mu.Ext lo μ ((μ.add s.A.next ⟨w.heap.size,0,none,0⟩).add (YG s.A (.deferred (some []))).next ⟨(w.alloc (.deferred (some []))).heap.size,0,none,0⟩):=by
   refine⟨hE,fun b hb hn=>E2.2 b ?_ (E1.2 b (Nat.lt_of_lt_of_le hb h.hlo) hn)⟩;have:=K1.1;have:=h.hlo;omega
  generalize hμ2:(μ.add s.A.next ⟨w.heap.size,0,none,0⟩).add (YG s.A (.deferred (some []))).next ⟨(w.alloc (.deferred (some []))).heap.size,0,none,0⟩=μ2 at*
  have hl:μ2 (YG s.A (.deferred (some []))).next=some ⟨(w.alloc (.deferred (some []))).heap.size,0,none,0⟩:=by rw[←hμ2];simp
  have hd:μ2 s.A.next=some ⟨w.heap.size,0,none,0⟩:=E2.1 _ _ (by simp)
  have hfv':=(ZH (fr':=fr') h.G h.p.tm f fv hfv).mono hE;obtain⟨d,g1,g2⟩:=Xgh C R2 hfv' (args':=[.func (.yield (w.heap.size+1)) #[] #[]]) (.cons (by rw[←hsz];exact .yield hl) .nil) hr;have hp2:Plain μ2 {s.fr with todo:= .inRangeFunc (YG s.A (.deferred (some []))).next::k,defers:={target:= .collected s.A.next,args:=#[]}::s.fr.defers}
    {fr' with todo:= .inRangeFunc (w.heap.size+1)::k',defers:={target:= .collected w.heap.size,args:=#[]}::fr'.defers}:=by
   refine⟨⟨hc.fn,hc.kind,hc.round.mono hE, .cons ⟨.collected hd, .nil⟩ (hc.defers.mono fun _ _=>HA.mono hE),hc.mode.mono hE⟩,h.p.tm.mono hE,fun _=> .cons ?_ (hk.mono hE)⟩;have:=Ku.inRangeFunc hl;rw[hsz]at this;exact this
  have hst2:Stack T μ2 (YG (YG s.A (.deferred (some []))) (.loop {st:= .ready,pending:=none,fn:=s.fr.fn,vars:=s.fr.vars,over:=s.fr.over,nt:=s.fr.nt,params:=params.toList,assign:=assign,body:=body,defers:=s.A.next})) lo s.cs cs':=by
   refine h.st.mono hEx ?_ (Nat.le_refl _);intro b o hb hn ho hg;exact K2.2 b o (E1.2 b (Nat.lt_of_lt_of_le hb h.hlo) hn) (K1.2 b o hn ho (GA hg)) (GA hg)
  refine Xnq (Xhs C (s:={fr:={s.fr with todo:= .inRangeFunc (YG s.A (.deferred (some []))).next::k,defers:={target:= .collected s.A.next,args:=#[]}::s.fr.defers},cs:=s.cs,A:=YG (YG s.A (.deferred (some []))) (.loop {st:= .ready,pending:=none,fn:=s.fr.fn,vars:=s.fr.vars,over:=s.fr.over,nt:=s.fr.nt,params:=params.toList,assign:=assign,body:=body,defers:=s.A.next})})
   (sem:=(do let d←resolve ({fr' with todo:= .inRangeFunc (w.heap.size+1)::k',defers:={target:= .collected w.heap.size,args:=#[]}::fr'.defers}:Frame).eval {callee:= .value f,args:=#[.const (.func (.yield (w.heap.size+1)) #[] #[])],argTypes:=#[]} 0;invoke d.target d.args)) R2 (h.G.mono hE) ?_ hp2 hrn hst2 ?_ (B1.trans B2) (ResOk.bind_ok (f:=fun d=>invoke d.target d.args) ?_ g2 rfl))
  ·have:=K1.1;have:=K2.1;have:=h.hlo
   show lo≤(YG (YG s.A _) _).next
   omega
  ·intro fr2 cs2 w2 hb;refine .one (step_lone_go ?_);have hrl:=run_enterLoop_outer (P:=P) (w:=w) fr'.fn fr'.tmps params assign body;simp only[stepG,stepG.exec,hrun,ht',hro',Sem.runT_eq,hrl,GStep.bare_after];simp only[hrun,hro']at hb;exact hb
  ·simpa[resolve,Frame.eval]using g1
 |goto l=>exact True.intro
 |refuse why=>exact True.intro
end
section
variable {P:Program} {T:Tab} {B:Nat} {cs0:List Frame}
theorem GU(C:Y0 P T){μ:Mu}{s:ASt}{fr':Frame}{cs':List Frame}{w:World}{lo:Nat}(h:Pl T B μ s fr' cs' w lo)(run:s.fr.mode= .run):Out P T B cs0 fr' cs' w (Xd1 T s):=by
 have hrun:=Xw5 h.p.core.mode run;have hc:=h.p.core;have htd:=h.p.todo run;have to:∀{td:List Ye} {td':List Item},Jx μ td td'→
   (stepG P true {frame:=fr',callers:=cs'++cs0,status:= .running,dying:=none} w).bare= .go {frame:={fr' with todo:=td'},callers:=cs'++cs0,status:= .running,dying:=none} w→
   Out P T B cs0 fr' cs' w (.next {s with fr:={s.fr with todo:=td}}):=by
  intro td td' htd hst;exact h.frame (fr1:={s.fr with todo:=td}) (fr1':={fr' with todo:=td'}) ⟨⟨hc.fn,hc.kind,hc.round,hc.defers,hc.mode⟩,h.p.tm,fun _=>htd⟩ (.one (step_lone_go hst)) (Below.refl _ _)
 unfold Xd1;split
 ·rename_i ht;rw[ht]at htd;exact Xda h hrun (.inl ⟨rfl,htd.nil_left⟩)
 ·rename_i it k ht;rw[ht]at htd;cases it with
  |code c=>exact Xz0 C h run hrun ht
  |inBlock id=>
   obtain⟨y,k',ht',hy,hk⟩:=htd.cons_left;cases hy;exact to hk (by simp[stepG,stepG.exec,hrun,ht'])
  |inLoop b=>
   obtain⟨y,k',ht',hy,hk⟩:=htd.cons_left;cases hy;exact to (.cons (.code b) (.cons (.inLoop b) hk)) (by simp[stepG,stepG.exec,hrun,ht'])
  |inScope b=>
   obtain⟨y,k',ht',hy,hk⟩:=htd.cons_left;cases hy;exact to hk (by simp[stepG,stepG.exec,hrun,ht'])
  |inRegion ops rest=>
   cases rest with
   |nil=>
    obtain⟨y,k',ht',hy,hk⟩:=htd.cons_left;have:y= .inRegion ops []:=by
     generalize hx:Ye.inRegion ops []=x at hy;cases hy with
     | @inRegion ops' i hi=>
      injection hx with h1 h2;subst h1;have:=List.drop_eq_nil_iff.1 h2.symm;have:ops.size - i=0:=by simp at this;omega
      rw[this];rfl
     |_=>cases hx
    subst this;exact to hk (by simp[stepG,stepG.exec,hrun,ht'])
   |cons o rest=>
    show Out P T B cs0 fr' cs' w (Xri T s ops o)
    unfold Xri;obtain⟨y,k',ht',hy,hk⟩:=htd.cons_left;obtain⟨i,hi,ho,hr,rfl⟩:=Xdb hy;split
    ·rename_i hw;have hwt:=Xba h.p hw;split
     case h_2=>exact True.intro
     rename_i r hop;by_cases hd:s.fr.roundOf=none∨∀c,o.op≠ .defer c
     ·have hres:=Xka (w:=w) C h.R (ZH (fr':=fr') h.G h.p.tm) hop;refine Xnq (Xhs C h.R h.G h.hlo h.p run h.st ?_ (Below.refl _ _) hres);intro fr2 cs2 w2 hb;refine .one (step_lone_go ?_);rw[ZA hrun ht' ho hwt (hd.imp (Xaq hc.round) id)];exact hb
     ·simp only[not_or,Classical.not_forall,Classical.not_not]at hd;obtain⟨h1,c,h2⟩:=hd;rw[h2]at hop;have hop:Xcp _ c=some r:=hop;have hrd:∃d,r= .defer d:=by
       unfold Xcp at hop;split at hop
       ·split at hop
        ·injection hop with hop;exact⟨_,hop.symm⟩
        ·cases hop
       ·cases hop
      obtain⟨d,rfl⟩:=hrd;cases hro:s.fr.roundOf with
      |none=>exact absurd hro h1
      |some l=>simp only[K4,Xm3,hro];exact True.intro
    ·rename_i hw;have hwt:=Xba h.p hw;split
     case h_2=>exact True.intro
     rename_i fr1 hf;exact h.frame (Vy h.p run (XE.tuple .nil) hf) (Zk hrun ht' ho hwt) (Below.refl _ _)
    ·exact True.intro
  |inDraw ops t V base=>
   obtain⟨y,k',ht',hy,hk⟩:=htd.cons_left;cases hy
  |beginRound=>
   show Out P T B cs0 fr' cs' w (Xv9 s k)
   unfold Xv9;obtain⟨y,k',ht',hy,hk⟩:=htd.cons_left;cases hy;split
   case h_2=>exact True.intro
   rename_i l hro;obtain⟨en,hen,hro'⟩:=Xap hc.round hro;split
   case h_2=>exact True.intro
   rename_i L hl;split
   case h_2=>exact True.intro
   rename_i hst;obtain⟨r,g1,g2,g3,g4,g5,g6,g7⟩:=Xgv (L':={L with st:= .busy}) h.R hl hen rfl rfl rfl rfl rfl rfl rfl rfl;have hrun2:=run_beginRound (P:=P) g1 (by rw[g2];exact hst);refine⟨μ,{fr' with todo:=k'},cs',_,⟨g5,h.G,lo,h.hlo, .plain ⟨⟨hc.fn,hc.kind,hc.round,hc.defers,hc.mode⟩,h.p.tm,fun _=>hk⟩,h.st.mono (Mu.Ext.refl _ _) (g6.kept _) (Nat.le_refl _)⟩, .one (step_lone_go ?_),g7⟩;have hw:w.putObj en.blk (.loop {r with state:= .busy})=wr w en.blk (.loop {r with state:= .busy,pending:=L.pending}):=by rw[←g3];rfl
   rw[hw]at hrun2;simp[stepG,stepG.exec,hrun,ht',stepG.apply,hro',hrun2,Frame.finish]
  |endRangeFunc l=>
   show Out P T B cs0 fr' cs' w (Xv8 s l k)
   unfold Xv8;obtain⟨y,k',ht',hy,hk⟩:=htd.cons_left;cases hy with
   | @endRangeFunc _ en hen=>
   split
   case h_2=>exact True.intro
   rename_i L hl;split
   ·exact True.intro
   rename_i hnb;obtain⟨r,g1,g2,g3,g4,g5,g6,g7⟩:=Xgv (L':={L with st:= .exhausted}) h.R hl hen rfl rfl rfl rfl rfl rfl rfl rfl;have hrun2:=run_endLoop (P:=P) g1 (by rw[g2];exact hnb);have hw:w.putObj en.blk (.loop {r with state:= .exhausted})=wr w en.blk (.loop {r with state:= .exhausted,pending:=L.pending}):=by rw[←g3];rfl
   rw[hw,g3]at hrun2;have hkk:Jx μ (match L.pending with|some c=> .code c::k|none=>k) ((L.pending.map Item.code).toList++k'):=by
    cases L.pending with
    |none=>exact hk
    |some c=>exact .cons (.code c) hk
   refine⟨μ,{fr' with todo:=(L.pending.map Item.code).toList++k'},cs',_,⟨g5,h.G,lo,h.hlo, .plain ⟨⟨hc.fn,hc.kind,hc.round,hc.defers,hc.mode⟩,h.p.tm,fun _=>hkk⟩,h.st.mono (Mu.Ext.refl _ _) (g6.kept _) (Nat.le_refl _)⟩, .one (step_lone_go ?_),g7⟩;simp[stepG,stepG.exec,hrun,ht',hrun2]
  |inRangeFunc l=>exact True.intro
theorem Xnk(m:H8)(vs:List PanicEntry):Xwd m vs≠ .run:=by
 intro h;unfold Xwd at h;split at h<;>cases h
theorem Xaz{u:Nat}{v:Value}:∀{ds:List (Nat×Nat)} {vars:List (Option Value)} {over:List (Nat×Value)},Gn (Xdh ds vars) [] u=some v→(∀k,(u,k)∉ds)∧Gn vars over u=some v:=by
 intro ds
 induction ds with
 |nil=>
  intro vars over h;refine⟨fun k hk=>(by cases hk),?_⟩;have h:(match nth vars u with|some o=>o|none=>XK [] u)=some v:=h
  show(match nth vars u with|some o=>o|none=>XK over u)=some v
  cases ho:nth vars u with
  |some o=>rw[ho]at h;exact h
  |none=>rw[ho]at h;cases h
 |cons p ds ih=>
  obtain⟨d,j⟩:=p;intro vars over h;have h:Gn (Xdh ds (Xp8 none vars d)) [] u=some v:=h;obtain⟨h1,h2⟩:=ih (over:=[]) h;unfold Gn at h2;split at h2
  case h_2=>cases h2
  rename_i o ho;subst h2;rw[YH,Hm,List.getElem?_set]at ho;split at ho
  ·split at ho
   ·cases ho
   ·cases ho
  ·rename_i hne;refine⟨fun k hk=>?_,?_⟩
   ·rcases List.mem_cons.1 hk with e|hk
    ·injection e with e _;exact hne e.symm
    ·exact h1 k hk
   ·unfold Gn;rw[YH,ho]
theorem Xrh(C:Y0 P T){μ:Mu}{s:ASt}{fr':Frame}{cs':List Frame}{w:World}{lo:Nat}(h:Pl T B μ s fr' cs' w lo)(hne:s.fr.mode≠ .run):Out P T B cs0 fr' cs' w (Xhw T s):=by
 have hc:=h.p.core;have hrun:fr'.mode≠ .run:=by
  intro e;have:=hc.mode;rw[e]at this;generalize hm:s.fr.mode=mm at this;cases this;exact hne hm
 have hunw:stepG P true {frame:=fr',callers:=cs'++cs0,status:= .running,dying:=none} w=unwind P true fr' (cs'++cs0) none w:=by
  cases hm:fr'.mode with
  |run=>exact absurd hm hrun
  |_=>simp only[stepG,hm]
 have hdf:=hc.defers;unfold Xhw;split
 ·
  rename_i b args ds hds;rw[hds]at hdf;obtain⟨d',ds',hds',hd',hdd⟩:=hdf.cons_left;obtain⟨tg,ar⟩:=d';obtain⟨ht1,_⟩:=hd';have ht1:Xhy μ (.collected b) tg:=ht1;cases ht1 with
  | @collected _ en hen=>
  split
  case h_2=>exact True.intro
  rename_i calls hb;obtain⟨hg,hB,hx⟩:=h.R.obj b _ en hb hen;rcases hx with⟨hx,_⟩|⟨l,l',hx,hy,hz⟩
  ·cases hx
  injection hx with hx;subst hx;have hlt:en.blk<w.heap.size:=(h.R.dom b en hen).2.1;obtain⟨R1,K1,B1⟩:=Ht (w:=w) h.R hen hg hB (o:= .deferred none) trivial (o':= .deferred none) ⟨hg,hB, .inl ⟨rfl,Ja hlt _⟩⟩;have hrun2:=run_takeDeferred (P:=P) hy;refine⟨μ,{fr' with defers:=l'++ds'},cs',_,⟨R1,h.G,lo,h.hlo, .plain ⟨⟨hc.fn,hc.kind,hc.round,?_,hc.mode⟩,h.p.tm,h.p.todo⟩,h.st.mono (Mu.Ext.refl _ _) (K1.kept _) (Nat.le_refl _)⟩, .one (step_lone_go ?_),B1⟩
  ·show Km (HA μ) (app calls ds) (l'++ds')
   rw[Jp];exact hz.app hdd
  ·rw[hunw];simp only[unwind,hds',Sem.runT_eq,hrun2,GStep.bare_after];rfl
 ·rename_i f captured args ds hds;rw[hds]at hdf;obtain⟨d',ds',hds',hd',hdd⟩:=hdf.cons_left;obtain⟨tg,ar⟩:=d';obtain⟨ht1,ha⟩:=hd';have ht1:Xhy μ (.fn (.func f) captured) tg:=ht1;cases ht1 with
  | @fn _ hy _ ys hcap=>
  split
  case h_2=>exact True.intro
  rename_i fr1 hen;have hfn:∃a,T.fn.get f=some a:=by
   unfold Zi at hen;split at hen
   ·rename_i a ha;exact⟨a,ha⟩
   ·cases hen
  obtain⟨a,hfn⟩:=hfn;have hrun2:=Hc C hfn (ar++ys) w;have hargs:XE μ (app args.toList captured.toList) (ar++ys).toList:=by
   rw[Jp,Array.toList_append];exact ha.app hcap
  have hp1:Plain μ {s.fr with defers:=ds} {fr' with defers:=ds'}:=⟨⟨hc.fn,hc.kind,hc.round,hdd,hc.mode⟩,h.p.tm,h.p.todo⟩;refine⟨μ,Frame.enter P f (ar++ys) .deferred,{fr' with defers:=ds'}::cs',w,⟨h.R,h.G,s.A.next,Nat.le_refl _, .plain (Xb8 C hargs hen), .cons (.plain hp1) h.hlo h.st⟩, .one (step_lone_go ?_),Below.refl _ _⟩;rw[hunw];simp only[unwind,hds',callDeferred];simp[invoke,hrun2]
 ·exact True.intro
 ·rename_i hds;rw[hds]at hdf;have hds':=hdf.nil_left;split
  ·exact True.intro
  ·
   rename_i chain hmode;have hm:=hc.mode;rw[hmode]at hm;generalize hm':fr'.mode=mm at hm;cases hm with
   | @panicking _ chain' hch=>
   split
   case h_2=>exact True.intro
   rename_i c rest a hcs hfn;have hst:=h.st;rw[hcs]at hst;generalize hcs':cs'=cs2 at hst;cases hst with
   | @cons lo2 _ _ c' _ cs2' hcr hle ht=>
   subst hcs';obtain⟨fn,hf,_⟩:=C.fn _ a hfn;rw[←hc.fn]at hf;have hgo:∀{c1:Xt},Plain μ c1 (c'.raise chain')→Xa9 P T B cs0 (lone fr' (c'::cs2'++cs0) w) w {s with fr:=c1,cs:=rest}:=by
    intro c1 hp1;refine⟨μ,c'.raise chain',cs2',w,⟨h.R,h.G,lo2,Nat.le_trans hle h.hlo, .plain hp1,ht⟩, .one (step_lone_go ?_),Below.refl _ _⟩;rw[hunw];simp[unwind,Frame.catches,hds',hm',hf]
   split
   ·rename_i ops t V base k htd;cases hcr with
    |plain hp=>
     have hnr:c.mode≠ .run:=by
      intro hm;have:=hp.todo hm;rw[htd]at this;obtain⟨y,k',_,hy,_⟩:=this.cons_left;cases hy
     have hr:=Zm hp hch;refine hgo ⟨⟨hr.core.fn,hr.core.kind,hr.core.round,hr.core.defers,hr.core.mode⟩,⟨hr.tm.1,fun u v hu=>hr.tm.2 u v ?_⟩,fun hm=>?_⟩
     ·obtain⟨_,hg⟩:=Xaz hu;exact hg
     ·exact absurd hm (Xnk _ _)
    |wait core run h1 h2 h3 hcc h4=>
     rw[htd]at h1;injection h1 with h1 _;injection h1 with e1 e2 e3 e4;subst e1;have hr:=Xe8 core hch;refine hgo ⟨⟨hr.fn,hr.kind,hr.round,hr.defers,hr.mode⟩,⟨?_,fun u v hu=>?_⟩,fun hm=>?_⟩
     ·have:=h4.nt;unfold Frame.raise;split<;>exact this
     ·obtain⟨hno,hg⟩:=Xaz hu;obtain⟨v',x,y⟩:=h4.old u v hg (fun k hk=>absurd ((GB (KS h4.ok).2.2.1).2 hk) (hno k));refine⟨v',?_,y⟩;unfold Frame.raise;split<;>exact x
     ·exact absurd hm (Xnk _ _)
   ·rename_i hnd;cases hcr with
    |wait core run h1=>exact absurd h1 (by intro e;exact hnd _ _ _ _ _ e)
    |plain hp=>exact hgo (Zm hp hch)
  ·rename_i hmode;have hm:=hc.mode;rw[hmode]at hm;generalize hm':fr'.mode=mm at hm;cases hm;split
   ·exact True.intro
   rename_i a hfn;split
   ·exact True.intro
   rename_i vs hvs;obtain⟨fn,v',hf,hres,hv⟩:=Xpg C h.R h.p.tm hfn hvs;rw[←hc.fn]at hf;have hstep:∀{fr2:Frame} {cs2:List Frame} {w3:World},(doReturn P true fr' (cs'++cs0) none v' w).bare= .go {frame:=fr2,callers:=cs2,status:= .running,dying:=none} w3→Steps P (lone fr' (cs'++cs0) w) (lone fr2 cs2 w3):=by
    intro fr2 cs2 w3 hb;refine .one (step_lone_go ?_);rw[hunw];simp only[unwind,hds',hm',hf,Sem.runT_eq,hres,GStep.bare_after];exact hb
   split
   ·rename_i hcs hkd hro;have hst:=h.st;rw[hcs]at hst;generalize hcs':cs'=cs2 at hst;cases hst;exact⟨μ,v',⟨hm',hds',by rw[hc.kind,hkd],fn,hf,hres⟩,hv,hc.fn,rfl⟩
   ·rename_i c rest hcs hkd hro;split
    case h_2=>exact True.intro
    rename_i c1 hfin;have hst:=h.st;rw[hcs]at hst;generalize hcs':cs'=cs2 at hst;cases hst with
    | @cons lo2 _ _ c' _ cs2' hcr hle ht=>
    subst hcs';refine⟨μ,c'.finish v',cs2',w,⟨h.R,h.G,lo2,Nat.le_trans hle h.hlo,(Z4 hcr hv hfin).up h.hlo,ht⟩,hstep ?_,Below.refl _ _⟩;have hkd':fr'.kind= .normal:=by rw[hc.kind,hkd]
    simp[doReturn,hkd']
   ·rename_i c rest hcs hkd hro;have hst:=h.st;rw[hcs]at hst;generalize hcs':cs'=cs2 at hst;cases hst with
    | @cons lo2 _ _ c' _ cs2' hcr hle ht=>
    subst hcs';have hkd':fr'.kind= .deferred:=by rw[hc.kind,hkd]
    have hplain:c.mode≠ .run→Plain μ c c':=by
     intro hn;cases hcr with
     |plain hp=>exact hp
     |wait core run=>exact absurd run hn
    split
    ·rename_i v gx older hcm;have hp:=hplain (by rw[hcm];exact nofun);have hm2:=hp.core.mode;rw[hcm]at hm2;generalize hcm':c'.mode=mm at hm2;cases hm2 with
     |panicking hl2=>
     obtain⟨y,older',rfl,hy,hol⟩:=hl2.cons_left;obtain⟨v2,rc,gx'⟩:=y;obtain⟨hv2,hrc,hgx⟩:=hy;have hrc:true=rc:=hrc;subst hrc;have hdrop:=Xqq hol;split
     ·rename_i hdr;rw[hdr]at hdrop;have hdr':=hdrop.nil_left;refine⟨μ,{c' with mode:= .returning},cs2',w,⟨h.R,h.G,lo2,Nat.le_trans hle h.hlo, .plain ⟨⟨hp.core.fn,hp.core.kind,hp.core.round,hp.core.defers, .returning⟩,hp.tm,fun h=>by cases h⟩,ht⟩,hstep ?_,Below.refl _ _⟩;simp[doReturn,hkd',hcm',hdr']
     ·rename_i hdr;generalize hr':older'.dropWhile (!·.goexit)=r' at hdrop;refine⟨μ,{c' with mode:= .panicking r'},cs2',w,⟨h.R,h.G,lo2,Nat.le_trans hle h.hlo, .plain ⟨⟨hp.core.fn,hp.core.kind,hp.core.round,hp.core.defers, .panicking hdrop⟩,hp.tm,fun h=>by cases h⟩,ht⟩,hstep ?_,Below.refl _ _⟩;have hne:r'≠[]:=by
       rintro rfl;have:=hdrop.1;simp at this;exact hdr this
      cases r' with
      |nil=>exact absurd rfl hne
      |cons x r'=>simp[doReturn,hkd',hcm',hr']
    ·exact True.intro
    ·rename_i hn1 hn2;have hp:=hplain (fun e=>hn2 e);have hcm':∀v gx older,c'.mode≠ .panicking ({v:=v,recovered:=true,goexit:=gx}::older):=by
      intro v gx older e;have hm2:=hp.core.mode;rw[e]at hm2;generalize hcm:c.mode=mm at hm2;cases hm2 with
      | @panicking a _ hl2=>
      cases a with
      |nil=>have:=hl2.1;simp at this
      |cons x a=>
       have hx:=hl2.head;obtain⟨xv,xr,xg⟩:=x;have:xr=true:=hx.2.1;subst this;exact hn1 _ _ _ hcm
     refine⟨μ,c',cs2',w,⟨h.R,h.G,lo2,Nat.le_trans hle h.hlo, .plain hp,ht⟩,hstep ?_,Below.refl _ _⟩;cases hcm2:c'.mode with
     |run=>simp[doReturn,hkd',hcm2]
     |returning=>simp[doReturn,hkd',hcm2]
     |panicking ch=>
      cases ch with
      |nil=>simp[doReturn,hkd',hcm2]
      |cons x ch=>
       obtain⟨x1,x2,x3⟩:=x;cases x2 with
       |true=>exact absurd hcm2 (hcm' _ _ _)
       |false=>simp[doReturn,hkd',hcm2]
   ·exact True.intro
theorem Xof(C:Y0 P T){μ:Mu}{s:ASt}{fr':Frame}{cs':List Frame}{w:World}(h:Xoo T B μ s fr' cs' w):Out P T B cs0 fr' cs' w (Xzo T s):=by
 obtain⟨R,G,lo,hlo,hf,hst⟩:=h;unfold Xzo;split
 ·rename_i run;cases hf with
  |plain hp=>exact GU C ⟨R,G,hlo,hp,hst⟩ run
  |draw core run h1 h2 h3 h4=>
   unfold Xd1;rw[h1];exact Xzz C R G hlo hst core run h2 h3 h4
 ·rename_i hn;cases hf with
  |plain hp=>exact Xrh C ⟨R,G,hlo,hp,hst⟩ hn
  |draw core run=>exact absurd run hn
end
noncomputable section
def K5(T:Tab)(ops:Array Oper)(k:List Ye)(rest:List Oper):ASt→XG:=
 match rest with
 |[]=>fun s=>toS s k
 |o::r=>fun s=>
  match GS s.fr ops.toList o with
  |some true=>
   (match aop T s.A (Xy T.nglob s.fr.vars s.fr.over) o.op with
    |some (.val v A)=>(match s.fr.put o.dst v with|some fr=>K5 T ops k r {s with fr:=fr,A:=A}|none=> .stuck)
    |some (.skip A)=>(match s.fr.put o.dst undef with|some fr=>K5 T ops k r {s with fr:=fr,A:=A}|none=> .stuck)
    |some res=>K4 T {s with fr:={s.fr with todo:= .inRegion ops (o::r)::k}} res
    |none=> .stuck)
  |some false=>(match s.fr.put o.dst undef with|some fr=>K5 T ops k r {s with fr:=fr}|none=> .stuck)
  |none=> .stuck
def Zv(T:Tab)(c:Code):ASt→List Ye→XG:=
 match c with
 | .seq a b=>fun s k=>Zv T a s (.code b::k)
 | .cond x a b=>fun s k=>(match Xy T.nglob s.fr.vars s.fr.over x with|some (.bool true)=>Zv T a s k|some (.bool false)=>Zv T b s k|_=> .stuck)
 | .block id b=>fun s k=>Zv T b s (.inBlock id::k)
 | .loop b=>fun s k=>Zv T b s (.inLoop b::k)
 | .scope b=>fun s k=>Zv T b s (.inScope b::k)
 | .region _ ops false=>fun s k=>K5 T ops k ops.toList {s with fr:={s.fr with over:=Jb s.fr.over}}
 |c=>fun s k=>Xrk T {s with fr:={s.fr with todo:= .code c::k}} c k
def Yfv(T:Tab)(s:ASt):XG:=
 match s.fr.todo with
 | .code c::k=>Zv T c s k
 | .inRegion ops rest::k=>K5 T ops k rest s
 | .inBlock _:: .code c::k=>Zv T c s k
 | .inLoop b::k=>Zv T b s (.inLoop b::k)
 |_=>Xd1 T s
def GJ(T:Tab)(s:ASt):XG:=
 match s.fr.mode with
 | .run=>Yfv T s
 |_=>Xhw T s
def Yhr(n:Nat)(k:Nat→ASt):ASt:=Nat.rec (motive:=fun _=>ASt) (k 0) (fun m _=>k (Nat.succ m)) n
def Yed{α:Type}(l:List α)(k:List α→ASt):ASt:=List.rec (motive:=fun _=>ASt) (k []) (fun a r _=>k (a::r)) l
def fTr{α:Type}(t:Tr α)(k:Tr α→ASt):ASt:=match t with| .e=>k .e| .n l v r=>k (.n l v r)
def Yfu(m:H8)(k:H8→ASt):ASt:=match m with| .run=>k .run| .returning=>k .returning| .panicking c=>k (.panicking c)
def fCK(c:CallKind)(k:CallKind→ASt):ASt:=match c with| .normal=>k .normal| .deferred=>k .deferred|c=>k c
def fON(o:Option Nat)(k:Option Nat→ASt):ASt:=match o with|none=>k none|some n=>k (some n)
theorem Ycp{n:Nat}{k:Nat→ASt}:Yhr n k=k n:=by cases n<;>rfl
theorem Ycq{α:Type}{l:List α}{k:List α→ASt}:Yed l k=k l:=by cases l<;>rfl
theorem Yfs{α:Type}{t:Tr α}{k:Tr α→ASt}:fTr t k=k t:=by cases t<;>rfl
theorem Xyx{m:H8}{k:H8→ASt}:Yfu m k=k m:=by cases m<;>rfl
theorem Yfw{c:CallKind}{k:CallKind→ASt}:fCK c k=k c:=by cases c<;>rfl
theorem Yft{o:Option Nat}{k:Option Nat→ASt}:fON o k=k o:=by cases o<;>rfl
def norm(s:ASt):ASt:=
 match s with
 |⟨⟨fn,nt,vars,over,todo,defers,mode,kind,ro⟩,cs,⟨h,nx,fm⟩⟩=>
  Yfu mode fun mode=>Yhr fn fun fn=>Yhr nt fun nt=>Yed vars fun vars=>Yed over fun over=>Yed todo fun todo=>Yed defers fun defers=>fCK kind fun kind=>fON ro fun ro=>
   Yed cs fun cs=>fTr h fun h=>Yhr nx fun nx=>fTr fm fun fm=>⟨⟨fn,nt,vars,over,todo,defers,mode,kind,ro⟩,cs,⟨h,nx,fm⟩⟩
theorem norm_eq(s:ASt):norm s=s:=by
 obtain⟨⟨fn,nt,vars,over,todo,defers,mode,kind,ro⟩,cs,⟨h,nx,fm⟩⟩:=s;unfold norm;simp only[Xyx,Ycp,Ycq,Yfw,Yft,Yfs]
def Yiw(T:Tab)(s:ASt):ASt:=match GJ T s with| .next s'=>s'| .branch [s']=>s'|_=>s
def Yi7(o:XG):Nat:=match o with| .branch l=>len l|_=>0
def Xre(o:XG)(i:Nat)(s:ASt):ASt:=match o with| .branch l=>(match nth l i with|some s'=>s'|none=>s)|_=>s
variable {P:Program} {T:Tab} {B:Nat} {cs0:List Frame}
def Xk2(P:Program)(T:Tab)(B:Nat)(cs0:List Frame)(m:Machine)(w:World):XG→Prop
 | .next s'=>Xa9 P T B cs0 m w s'
 | .branch l=>∃s'∈l,Xa9 P T B cs0 m w s'
 | .done f v=>∃μ fr2 w2 v',Steps P m (lone fr2 cs0 w2)∧Below B w w2∧fr2.leaving P w2 (.returned v')∧XH μ v v'∧fr2.fn=f
 | .stuck=>True
theorem Out.toM{fr':Frame}{cs':List Frame}{w:World}{o:XG}(h:Out P T B cs0 fr' cs' w o):Xk2 P T B cs0 (lone fr' (cs'++cs0) w) w o:=by
 cases o with
 |next s=>exact h
 |branch l=>exact h
 |done f v=>
  obtain⟨μ,v',h1,h2,h3,rfl⟩:=h;exact⟨μ,fr',w,v',Steps.refl _ _,Below.refl _ _,h1,h2,h3⟩
 |stuck=>exact True.intro
theorem Xn0{m:Machine}{w:World}{fr':Frame}{cs':List Frame}{w':World}{s:ASt}(hs:Steps P m (lone fr' (cs'++cs0) w'))(hb:Below B w w')(h:Xa9 P T B cs0 (lone fr' (cs'++cs0) w') w' s):Xa9 P T B cs0 m w s:=by
 obtain⟨μ,a,b,c,h1,h2,h3⟩:=h;exact⟨μ,a,b,c,h1,hs.trans h2,hb.trans h3⟩
theorem Xk2.pre{m:Machine}{w:World}{fr':Frame}{cs':List Frame}{w':World}{o:XG}(hs:Steps P m (lone fr' (cs'++cs0) w'))(hb:Below B w w')(h:Xk2 P T B cs0 (lone fr' (cs'++cs0) w') w' o):Xk2 P T B cs0 m w o:=by
 cases o with
 |next s=>exact Xn0 hs hb h
 |branch l=>obtain⟨s,hm,h⟩:=h;exact⟨s,hm,Xn0 hs hb h⟩
 |done f v=>
  obtain⟨μ,fr2,w2,v',h1,h2,h3⟩:=h;exact⟨μ,fr2,w2,v',hs.trans h1,hb.trans h2,h3⟩
 |stuck=>exact True.intro
theorem KO{m:Machine}{w:World}{s:ASt}(h:Xa9 P T B cs0 m w s)(hd:∀ops t V base k,s.fr.todo≠ .inDraw ops t V base::k){o:XG}
  (k:∀{μ:Mu} {fr':Frame} {cs':List Frame} {w':World} {lo:Nat},Pl T B μ s fr' cs' w' lo→Xk2 P T B cs0 (lone fr' (cs'++cs0) w') w' o):Xk2 P T B cs0 m w o:=by
 obtain⟨μ,fr',cs',w',⟨R,G,lo,hlo,hf,hst⟩,h1,h2⟩:=h;cases hf with
 |plain hp=>exact Xk2.pre h1 h2 (k ⟨R,G,hlo,hp,hst⟩)
 |draw core run e1 e2 e3 e4=>exact absurd e1 (hd _ _ _ _ _)
theorem Xxl{fr fr1:Xt}{td:List Ye}{d:Option Tmp}{v:Value}(h:fr.put d v=some fr1):({fr with todo:=td}:Xt).put d v=some {fr1 with todo:=td}:=by
 cases d with
 |none=>injection h with h;subst h;rfl
 |some t=>
  have h:(match Nat.blt t fr.nt,Xko fr.vars fr.over t v with|true,(vs,ov)=>some {fr with vars:=vs,over:=ov}|false,_=>none)=some fr1:=h
  show(match Nat.blt t fr.nt,Xko fr.vars fr.over t v with|true,(vs,ov)=>some ({fr with todo:=td,vars:=vs,over:=ov}:Xt)|false,_=>none)=_
  split at h
  ·rename_i vs ov e1 e2;injection h with h;subst h;rfl
  ·cases h
theorem Xxm{fr fr1:Xt}{d:Option Tmp}{v:Value}(h:fr.put d v=some fr1):fr1.mode=fr.mode:=by
 cases d with
 |none=>injection h with h;subst h;rfl
 |some t=>rw[(Xnl h).1]
theorem Xn9(C:Y0 P T){ops:Array Oper}{k:List Ye}:∀(rest:List Oper) {s:ASt} {μ:Mu} {fr':Frame} {cs':List Frame} {w:World} {lo:Nat},s.fr.mode= .run→
  Pl T B μ {s with fr:={s.fr with todo:= .inRegion ops rest::k}} fr' cs' w lo→Xk2 P T B cs0 (lone fr' (cs'++cs0) w) w (K5 T ops k rest s):=by
 intro rest
 induction rest with
 |nil=>
  intro s μ fr' cs' w lo run h;exact(GU C h run).toM
 |cons o r ih=>
  intro s μ fr' cs' w lo run h;have h1:Xk2 P T B cs0 (lone fr' (cs'++cs0) w) w (Xri T {s with fr:={s.fr with todo:= .inRegion ops (o::r)::k}} ops o):=(GU C h run).toM;have on:∀{v:Value} {A:Xm} {fr1:Xt},s.fr.put o.dst v=some fr1→Xri T {s with fr:={s.fr with todo:= .inRegion ops (o::r)::k}} ops o=Xj8 {s with fr:={s.fr with todo:= .inRegion ops (o::r)::k}} v A→
    Xk2 P T B cs0 (lone fr' (cs'++cs0) w) w (K5 T ops k r {s with fr:=fr1,A:=A}):=by
   intro v A fr1 hp he;rw[he]at h1;have hf:({s.fr with todo:= .inRegion ops (o::r)::k}:Xt).finish v=some {fr1 with todo:= .inRegion ops r::k}:=Xxl (fr:=s.fr) (td:= .inRegion ops r::k) hp;have h2:Xk2 P T B cs0 (lone fr' (cs'++cs0) w) w (.next {s with fr:={fr1 with todo:= .inRegion ops r::k},A:=A}):=by
    have:Xj8 {s with fr:={s.fr with todo:= .inRegion ops (o::r)::k}} v A= .next {s with fr:={fr1 with todo:= .inRegion ops r::k},A:=A}:=by
     unfold Xj8;rw[hf]
    rw[this]at h1;exact h1
   refine KO h2 (fun _ _ _ _ _ e=>by cases e) fun hpl=>?_;exact ih (s:={s with fr:=fr1,A:=A}) (by show fr1.mode= .run;rw[Xxm hp];exact run) hpl
  unfold K5;simp only;have hop:Xri T {s with fr:={s.fr with todo:= .inRegion ops (o::r)::k}} ops o=(match GS s.fr ops.toList o with
   |some true=>(match aop T s.A (Xy T.nglob s.fr.vars s.fr.over) o.op with|some r'=>K4 T {s with fr:={s.fr with todo:= .inRegion ops (o::r)::k}} r'|none=> .stuck)
   |some false=>(match({s.fr with todo:= .inRegion ops (o::r)::k}:Xt).finish undef with|some fr=> .next {s with fr:=fr}|none=> .stuck)
   |none=> .stuck):=rfl
  split
  ·rename_i hw;split
   ·rename_i v A ha;split
    ·rename_i fr1 hp;refine on hp ?_;rw[hop,hw,ha];rfl
    ·exact True.intro
   ·rename_i A ha;split
    ·rename_i fr1 hp;refine on hp ?_;rw[hop,hw,ha];rfl
    ·exact True.intro
   ·rename_i res hn1 hn2 ha;rw[hop,hw,ha]at h1;exact h1
   ·exact True.intro
  ·rename_i hw;split
   ·rename_i fr1 hp;have:=on (A:=s.A) hp (by
     rw[hop,hw];unfold Xj8;rfl)
    exact this
   ·exact True.intro
  ·exact True.intro
theorem Xhh(C:Y0 P T):∀(c:Code) {s:ASt} {k:List Ye} {μ:Mu} {fr':Frame} {cs':List Frame} {w:World} {lo:Nat},s.fr.mode= .run→
  Pl T B μ {s with fr:={s.fr with todo:= .code c::k}} fr' cs' w lo→Xk2 P T B cs0 (lone fr' (cs'++cs0) w) w (Zv T c s k):=by
 intro c;have one:∀{c:Code} {s:ASt} {k:List Ye} {μ:Mu} {fr':Frame} {cs':List Frame} {w:World} {lo:Nat},s.fr.mode= .run→Pl T B μ {s with fr:={s.fr with todo:= .code c::k}} fr' cs' w lo→
   Xk2 P T B cs0 (lone fr' (cs'++cs0) w) w (Xrk T {s with fr:={s.fr with todo:= .code c::k}} c k):=fun run h=>(GU C h run).toM
 induction c with
 |seq a b iha ihb=>
  intro s k μ fr' cs' w lo run h;exact KO (one run h) (fun _ _ _ _ _ e=>by cases e) fun hpl=>iha run hpl
 |cond x a b iha ihb=>
  intro s k μ fr' cs' w lo run h;have h1:=one run h;have he:Xrk T {s with fr:={s.fr with todo:= .code (.cond x a b)::k}} (.cond x a b) k=(match Xy T.nglob s.fr.vars s.fr.over x with
   |some (.bool true)=>toS {s with fr:={s.fr with todo:= .code (.cond x a b)::k}} (.code a::k)|some (.bool false)=>toS {s with fr:={s.fr with todo:= .code (.cond x a b)::k}} (.code b::k)|_=> .stuck):=rfl
  rw[he]at h1
  show Xk2 P T B cs0 _ w (match Xy T.nglob s.fr.vars s.fr.over x with|some (.bool true)=>Zv T a s k|some (.bool false)=>Zv T b s k|_=> .stuck)
  split
  ·rename_i hx;rw[hx]at h1;exact KO h1 (fun _ _ _ _ _ e=>by cases e) fun hpl=>iha run hpl
  ·rename_i hx;rw[hx]at h1;exact KO h1 (fun _ _ _ _ _ e=>by cases e) fun hpl=>ihb run hpl
  ·exact True.intro
 |block id b ih=>
  intro s k μ fr' cs' w lo run h;exact KO (one run h) (fun _ _ _ _ _ e=>by cases e) fun hpl=>ih run hpl
 |loop b ih=>
  intro s k μ fr' cs' w lo run h;exact KO (one run h) (fun _ _ _ _ _ e=>by cases e) fun hpl=>ih run hpl
 |scope b ih=>
  intro s k μ fr' cs' w lo run h;exact KO (one run h) (fun _ _ _ _ _ e=>by cases e) fun hpl=>ih run hpl
 |region id ops draw=>
  intro s k μ fr' cs' w lo run h;cases draw with
  |true=>exact one run h
  |false=>
   refine KO (one run h) (fun _ _ _ _ _ e=>by cases e) fun hpl=>?_;exact Xn9 C ops.toList (s:={s with fr:={s.fr with over:=Jb s.fr.over}}) run hpl
 |_=>intro s k μ fr' cs' w lo run h;exact one run h
theorem Xhe(C:Y0 P T){μ:Mu}{s:ASt}{fr':Frame}{cs':List Frame}{w:World}(h:Xoo T B μ s fr' cs' w):Xk2 P T B cs0 (lone fr' (cs'++cs0) w) w (GJ T s):=by
 have h0:=h;obtain⟨R,G,lo,hlo,hf,hst⟩:=h;unfold GJ;split
 ·rename_i run;have hplain:(∀ops t V base k,s.fr.todo≠ .inDraw ops t V base::k)→Pl T B μ s fr' cs' w lo:=by
   intro hd;cases hf with
   |plain hp=>exact⟨R,G,hlo,hp,hst⟩
   |draw core run e1=>exact absurd e1 (hd _ _ _ _ _)
  have hexec:Xk2 P T B cs0 (lone fr' (cs'++cs0) w) w (Xd1 T s):=by
   have:=(Xof (cs0:=cs0) C h0).toM;unfold Xzo at this;rw[run]at this;exact this
  have same:∀{td:List Ye},s.fr.todo=td→({s with fr:={s.fr with todo:=td}}:ASt)=s:=by
   intro td e;subst e;rfl
  unfold Yfv;split
  ·rename_i c k ht;have hp:=hplain (by rw[ht];intro _ _ _ _ _ e;cases e);exact Xhh C c run (by rw[same ht];exact hp)
  ·rename_i ops rest k ht;have hp:=hplain (by rw[ht];intro _ _ _ _ _ e;cases e);exact Xn9 C rest run (by rw[same ht];exact hp)
  ·rename_i id c k ht;have he:Xd1 T s=toS s (.code c::k):=by unfold Xd1;rw[ht];rfl
   rw[he]at hexec;exact KO hexec (fun _ _ _ _ _ e=>by cases e) fun hpl=>Xhh C c run hpl
  ·rename_i b k ht;have he:Xd1 T s=toS s (.code b:: .inLoop b::k):=by unfold Xd1;rw[ht];rfl
   rw[he]at hexec;exact KO hexec (fun _ _ _ _ _ e=>by cases e) fun hpl=>Xhh C b run hpl
  ·exact hexec
 ·rename_i hn;have:=(Xof (cs0:=cs0) C h0).toM;unfold Xzo at this;split at this
  ·rename_i run;exact absurd run hn
  ·exact this
end
noncomputable section
section
variable {R:Type}
def Xos (v:Value):(IntKind→Int→R)→R→R:=
  Value.rec (motive_1:=fun _=>(IntKind→Int→R)→R→R) (motive_2:=fun _=>Unit) (motive_3:=fun _=>Unit)
    (fun _ _ d=>d) (fun k n f _=>f k n) (fun _ _ _ d=>d) (fun _ _ _ _ d=>d) (fun _ _ d=>d) (fun _ _ d=>d) (fun _ _ _ _ d=>d) (fun _ _ d=>d) (fun _ _ d=>d)
    (fun _ _ _ _ _ _ d=>d) (fun _ d=>d) (fun _ _ _ _ d=>d) (fun _ d=>d) (fun _ _ _ d=>d) (fun _ _ _ d=>d) (fun _ _=>()) () (fun _ _ _ _=>()) v
theorem Xak (v:Value) (f:IntKind→Int→R) (d:R):(∃k n,v= .int k n∧Xos v f d=f k n)∨Xos v f d=d:=by
  cases v<;>first|exact .inr rfl|exact .inl ⟨_,_,rfl,rfl⟩
def Xnc (v:Value):(Bool→R)→R→R:=
  Value.rec (motive_1:=fun _=>(Bool→R)→R→R) (motive_2:=fun _=>Unit) (motive_3:=fun _=>Unit)
    (fun b f _=>f b) (fun _ _ _ d=>d) (fun _ _ _ d=>d) (fun _ _ _ _ d=>d) (fun _ _ d=>d) (fun _ _ d=>d) (fun _ _ _ _ d=>d) (fun _ _ d=>d) (fun _ _ d=>d)
    (fun _ _ _ _ _ _ d=>d) (fun _ d=>d) (fun _ _ _ _ d=>d) (fun _ d=>d) (fun _ _ _ d=>d) (fun _ _ _ d=>d) (fun _ _=>()) () (fun _ _ _ _=>()) v
theorem Xlb (v:Value) (f:Bool→R) (d:R):(∃b,v= .bool b∧Xnc v f d=f b)∨Xnc v f d=d:=by
  cases v<;>first|exact .inr rfl|exact .inl ⟨_,rfl,rfl⟩
def aK (a:Option Addr) (f:Nat→Nat→R) (d:R):R:=
  Option.rec (motive:=fun _=>R) d (fun p=>Addr.rec (motive:=fun _=>R) (fun b o s=>Option.rec (motive:=fun _=>R) (f b o) (fun _=>d) s) p) a
theorem Xv6 (a:Option Addr) (f:Nat→Nat→R) (d:R):(∃b o,a=some ⟨b,o,none⟩∧aK a f d=f b o)∨aK a f d=d:=by
  rcases a with _|⟨b,o,_|s⟩
  · exact .inr rfl
  · exact .inl ⟨_,_,rfl,rfl⟩
  · exact .inr rfl
def Xci (v:Value):(Nat→Nat→R)→R→R:=
  Value.rec (motive_1:=fun _=>(Nat→Nat→R)→R→R) (motive_2:=fun _=>Unit) (motive_3:=fun _=>Unit)
    (fun _ _ d=>d) (fun _ _ _ d=>d) (fun _ _ _ d=>d) (fun _ _ _ _ d=>d) (fun _ _ d=>d) (fun a f d=>aK a f d) (fun _ _ _ _ d=>d) (fun _ _ d=>d) (fun _ _ d=>d)
    (fun _ _ _ _ _ _ d=>d) (fun _ d=>d) (fun _ _ _ _ d=>d) (fun _ d=>d) (fun _ _ _ d=>d) (fun _ _ _ d=>d) (fun _ _=>()) () (fun _ _ _ _=>()) v
theorem HB (v:Value) (f:Nat→Nat→R) (d:R):(∃b o,v= .pointer (some ⟨b,o,none⟩)∧Xci v f d=f b o)∨Xci v f d=d:=by
  cases v
  case pointer a=>
    rcases Xv6 a f d with⟨b,o,rfl,e⟩|e
    · exact .inl ⟨b,o,rfl,e⟩
    · exact .inr e
  all_goals exact .inr rfl
def Yd8 (v:Value):(Option Addr→Nat→Nat→R)→R→R:=
  Value.rec (motive_1:=fun _=>(Option Addr→Nat→Nat→R)→R→R) (motive_2:=fun _=>Unit) (motive_3:=fun _=>Unit)
    (fun _ _ d=>d) (fun _ _ _ d=>d) (fun _ _ _ d=>d) (fun _ _ _ _ d=>d) (fun _ _ d=>d) (fun _ _ d=>d) (fun a n c f _=>f a n c) (fun _ _ d=>d) (fun _ _ d=>d)
    (fun _ _ _ _ _ _ d=>d) (fun _ d=>d) (fun _ _ _ _ d=>d) (fun _ d=>d) (fun _ _ _ d=>d) (fun _ _ _ d=>d) (fun _ _=>()) () (fun _ _ _ _=>()) v
theorem Xh6 (v:Value) (f:Option Addr→Nat→Nat→R) (d:R):(∃a n c,v= .slice a n c∧Yd8 v f d=f a n c)∨Yd8 v f d=d:=by
  cases v<;>first|exact .inr rfl|exact .inl ⟨_,_,_,rfl,rfl⟩
def Xou (v:Value):(List Value→R)→R→R:=
  Value.rec (motive_1:=fun _=>(List Value→R)→R→R) (motive_2:=fun _=>Unit) (motive_3:=fun _=>Unit)
    (fun _ _ d=>d) (fun _ _ _ d=>d) (fun _ _ _ d=>d) (fun _ _ _ _ d=>d) (fun _ _ d=>d) (fun _ _ d=>d) (fun _ _ _ _ d=>d) (fun _ _ d=>d) (fun _ _ d=>d)
    (fun _ _ _ _ _ _ d=>d) (fun _ d=>d) (fun _ _ _ _ d=>d) (fun _ d=>d) (fun a _ f _=>f a.toList) (fun _ _ _ d=>d) (fun _ _=>()) () (fun _ _ _ _=>()) v
theorem Xez (v:Value) (f:List Value→R) (d:R):(∃l,v= .agg ⟨l⟩∧Xou v f d=f l)∨Xou v f d=d:=by
  cases v<;>first|exact .inr rfl|exact .inl ⟨_,rfl,rfl⟩
def Xwq (v:Value):(List Value→R)→R→R:=
  Value.rec (motive_1:=fun _=>(List Value→R)→R→R) (motive_2:=fun _=>Unit) (motive_3:=fun _=>Unit)
    (fun _ _ d=>d) (fun _ _ _ d=>d) (fun _ _ _ d=>d) (fun _ _ _ _ d=>d) (fun _ _ d=>d) (fun _ _ d=>d) (fun _ _ _ _ d=>d) (fun _ _ d=>d) (fun _ _ d=>d)
    (fun _ _ _ _ _ _ d=>d) (fun _ d=>d) (fun _ _ _ _ d=>d) (fun _ d=>d) (fun _ _ _ d=>d) (fun a _ f _=>f a.toList) (fun _ _=>()) () (fun _ _ _ _=>()) v
theorem Xor (v:Value) (f:List Value→R) (d:R):(∃l,v= .tuple ⟨l⟩∧Xwq v f d=f l)∨Xwq v f d=d:=by
  cases v<;>first|exact .inr rfl|exact .inl ⟨_,rfl,rfl⟩
def v1K (v:Value):R→R→R:=
  Value.rec (motive_1:=fun _=>R→R→R) (motive_2:=fun _=>Unit) (motive_3:=fun _=>Unit)
    (fun _ f _=>f) (fun _ _ f _=>f) (fun _ _ _ d=>d) (fun _ _ _ _ d=>d) (fun _ f _=>f) (fun _ f _=>f) (fun _ _ _ f _=>f) (fun _ f _=>f) (fun _ _ d=>d)
    (fun _ _ _ _ _ f _=>f) (fun f _=>f) (fun _ _ _ f _=>f) (fun f _=>f) (fun _ _ _ d=>d) (fun _ _ _ d=>d) (fun _ _=>()) () (fun _ _ _ _=>()) v
def oK{α:Type}(o:Option α)(f:α→R)(d:R):R:=Option.rec (motive:=fun _=>R) d f o
def nK(n:Int)(f:Nat→R)(d:R):R:=Int.rec (motive:=fun _=>R) f (fun _=>d) n
def bK(b:Bool)(f d:R):R:=Bool.rec (motive:=fun _=>R) d f b
def Xfk (o:Yh):(List Value→R)→R→R:=
  Yh.rec (motive:=fun _=>(List Value→R)→R→R) (fun xs _ f _=>f xs) (fun _ _ _ d=>d) (fun _ _ _ d=>d) (fun _ _ _ _ _ d=>d) (fun _ _ d=>d) (fun _ _ d=>d) o
def ckK(k:CK):R→R→R:=CK.rec (motive:=fun _=>R→R→R) (fun ro f d=>Bool.rec (motive:=fun _=>R) f d ro) (fun _ _ d=>d) k
def Xn5 (o:Yh):(List Value→R)→R→R:=
  Yh.rec (motive:=fun _=>(List Value→R)→R→R) (fun xs k f d=>ckK k (f xs) d) (fun _ _ _ d=>d) (fun _ _ _ d=>d) (fun _ _ _ _ _ d=>d) (fun _ _ d=>d) (fun _ _ d=>d) o
theorem Xmp (o:Yh) (f:List Value→R) (d:R):(∃xs,o= .cells xs (.fixed false)∧Xn5 o f d=f xs)∨Xn5 o f d=d:=by
  rcases o with⟨xs,⟨_|_⟩|g⟩|_|_|_|_|_<;>first|exact .inl ⟨_,rfl,rfl⟩|exact .inr rfl
theorem Xdo (o:Yh) (f:List Value→R) (d:R):(∃xs k,o= .cells xs k∧Xfk o f d=f xs)∨Xfk o f d=d:=by
  cases o<;>first|exact .inl ⟨_,_,rfl,rfl⟩|exact .inr rfl
end
def Xwe(k:IntKind):Nat:=IntKind.rec (motive:=fun _=>Nat) 0 1 2 3 4 5 6 7 k
theorem Xt7{k k':IntKind}:Nat.beq (Xwe k) (Xwe k')=decide (k=k'):=by cases k<;>cases k'<;>rfl
def Ymo(n:Int):Int:=Int.rec (motive:=fun _=>Int) (fun a=>Bool.rec (motive:=fun _=>Int) (VS .i64 (.ofNat a)) (.ofNat a) (Nat.blt a 9223372036854775808)) (fun a=>Bool.rec (motive:=fun _=>Int) (VS .i64 (.negSucc a)) (.negSucc a) (Nat.blt a 9223372036854775808)) n
def wUn(k:IntKind)(m:Nat)(n:Int):Int:=Int.rec (motive:=fun _=>Int) (fun a=>Bool.rec (motive:=fun _=>Int) (VS k (.ofNat a)) (.ofNat a) (Nat.blt a m)) (fun a=>VS k (.negSucc a)) n
def Ya0 (k:IntKind):Int→Int:=
  IntKind.rec (motive:=fun _=>Int→Int) (VS .i8) (VS .i16) (VS .i32) Ymo (wUn .u8 256) (VS .u16) (wUn .u32 4294967296) (wUn .u64 18446744073709551616) k
theorem Xoe{R:Type}{b:Bool}{x y:R}:Bool.rec (motive:=fun _=>R) x y b=match b with|true=>y|false=>x:=by cases b<;>rfl
theorem Xnb (k:IntKind) (n:Int):Ya0 k n=VS k n:=by
  cases k<;>try rfl
  all_goals
    cases n<;>first
    |rfl
    | (rename_i a
       show(Bool.rec (motive:=fun _=>Int) _ _ (Nat.blt a _))=_
       rw[Xoe];split
       · rename_i h;simp only[VS,fits,h]
       · rfl)
def Yfl (x:Int):Int→Int:=
  Int.rec (motive:=fun _=>Int→Int) (fun a y=>Int.rec (motive:=fun _=>Int) (fun b=> .ofNat (Nat.add a b)) (fun b=>Int.add (.ofNat a) (.negSucc b)) y) (fun a y=>Int.add (.negSucc a) y) x
theorem Xyi(x y:Int):Yfl x y=Int.add x y:=by cases x<;>cases y<;>rfl
def Yfj (x:Int):Int→Int:=
  Int.rec (motive:=fun _=>Int→Int) (fun a y=>Int.rec (motive:=fun _=>Int) (fun b=>Bool.rec (motive:=fun _=>Int) (.negSucc (Nat.pred (Nat.sub b a))) (.ofNat (Nat.sub a b)) (Nat.ble b a)) (fun b=>Int.sub (.ofNat a) (.negSucc b)) y) (fun a y=>Int.sub (.negSucc a) y) x
theorem Xyh (x y:Int):Yfj x y=Int.sub x y:=by
  cases x<;>cases y<;>try rfl
  rename_i a b
  show(Bool.rec (motive:=fun _=>Int) _ _ (Nat.ble b a))=Int.ofNat a - Int.ofNat b
  rw[Xoe];split
  · rename_i h;have:=Nat.le_of_ble_eq_true h
    show((a - b:Nat):Int)=(a:Int) - (b:Int)
    omega
  · rename_i h;have:¬b≤a:=fun hh=>by rw[Nat.ble_eq_true_of_le hh]at h;cases h
    show Int.negSucc (b - a - 1)=(a:Int) - (b:Int)
    omega
def Yio (x:Int):Int→Bool:=
  Int.rec (motive:=fun _=>Int→Bool) (fun a y=>Int.rec (motive:=fun _=>Bool) (fun b=>Nat.blt a b) (fun _=>false) y) (fun a y=>Int.rec (motive:=fun _=>Bool) (fun _=>true) (fun b=>Nat.blt b a) y) x
theorem Xud(x y:Int):Yio x y=iLt x y:=by cases x<;>cases y<;>rfl
def Yip (x:Int):Int→Bool:=
  Int.rec (motive:=fun _=>Int→Bool) (fun a y=>Int.rec (motive:=fun _=>Bool) (fun b=>Nat.ble a b) (fun _=>false) y) (fun a y=>Int.rec (motive:=fun _=>Bool) (fun _=>true) (fun b=>Nat.ble b a) y) x
theorem Xue(x y:Int):Yip x y=iLe x y:=by cases x<;>cases y<;>rfl
def Yiq (x:Int):Int→Bool:=
  Int.rec (motive:=fun _=>Int→Bool) (fun a y=>Int.rec (motive:=fun _=>Bool) (fun b=>Nat.beq a b) (fun _=>false) y) (fun a y=>Int.rec (motive:=fun _=>Bool) (fun _=>false) (fun b=>Nat.beq a b) y) x
theorem Xuf(x y:Int):Yiq x y=iEq x y:=by cases x<;>cases y<;>rfl
structure F2 where
  go:IntKind→Int→IntKind→Int→(Value→XG)→XG→XG
def Xga(f:IntKind→Int→Int→Value):F2:=⟨fun k a k' b K d=>bK (Nat.beq (Xwe k) (Xwe k')) (K (f k a b)) d⟩
def Xcm(f:IntKind→Int→Int→Option Value):F2:=⟨fun k a k' b K d=>bK (Nat.beq (Xwe k) (Xwe k')) (oK (f k a b) K d) d⟩
def Xvl (op:BinOp):F2:=
  match op with
  | .add=>Xga fun k x y=> .int k (Ya0 k (Yfl x y))
  | .sub=>Xga fun k x y=> .int k (Ya0 k (Yfj x y))
  | .eql=>Xga fun _ x y=> .bool (Yiq x y)
  | .neq=>Xga fun _ x y=> .bool (!(Yiq x y))
  | .lss=>Xga fun _ x y=> .bool (Yio x y)
  | .leq=>Xga fun _ x y=> .bool (Yip x y)
  | .gtr=>Xga fun _ x y=> .bool (Yio y x)
  | .geq=>Xga fun _ x y=> .bool (Yip y x)
  | .and=>Xcm (Xm2 .and)
  | .or=>Xcm (Xm2 .or)
  | .xor=>Xcm (Xm2 .xor)
  | .mul=>Xcm (Xds .mul)
  | .quo=>Xcm (Xds .quo)
  | .rem=>Xcm (Xds .rem)
  |op=>⟨fun k a k' b K d=>oK (Xrr op k a k' b) K d⟩
theorem Xzi (op:BinOp) (k k':IntKind) (a b:Int) (K:Value→XG) (d:XG):(Xvl op).go k a k' b K d=oK (Xrr op k a k' b) K d:=by
  have key:∀{f:IntKind→Int→Int→Value},(match decide (k=k')with|false=>none|true=>some (f k a b))=Xrr op k a k' b→(Xga f).go k a k' b K d=oK (Xrr op k a k' b) K d:=by
    intro f h;rw[←h]
    show(Bool.rec (motive:=fun _=>XG) _ _ (Nat.beq (Xwe k) (Xwe k')))=_
    rw[Xt7];cases decide (k=k')<;>rfl
  have key2:∀{f:IntKind→Int→Int→Option Value},(match decide (k=k')with|false=>none|true=>f k a b)=Xrr op k a k' b→(Xcm f).go k a k' b K d=oK (Xrr op k a k' b) K d:=by
    intro f h;rw[←h]
    show(Bool.rec (motive:=fun _=>XG) _ _ (Nat.beq (Xwe k) (Xwe k')))=_
    rw[Xt7];cases decide (k=k')<;>rfl
  cases op
  case add=>exact key (by simp only[Xnb,Xyi];rfl)
  case sub=>exact key (by simp only[Xnb,Xyh];rfl)
  case eql=>exact key (by simp only[Xuf];rfl)
  case neq=>exact key (by simp only[Xuf];rfl)
  case lss=>exact key (by simp only[Xud];rfl)
  case leq=>exact key (by simp only[Xue];rfl)
  case gtr=>exact key (by simp only[Xud];rfl)
  case geq=>exact key (by simp only[Xue];rfl)
  case and=>exact key2 rfl
  case or=>exact key2 rfl
  case xor=>exact key2 rfl
  case mul=>exact key2 rfl
  case quo=>exact key2 rfl
  case rem=>exact key2 rfl
  all_goals rfl
structure Rd where
  get:List (Option Value)→List (Nat×Value)→(Value→XG)→XG→XG
def tgK (o:Option (Option Value)) (over:List (Nat×Value)) (t:Nat) (f:Value→XG) (d:XG):XG:=
  Option.rec (motive:=fun _=>XG) (oK (XK over t) f d) (fun a=>oK a f d) o
def cRd (T:Tab) (x:Operand):Rd:=
  match x with
  | .tmp t=>⟨fun vars over f d=>tgK (nth vars t) over t f d⟩
  | .const v=>(match YF v with|true=>⟨fun _ _ f _=>f v⟩|false=>⟨fun _ _ _ d=>d⟩)
  | .global g=>(match Nat.blt g T.nglob with|true=>⟨fun _ _ f _=>f (.pointer (some ⟨g,0,none⟩))⟩|false=>⟨fun _ _ _ d=>d⟩)
  | .func g=>⟨fun _ _ f _=>f (.func (.func g) #[] #[])⟩
theorem J8 (T:Tab) (x:Operand) (vars:List (Option Value)) (over:List (Nat×Value)) (f:Value→XG) (d:XG):(cRd T x).get vars over f d=oK (Xy T.nglob vars over x) f d:=by
  cases x with
  | tmp t=>
    show tgK (nth vars t) over t f d=oK (Gn vars over t) f d
    unfold Gn;cases nth vars t<;>rfl
  | const v=>
    show(match YF v with|true=>(⟨fun _ _ f _=>f v⟩:Rd)|false=>⟨fun _ _ _ d=>d⟩).get vars over f d=oK (match YF v with|true=>some v|false=>none) f d
    cases YF v<;>rfl
  | global g=>
    show(match Nat.blt g T.nglob with|true=>(⟨fun _ _ f _=>f (.pointer (some ⟨g,0,none⟩))⟩:Rd)|false=>⟨fun _ _ _ d=>d⟩).get vars over f d=oK (match Nat.blt g T.nglob with|true=>some (.pointer (some ⟨g,0,none⟩))|false=>none) f d
    cases Nat.blt g T.nglob<;>rfl
  |func g=>rfl
structure XL where
  run:List (Option Value)→List (Nat×Value)→(List Value→XG)→XG→XG
def Xvm (T:Tab) (xs:List Operand):XL:=
  List.rec (motive:=fun _=>XL) ⟨fun _ _ f _=>f []⟩ (fun x _ r=>⟨fun vars over f d=>(cRd T x).get vars over (fun v=>r.run vars over (fun l=>f (v::l)) d) d⟩) xs
theorem Xzj (T:Tab) (vars:List (Option Value)) (over:List (Nat×Value)):∀(xs:List Operand) (f:List Value→XG) (d:XG),(Xvm T xs).run vars over f d=oK (evL (Xy T.nglob vars over) xs) f d:=by
  intro xs
  induction xs with
  |nil=>intro f d;rfl
  | cons x xs ih=>
    intro f d
    show(cRd T x).get vars over (fun v=>(Xvm T xs).run vars over (fun l=>f (v::l)) d) d=_
    rw[J8,Xhi];cases Xy T.nglob vars over x with
    |none=>rfl
    | some v=>
      show(Xvm T xs).run vars over (fun l=>f (v::l)) d=_
      rw[ih];cases evL (Xy T.nglob vars over) xs<;>rfl
def VA (r:Option Kv) (K:Value→Xm→XG) (En:FuncId→List Value→XG) (Ot:Kv→XG):XG:=
  match r with
  |some (.val v A)=>K v A
  |some (.skip A)=>K undef A
  |some (.enter f a)=>En f a
  |some r=>Ot r
  |none=> .stuck
structure XO where
  run:List (Option Value)→List (Nat×Value)→Xm→(Value→Xm→XG)→(FuncId→List Value→XG)→XG→XG
def XO.Ok (T:Tab) (o:Op) (X:XO):Prop:=
  ∀vars over A K En Ot,X.run vars over A K En (VA (aop T A (Xy T.nglob vars over) o) K En Ot)=VA (aop T A (Xy T.nglob vars over) o) K En Ot
def arK (r:Option Kv) (K:Value→Xm→XG) (En:FuncId→List Value→XG) (S:XG):XG:=
  Option.rec (motive:=fun _=>XG) S (fun res=>Kv.rec (motive:=fun _=>(Value→Xm→XG)→(FuncId→List Value→XG)→XG→XG)
    (fun v A K _ _=>K v A) (fun A K _ _=>K undef A) (fun f a _ En _=>En f a) (fun _ _ _ S=>S) (fun _ _ S=>S) (fun _ _ _ S=>S) (fun _ _ _ _ _ _ S=>S) (fun _ _ _ S=>S) res K En S) r
theorem Yaq (r:Option Kv) (K:Value→Xm→XG) (En:FuncId→List Value→XG) (Ot:Kv→XG):arK r K En (VA r K En Ot)=VA r K En Ot:=by
  rcases r with _|res
  · rfl
  · cases res<;>rfl
def Xbq(r:List (Option Value)→List (Nat×Value)→Xm→Option Kv):XO:=⟨fun vars over A K En S=>arK (r vars over A) K En S⟩
theorem VR {T:Tab} {o:Op} {r:List (Option Value)→List (Nat×Value)→Xm→Option Kv} (h:∀vars over A,r vars over A=aop T A (Xy T.nglob vars over) o):(Xbq r).Ok T o:=by
  intro vars over A K En Ot
  show arK (r vars over A) K En _=_
  rw[h];exact Yaq _ _ _ _
theorem Ve{r:Option Kv}{v:Value}{A:Xm}{K:Value→Xm→XG}{En:FuncId→List Value→XG}{Ot:Kv→XG}(h:r=some (.val v A)):K v A=VA r K En Ot:=by rw[h];rfl
theorem Xva{r:Option Kv}{A:Xm}{K:Value→Xm→XG}{En:FuncId→List Value→XG}{Ot:Kv→XG}(h:r=some (.skip A)):K undef A=VA r K En Ot:=by rw[h];rfl
theorem Xqs{r:Option Kv}{f:FuncId}{l:List Value}{K:Value→Xm→XG}{En:FuncId→List Value→XG}{Ot:Kv→XG}(h:r=some (.enter f l)):En f l=VA r K En Ot:=by rw[h];rfl
def kv(A:Xm)(K:Value→Xm→XG)(v:Value):XG:=K v A
def Yaw(T:Tab)(x:Operand):XO:=⟨fun vars over A K _ S=>(cRd T x).get vars over (kv A K) S⟩
theorem Xwn {T:Tab} {x:Operand} {o:Op} (h:∀A ev,aop T A ev o=rp A (ev x)):(Yaw T x).Ok T o:=by
  intro vars over A K En Ot
  show(cRd T x).get vars over (kv A K) _=_
  rw[J8];cases he:Xy T.nglob vars over x with
  |none=>rfl
  |some v=>exact Ve (by rw[h,he];rfl)
theorem Yew:∀(xs:List Value) (off:Nat),takeN (Y2 xs off) 1=match nth xs off with|some x=>some [x]|none=>none
  |[],off=>by cases off<;>rfl
  | x::xs,0=>by
    show Option.rec (motive:=fun _=>Option (List Value)) none (fun r=>some (x::r)) (takeN xs 0)=_
    have:takeN xs 0=some []:=by cases xs<;>rfl
    rw[this];rfl
  |x::xs,off+1=>Yew xs off
def ldX(off:Nat)(A:Xm)(K:Value→Xm→XG)(S:XG)(xs:List Value):XG:=oK (nth xs off) (kv A K) S
def ldO(off:Nat)(A:Xm)(K:Value→Xm→XG)(S:XG)(o:Yh):XG:=Xfk o (ldX off A K S) S
def ldP(A:Xm)(K:Value→Xm→XG)(S:XG)(b off:Nat):XG:=oK (A.heap.get b) (ldO off A K S) S
def ldV(A:Xm)(K:Value→Xm→XG)(S:XG)(p:Value):XG:=Xci p (ldP A K S) S
def kag(A:Xm)(K:Value→Xm→XG)(ys:List Value):XG:=K (.agg ⟨ys⟩) A
def laX(n off:Nat)(A:Xm)(K:Value→Xm→XG)(S:XG)(xs:List Value):XG:=oK (takeN (Y2 xs off) n) (kag A K) S
def laO(n off:Nat)(A:Xm)(K:Value→Xm→XG)(S:XG)(o:Yh):XG:=Xfk o (laX n off A K S) S
def laP(n:Nat)(A:Xm)(K:Value→Xm→XG)(S:XG)(b off:Nat):XG:=oK (A.heap.get b) (laO n off A K S) S
def laV(n:Nat)(A:Xm)(K:Value→Xm→XG)(S:XG)(p:Value):XG:=Xci p (laP n A K S) S
def Yax (T:Tab) (t:TypeId) (a:Operand):XO:=
  match T.ty.get t with
  | some ti=>(match Xdc ti.desc with
    |true=>⟨fun vars over A K _ S=>(cRd T a).get vars over (laV ti.size A K S) S⟩
    |false=>⟨fun vars over A K _ S=>(cRd T a).get vars over (ldV A K S) S⟩)
  |none=>Xbq fun vars over A=>Xfr T A (Xy T.nglob vars over) t a
theorem Xwo {T:Tab} {t:TypeId} {a:Operand}:(Yax T t a).Ok T (.load t a):=by
  unfold Yax;split
  case h_2=>exact VR fun _ _ _=>rfl
  rename_i ti ht;split
  · rename_i hagg;intro vars over A K En Ot
    show(cRd T a).get vars over _ _=_
    rw[J8];cases he:Xy T.nglob vars over a with
    |none=>rfl
    | some p =>
      show Xci p _ _=_
      rcases HB p (laP ti.size A K (VA (aop T A (Xy T.nglob vars over) (.load t a)) K En Ot)) (VA (aop T A (Xy T.nglob vars over) (.load t a)) K En Ot)with⟨b,off,rfl,e⟩|e
      · rw [e];unfold laP;cases ho:A.heap.get b with
        |none=>rfl
        | some o=>
          show Xfk o _ _=_
          rcases Xdo o (laX ti.size off A K (VA (aop T A (Xy T.nglob vars over) (.load t a)) K En Ot)) (VA (aop T A (Xy T.nglob vars over) (.load t a)) K En Ot)with⟨xs,k,rfl,e⟩|e
          · rw [e];unfold laX;cases hx:takeN (Y2 xs off) ti.size with
            |none=>rfl
            | some ys=>
              refine Ve ?_
              show Xfr T A (Xy T.nglob vars over) t a=_
              unfold Xfr;rw[he];simp only[Hg,ht,hagg,Vh,ho,hx];rfl
          · exact e
      · exact e
  · rename_i hagg;intro vars over A K En Ot
    show(cRd T a).get vars over _ _=_
    rw[J8];cases he:Xy T.nglob vars over a with
    |none=>rfl
    | some p =>
      show Xci p _ _=_
      rcases HB p (ldP A K (VA (aop T A (Xy T.nglob vars over) (.load t a)) K En Ot)) (VA (aop T A (Xy T.nglob vars over) (.load t a)) K En Ot)with⟨b,off,rfl,e⟩|e
      · rw [e];unfold ldP;cases ho:A.heap.get b with
        |none=>rfl
        | some o=>
          show Xfk o _ _=_
          rcases Xdo o (ldX off A K (VA (aop T A (Xy T.nglob vars over) (.load t a)) K En Ot)) (VA (aop T A (Xy T.nglob vars over) (.load t a)) K En Ot)with⟨xs,k,rfl,e⟩|e
          · rw [e];unfold ldX;cases hx:nth xs off with
            |none=>rfl
            | some x=>
              refine Ve ?_
              show Xfr T A (Xy T.nglob vars over) t a=_
              unfold Xfr;rw[he];simp only[Hg,ht,hagg,Vh,ho,Yew,hx];rfl
          · exact e
      · exact e
theorem Xwr {R:Type} (v:Value) (f d:R):(v.oneCell'=true∧v.cells= #[v]∧v1K v f d=f)∨v1K v f d=d:=by
  cases v<;>first|exact .inr rfl|exact .inl ⟨rfl,rfl,rfl⟩
def Ygh(A:Xm)(b:Nat)(o:Yh):Xm:=Xm.rec (motive:=fun _=>Xm) (fun h nx fm=>⟨h.put (some o) b,nx,fm⟩) A
theorem Xzp(A:Xm)(b:Nat)(o:Yh):Ygh A b o= {A with heap:=A.heap.put (some o) b}:=by cases A;rfl
def stY(A:Xm)(K:Value→Xm→XG)(b:Nat)(xs:List Value):XG:=K undef (Ygh A b (.cells xs (.fixed false)))
def stX(v:Value)(A:Xm)(K:Value→Xm→XG)(S:XG)(b off:Nat)(xs:List Value):XG:=oK (Xnn [v] xs off) (stY A K b) S
def stO(v:Value)(A:Xm)(K:Value→Xm→XG)(S:XG)(b off:Nat)(o:Yh):XG:=Xn5 o (stX v A K S b off) S
def stP(v:Value)(A:Xm)(K:Value→Xm→XG)(S:XG)(b off:Nat):XG:=oK (A.heap.get b) (stO v A K S b off) S
def stV(p:Value)(A:Xm)(K:Value→Xm→XG)(S':Value→XG)(v:Value):XG:=v1K v (Xci p (stP v A K (S' v)) (S' v)) (S' v)
def stS(T:Tab)(t:TypeId)(p:Value)(A:Xm)(K:Value→Xm→XG)(En:FuncId→List Value→XG)(S:XG)(v:Value):XG:=arK (ru (Zp T A t p v)) K En S
def Xru (T:Tab) (t:TypeId) (a x:Operand):XO:=
  match T.ty.get t with
  | some ti=>(match Nat.beq 1 ti.size with
    |true=>⟨fun vars over A K En S=>(cRd T a).get vars over (fun p=>(cRd T x).get vars over (stV p A K (stS T t p A K En S)) S) S⟩
    |false=>Xbq fun vars over A=>Xdt T A (Xy T.nglob vars over) t a x)
  |none=>Xbq fun vars over A=>Xdt T A (Xy T.nglob vars over) t a x
theorem Xrt {T:Tab} {t:TypeId} {a x:Operand}:(Xru T t a x).Ok T (.store t a x):=by
  unfold Xru;split
  case h_2=>exact VR fun _ _ _=>rfl
  rename_i ti ht;split
  case h_2=>exact VR fun _ _ _=>rfl
  rename_i hsz;intro vars over A K En Ot
  show(cRd T a).get vars over _ _=_
  rw[J8];cases ha:Xy T.nglob vars over a with
  |none=>rfl
  | some p =>
    show(cRd T x).get vars over _ _=_
    rw[J8];cases hx:Xy T.nglob vars over x with
    |none=>rfl
    | some v =>
      have hop:aop T A (Xy T.nglob vars over) (.store t a x)=ru (Zp T A t p v):=by
        show Xdt T A (Xy T.nglob vars over) t a x=_
        unfold Xdt;rw[ha,hx]
      have hS:stS T t p A K En (VA (aop T A (Xy T.nglob vars over) (.store t a x)) K En Ot) v=VA (aop T A (Xy T.nglob vars over) (.store t a x)) K En Ot:=by
        unfold stS;rw[hop];exact Yaq _ _ _ _
      show v1K v (Xci p (stP v A K (stS T t p A K En _ v)) (stS T t p A K En _ v)) (stS T t p A K En _ v)=_
      rw[hS];rcases Xwr v (Xci p (stP v A K (VA (aop T A (Xy T.nglob vars over) (.store t a x)) K En Ot)) (VA (aop T A (Xy T.nglob vars over) (.store t a x)) K En Ot)) (VA (aop T A (Xy T.nglob vars over) (.store t a x)) K En Ot)with⟨h1,h2,e⟩|e
      · rw [e];rcases HB p (stP v A K (VA (aop T A (Xy T.nglob vars over) (.store t a x)) K En Ot)) (VA (aop T A (Xy T.nglob vars over) (.store t a x)) K En Ot)with⟨b,off,rfl,e⟩|e
        · rw [e];unfold stP;cases ho:A.heap.get b with
          |none=>rfl
          | some o =>
            show Xn5 o _ _=_
            rcases Xmp o (stX v A K (VA (aop T A (Xy T.nglob vars over) (.store t a x)) K En Ot) b off) (VA (aop T A (Xy T.nglob vars over) (.store t a x)) K En Ot)with⟨xs,rfl,e⟩|e
            · rw [e];unfold stX;cases hp:Xnn [v] xs off with
              |none=>rfl
              | some xs'=>
                refine Xva ?_;rw[hop];have hl:v.cells.toList=[v]:=by rw[h2]
                have hsz':Nat.beq (len v.cells.toList) ti.size=true:=by rw[hl];exact hsz
                have hones:Yfc [v]=true:=by
                  show(match v.oneCell' with|true=>true|false=>false)=true
                  rw[h1]
                simp only[Zp,ht,hl,Hs,hones,ho,hp,Xzp];rw[show Nat.beq (len [v]) ti.size=true from hsz];rfl
            · exact e
        · exact e
      · exact e
def bnA(A:Xm)(K:Value→Xm→XG)(S':XG)(F:F2)(k:IntKind)(a:Int)(u:Value):XG:=Xos u (fun k' b=>F.go k a k' b (kv A K) S') S'
def bnV(F:F2)(A:Xm)(K:Value→Xm→XG)(S':XG)(v u:Value):XG:=Xos v (fun k a=>bnA A K S' F k a u) S'
def Ylp (T:Tab) (op:BinOp) (t:TypeId) (x y:Operand):XO:=
  ⟨fun vars over A K _ S=>(cRd T x).get vars over (fun v=>(cRd T y).get vars over (fun u=>bnV (Xvl op) A K (oK (Zr T A op t x y v u) (kv A K) S) v u) S) S⟩
theorem Yaz {T:Tab} {op:BinOp} {t u:TypeId} {x y:Operand}:(Ylp T op t x y).Ok T (.binOp op t x y u):=by
  intro vars over A K En Ot
  show(cRd T x).get vars over _ _=_
  rw[J8];cases hx:Xy T.nglob vars over x with
  |none=>rfl
  | some v =>
    show(cRd T y).get vars over _ _=_
    rw[J8];cases hy:Xy T.nglob vars over y with
    |none=>rfl
    | some u'=>
      have hop:aop T A (Xy T.nglob vars over) (.binOp op t x y u)=rp A (Zr T A op t x y v u'):=by
        show Xm4 T A (Xy T.nglob vars over) op t x y=_
        unfold Xm4;rw[hx,hy]
      have hS:oK (Zr T A op t x y v u') (kv A K) (VA (aop T A (Xy T.nglob vars over) (.binOp op t x y u)) K En Ot)=VA (aop T A (Xy T.nglob vars over) (.binOp op t x y u)) K En Ot:=by
        rw[hop];cases Zr T A op t x y v u'<;>rfl
      show bnV (Xvl op) A K (oK (Zr T A op t x y v u') (kv A K) (VA (aop T A (Xy T.nglob vars over) (.binOp op t x y u)) K En Ot)) v u'=_
      unfold bnV;rcases Xak v (fun k a=>bnA A K (oK (Zr T A op t x y v u') (kv A K) (VA (aop T A (Xy T.nglob vars over) (.binOp op t x y u)) K En Ot)) (Xvl op) k a u') (oK (Zr T A op t x y v u') (kv A K) (VA (aop T A (Xy T.nglob vars over) (.binOp op t x y u)) K En Ot))with⟨k,a,rfl,e⟩|e
      · rw [e];unfold bnA;rcases Xak u' (fun k' b=>(Xvl op).go k a k' b (kv A K) (oK (Zr T A op t x y (.int k a) u') (kv A K) (VA (aop T A (Xy T.nglob vars over) (.binOp op t x y u)) K En Ot))) (oK (Zr T A op t x y (.int k a) u') (kv A K) (VA (aop T A (Xy T.nglob vars over) (.binOp op t x y u)) K En Ot))with⟨k',b,rfl,e⟩|e
        · rw[e,Xzi];have hb:Zr T A op t x y (.int k a) (.int k' b)=Xrr op k a k' b:=rfl;rw[hb]at hS⊢;cases hi:Xrr op k a k' b with
          |none=>rw[hi]at hS;exact hS
          |some r=>rw[hi]at hS;exact hS
        · rw[e];exact hS
      · rw[e];exact hS
def Yfr (T:Tab) (t:TypeId) (f:Nat):Option Nat:=
  match T.ty.get t with
  | some {desc:= .struct ⟨fs⟩, .. }=>
    (match nth fs f with
      | some fd=>(match T.ty.get fd.type with
        |some ti=>(match ti.size with|0=>none|_+1=>some fd.offset)
        |none=>none)
      |none=>none)
  |_=>none
def faP(o:Nat)(A:Xm)(K:Value→Xm→XG)(b off:Nat):XG:=K (.pointer (some ⟨b,Nat.add off o,none⟩)) A
def faV(o:Nat)(A:Xm)(K:Value→Xm→XG)(S:XG)(p:Value):XG:=Xci p (faP o A K) S
def Xah (T:Tab) (t:TypeId) (x:Operand) (f:Nat):XO:=
  match Yfr T t f with
  |some o=>⟨fun vars over A K _ S=>(cRd T x).get vars over (faV o A K S) S⟩
  |none=>Xbq fun vars over A=>GQ T A (Xy T.nglob vars over) t x f
theorem Xf1 {T:Tab} {t:TypeId} {x:Operand} {f:Nat}:(Xah T t x f).Ok T (.fieldAddr t x f):=by
  unfold Xah;split
  case h_2=>exact VR fun _ _ _=>rfl
  rename_i o ho;intro vars over A K En Ot
  show(cRd T x).get vars over _ _=_
  rw[J8];cases hx:Xy T.nglob vars over x with
  |none=>rfl
  | some p=>
    show Xci p _ _=_
    rcases HB p (faP o A K) (VA (aop T A (Xy T.nglob vars over) (.fieldAddr t x f)) K En Ot)with⟨b,off,rfl,e⟩|e
    · rw [e];refine Ve ?_
      show GQ T A (Xy T.nglob vars over) t x f=_
      unfold GQ;rw[hx];unfold Yfr at ho;split at ho
      case h_2=>cases ho
      rename_i fs _ _ _ _ ht;split at ho
      case h_2=>cases ho
      rename_i fd hf;split at ho
      case h_2=>cases ho
      rename_i ti hti;split at ho
      · cases ho
      · rename_i n hn;injection ho with ho;subst ho;simp only[Jt,ht,hf,hti,hn];rfl
    · exact e
def Yls (T:Tab) (t:TypeId):Option Nat:=
  match T.ty.get t with
  |some {desc:= .slice el, .. }=>(match T.ty.get el with|some ti=>some ti.size|none=>none)
  |_=>none
def iaP(sz i n:Nat)(A:Xm)(K:Value→Xm→XG)(S:XG)(b off:Nat):XG:=bK (Nat.blt i n) (K (.pointer (some ⟨b,Nat.add off (Nat.mul i sz),none⟩)) A) S
def iaS(sz i:Nat)(A:Xm)(K:Value→Xm→XG)(S:XG)(a:Option Addr)(n _c:Nat):XG:=aK a (iaP sz i n A K S) S
def iaN(sz:Nat)(x:Value)(A:Xm)(K:Value→Xm→XG)(S:XG)(i:Nat):XG:=Yd8 x (iaS sz i A K S) S
def iaV(sz:Nat)(x:Value)(A:Xm)(K:Value→Xm→XG)(S:XG)(iv:Value):XG:=Xos iv (fun _ n=>nK n (iaN sz x A K S) S) S
def Xag (T:Tab) (t:TypeId) (x i:Operand):XO:=
  match Yls T t with
  |some sz=>⟨fun vars over A K _ S=>(cRd T x).get vars over (fun v=>(cRd T i).get vars over (iaV sz v A K S) S) S⟩
  |none=>Xbq fun vars over A=>GP T A (Xy T.nglob vars over) t x i
theorem Xf0 {T:Tab} {t:TypeId} {x i:Operand}:(Xag T t x i).Ok T (.indexAddr t x i):=by
  unfold Xag;split
  case h_2=>exact VR fun _ _ _=>rfl
  rename_i sz hsz;intro vars over A K En Ot
  show(cRd T x).get vars over _ _=_
  rw[J8];cases hx:Xy T.nglob vars over x with
  |none=>rfl
  | some v =>
    show(cRd T i).get vars over _ _=_
    rw[J8];cases hi:Xy T.nglob vars over i with
    |none=>rfl
    | some iv =>
      show Xos iv _ _=_
      rcases Xak iv (fun _ n=>nK n (iaN sz v A K (VA (aop T A (Xy T.nglob vars over) (.indexAddr t x i)) K En Ot)) (VA (aop T A (Xy T.nglob vars over) (.indexAddr t x i)) K En Ot)) (VA (aop T A (Xy T.nglob vars over) (.indexAddr t x i)) K En Ot)with⟨k,n,rfl,e⟩|e
      · rw [e];cases n with
        |negSucc m=>rfl
        | ofNat j=>
          show Yd8 v _ _=_
          rcases Xh6 v (iaS sz j A K (VA (aop T A (Xy T.nglob vars over) (.indexAddr t x i)) K En Ot)) (VA (aop T A (Xy T.nglob vars over) (.indexAddr t x i)) K En Ot)with⟨a,n,c,rfl,e⟩|e
          · rw [e];unfold iaS;rcases Xv6 a (iaP sz j n A K (VA (aop T A (Xy T.nglob vars over) (.indexAddr t x i)) K En Ot)) (VA (aop T A (Xy T.nglob vars over) (.indexAddr t x i)) K En Ot)with⟨b,off,rfl,e⟩|e
            · rw [e];unfold iaP;cases hlt:Nat.blt j n with
              |false=>rfl
              | true=>
                refine Ve ?_
                show GP T A (Xy T.nglob vars over) t x i=_
                unfold GP;rw[hx,hi];unfold Yls at hsz;split at hsz
                case h_2=>cases hsz
                rename_i el _ _ _ _ ht;split at hsz
                case h_2=>cases hsz
                rename_i ti hti;injection hsz with hsz;subst hsz;simp only[Js,ht,hti,hlt];rfl
            · exact e
          · exact e
      · exact e
def exL(i:Nat)(A:Xm)(K:Value→Xm→XG)(S:XG)(l:List Value):XG:=oK (nth l i) (kv A K) S
def exV(i:Nat)(A:Xm)(K:Value→Xm→XG)(S:XG)(v:Value):XG:=Xwq v (exL i A K S) S
def Xna(T:Tab)(x:Operand)(i:Nat):XO:=⟨fun vars over A K _ S=>(cRd T x).get vars over (exV i A K S) S⟩
theorem Xk7 {T:Tab} {x:Operand} {i:Nat}:(Xna T x i).Ok T (.extract x i):=by
  intro vars over A K En Ot
  show(cRd T x).get vars over _ _=_
  rw[J8];cases hx:Xy T.nglob vars over x with
  |none=>rfl
  | some v =>
    show Xwq v _ _=_
    rcases Xor v (exL i A K (VA (aop T A (Xy T.nglob vars over) (.extract x i)) K En Ot)) (VA (aop T A (Xy T.nglob vars over) (.extract x i)) K En Ot)with⟨l,rfl,e⟩|e
    · rw [e];unfold exL;cases hl:nth l i with
      |none=>rfl
      | some u=>
        refine Ve ?_
        show Xdw A (Xy T.nglob vars over) x i=_
        unfold Xdw;rw[hx];rw[YH]at hl;have:Vu (.tuple ⟨l⟩) i=some u:=by
          exact hl
        show rp A (Vu (.tuple ⟨l⟩) i)=_
        rw[this];rfl
    · exact e
def Yco (T:Tab) (t:TypeId) (f:Nat):Option (Nat×Option Nat):=
  match T.ty.get t with
  | some {desc:= .struct ⟨fs⟩, .. }=>
    (match nth fs f with
      | some fd=>(match T.ty.get fd.type with
        |some ti=>some (fd.offset,(match Xdc ti.desc with|true=>some ti.size|false=>none))
        |none=>none)
      |none=>none)
  |_=>none
def Ym3(o:Nat)(A:Xm)(K:Value→Xm→XG)(S:XG)(v:Value):XG:=Xou v (ldX o A K S) S
def Ym2(o n:Nat)(A:Xm)(K:Value→Xm→XG)(S:XG)(v:Value):XG:=Xou v (laX n o A K S) S
def Xrw (T:Tab) (t:TypeId) (x:Operand) (f:Nat):XO:=
  match Yco T t f with
  |some (o,none)=>⟨fun vars over A K _ S=>(cRd T x).get vars over (Ym3 o A K S) S⟩
  |some (o,some n)=>⟨fun vars over A K _ S=>(cRd T x).get vars over (Ym2 o n A K S) S⟩
  |none=>Xbq fun vars over A=>Xa7 T A (Xy T.nglob vars over) t x f
theorem Xn8 {T:Tab} {t:TypeId} {f o:Nat} {m:Option Nat} (h:Yco T t f=some (o,m)) (cs:List Value):Hh T t (.agg ⟨cs⟩) f=match m with|some n=>(match takeN (Y2 cs o) n with|some ys=>some (.agg ⟨ys⟩)|none=>none)|none=>nth cs o:=by
  unfold Yco at h;split at h
  case h_2=>cases h
  rename_i fs _ _ _ _ ht;split at h
  case h_2=>cases h
  rename_i fd hf;split at h
  case h_2=>cases h
  rename_i ti hti;cases hag:Xdc ti.desc with
  | true=>
    rw[hag]at h;injection h with h;injection h with h1 h2;subst h1;subst h2;simp only[Hh,ht,hf,G5,hti,hag];rfl
  | false=>
    rw[hag]at h;injection h with h;injection h with h1 h2;subst h1;subst h2;simp only[Hh,ht,hf,G5,hti,hag]
theorem Xrv {T:Tab} {t:TypeId} {x:Operand} {f:Nat}:(Xrw T t x f).Ok T (.field t x f):=by
  unfold Xrw;split
  case h_3=>exact VR fun _ _ _=>rfl
  · rename_i o ho;intro vars over A K En Ot
    show(cRd T x).get vars over _ _=_
    rw[J8];cases hx:Xy T.nglob vars over x with
    |none=>rfl
    | some v=>
      show Xou v _ _=_
      rcases Xez v (ldX o A K (VA (aop T A (Xy T.nglob vars over) (.field t x f)) K En Ot)) (VA (aop T A (Xy T.nglob vars over) (.field t x f)) K En Ot)with⟨l,rfl,e⟩|e
      · rw [e];unfold ldX;cases hl:nth l o with
        |none=>rfl
        | some u=>
          refine Ve ?_
          show Xa7 T A (Xy T.nglob vars over) t x f=_
          unfold Xa7;rw[hx];simp only[Xn8 ho,hl];rfl
      · exact e
  · rename_i o n ho;intro vars over A K En Ot
    show(cRd T x).get vars over _ _=_
    rw[J8];cases hx:Xy T.nglob vars over x with
    |none=>rfl
    | some v=>
      show Xou v _ _=_
      rcases Xez v (laX n o A K (VA (aop T A (Xy T.nglob vars over) (.field t x f)) K En Ot)) (VA (aop T A (Xy T.nglob vars over) (.field t x f)) K En Ot)with⟨l,rfl,e⟩|e
      · rw [e];unfold laX;cases hl:takeN (Y2 l o) n with
        |none=>rfl
        | some u=>
          refine Ve ?_
          show Xa7 T A (Xy T.nglob vars over) t x f=_
          unfold Xa7;rw[hx];simp only[Xn8 ho,hl];rfl
      · exact e
def lnS(A:Xm)(K:Value→Xm→XG)(_a:Option Addr)(n _c:Nat):XG:=K (.int .i64 (.ofNat n)) A
def lnV(A:Xm)(K:Value→Xm→XG)(S:XG)(v:Value):XG:=Yd8 v (lnS A K) S
def Ylr(T:Tab)(t:TypeId):Bool:=match T.ty.get t with|some {desc:= .slice _, .. }=>true|_=>false
def enC(En:FuncId→List Value→XG)(f:FuncId)(l:List Value):XG:=En f l
def Yay (T:Tab) (c:Call):XO:=
  match c with
  | { callee:= .value (.func f),args:=args, .. }=>
    (match T.fn.get f with
      |some _=>⟨fun vars over _ _ En S=>(Xvm T args.toList).run vars over (enC En f) S⟩
      |none=>Xbq fun vars over A=>Xed T A (Xy T.nglob vars over) c)
  | { callee:= .builtin .len,args:=⟨[x]⟩,argTypes:=⟨[t]⟩}=>
    (match Ylr T t with
      |true=>⟨fun vars over A K _ S=>(cRd T x).get vars over (lnV A K S) S⟩
      |false=>Xbq fun vars over A=>Xed T A (Xy T.nglob vars over) c)
  |c=>Xbq fun vars over A=>Xed T A (Xy T.nglob vars over) c
theorem Xwp {T:Tab} {c:Call}:(Yay T c).Ok T (.call c):=by
  unfold Yay;split
  case h_3=>exact VR fun _ _ _=>rfl
  · rename_i f args ats;split
    case h_2=>exact VR fun _ _ _=>rfl
    rename_i fn hf;intro vars over A K En Ot
    show(Xvm T args.toList).run vars over (enC En f) _=_
    rw[Xzj];have hop:aop T A (Xy T.nglob vars over) (.call {callee:= .value (.func f),args:=args,argTypes:=ats})=(match evL (Xy T.nglob vars over) args.toList with|some l=>Xir T A (.func (.func f) #[] #[]) l|none=>none):=by
      show Xed T A (Xy T.nglob vars over) _=_
      unfold Xed;cases evL (Xy T.nglob vars over) args.toList<;>rfl
    cases hl:evL (Xy T.nglob vars over) args.toList with
    |none=>rfl
    | some l=>
      refine Xqs ?_;rw[hop,hl]
      show Xir T A (.func (.func f) ⟨[]⟩ ⟨[]⟩) l=_
      unfold Xir;simp only[hf];have:app (app [] l) []=l:=by simp
      rw[this]
  · rename_i x t;split
    case h_2=>exact VR fun _ _ _=>rfl
    rename_i hsl;intro vars over A K En Ot
    show(cRd T x).get vars over _ _=_
    rw[J8];cases hx:Xy T.nglob vars over x with
    |none=>rfl
    | some v=>
      show Yd8 v _ _=_
      rcases Xh6 v (lnS A K) (VA (aop T A (Xy T.nglob vars over) (.call {callee:= .builtin .len,args:=⟨[x]⟩,argTypes:=⟨[t]⟩})) K En Ot)with⟨a,n,c,rfl,e⟩|e
      · rw[e];refine Ve ?_
        show Xed T A (Xy T.nglob vars over) _=_
        have hl:evL (Xy T.nglob vars over) [x]=some [.slice a n c]:=by rw[Xhi,hx];rfl
        unfold Xed;simp only[hl]
        show rp A (Xtj T A [t] (.slice a n c))=_
        unfold Ylr at hsl;split at hsl
        case h_2=>cases hsl
        rename_i el _ _ _ _ ht;simp only[Xtj,ht];rfl
      · exact e
def cOp (T:Tab) (o:Op):XO:=
  match o with
  | .move x=>Yaw T x
  | .assign x=>Yaw T x
  | .load t a=>Yax T t a
  | .store t a x=>Xru T t a x
  | .binOp op t x y _=>Ylp T op t x y
  | .fieldAddr t x f=>Xah T t x f
  | .field t x f=>Xrw T t x f
  | .indexAddr t x i=>Xag T t x i
  | .extract x i=>Xna T x i
  | .call c=>Yay T c
  | .alloc t=>Xbq fun _ _ A=>rv (Xl8 T A t)
  | .box _ x=>Xbq fun vars over A=>Ygj A (Xy T.nglob vars over) x
  | .build t ps=>Xbq fun vars over A=>Xvz T A (Xy T.nglob vars over) t ps
  | .buildSlice t n ps=>Xbq fun vars over A=>Xbn T A (Xy T.nglob vars over) t n ps
  | .nilCheck x=>Xbq fun vars over A=>Xfq A (Xy T.nglob vars over) x
  | .unOp op _ x=>Xbq fun vars over A=>Yar A (Xy T.nglob vars over) op x
  | .convert s d x=>Xbq fun vars over A=>Xkc T A (Xy T.nglob vars over) s d x
  | .makeInterface t x=>Xbq fun vars over A=>Hv T A (Xy T.nglob vars over) t x
  | .makeSlice t l c=>Xbq fun vars over A=>Xdv T A (Xy T.nglob vars over) t l c
  | .slice t x lo hi none=>Xbq fun vars over A=>Xvv T A (Xy T.nglob vars over) t x lo hi
  | .index t x i=>Xbq fun vars over A=>Xvy T A (Xy T.nglob vars over) t x i
  | .lookup t x i ok=>Xbq fun vars over A=>Xok T A (Xy T.nglob vars over) t x i ok
  | .mapUpdate t m k x=>Xbq fun vars over A=>Xdu T A (Xy T.nglob vars over) t m k x
  | .typeAssert x _ t ok=>Xbq fun vars over A=>Xbm T A (Xy T.nglob vars over) x t ok
  |o=>Xbq fun vars over A=>aop T A (Xy T.nglob vars over) o
theorem Ygd {T:Tab} {o:Op}:(cOp T o).Ok T o:=by
  unfold cOp;split<;>first
    |exact Xwn fun _ _=>rfl
    |exact Xwo
    |exact Xrt
    |exact Yaz
    |exact Xf1
    |exact Xrv
    |exact Xf0
    |exact Xk7
    |exact Xwp
    |exact VR fun _ _ _=>rfl
abbrev Xz2:=List (Option Value)→List (Nat×Value)→List Ye→Xt
def VV(fn:FuncId)(nt:Nat)(defers:List Deferred)(mode:H8)(kind:CallKind)(ro:Option Nat):Xz2:=fun vars over todo=>⟨fn,nt,vars,over,todo,defers,mode,kind,ro⟩
structure XR where
  run:Xz2→Nat→List Xt→List Ye→List Ye→List (Option Value)→List (Nat×Value)→Xm→XG
def Yif (xr:XR) (mk:Xz2) (nt:Nat) (cs:List Xt) (k td:List Ye) (vars:List (Option Value)) (over:List (Nat×Value)) (t:Nat) (v:Value) (A:Xm):XG:=
  bK (Nat.blt t nt) (Option.rec (motive:=fun _=>XG) (xr.run mk nt cs k td vars ((t,v)::over) A) (fun _=>xr.run mk nt cs k td (Xp8 (some v) vars t) over A) (nth vars t)) .stuck
structure XS where
  set:XR→Xz2→Nat→List Xt→List Ye→List Ye→List (Option Value)→List (Nat×Value)→Value→Xm→XG
def Xq8 (d:Option Tmp):XS:=
  match d with
  |none=>⟨fun xr mk nt cs k td vars over _ A=>xr.run mk nt cs k td vars over A⟩
  |some t=>⟨fun xr mk nt cs k td vars over v A=>Yif xr mk nt cs k td vars over t v A⟩
def enR (T:Tab) (mk:Xz2) (cs:List Xt) (td:List Ye) (vars:List (Option Value)) (over:List (Nat×Value)) (A:Xm) (f:FuncId) (l:List Value):XG:=
  oK (Zi T f l .normal) (fun fr=> .next ⟨fr,mk vars over td::cs,A⟩) .stuck
def gdK(want:Bool)(f g S:XG)(v:Value):XG:=Xnc v (fun b=>bK want (bK b f g) (bK b g f)) S
def Ydm (T:Tab) (ops:Array Oper) (o:Oper) (r:List Oper) (xr:XR):XR:=
  match o.guard with
  |none=>⟨fun mk nt cs k td vars over A=>(cOp T o.op).run vars over A ((Xq8 o.dst).set xr mk nt cs k td vars over) (enR T mk cs (.inRegion ops (o::r)::k) vars over A) (K5 T ops k (o::r) ⟨mk vars over td,cs,A⟩)⟩
  | some (j, want)=>
    (match nth ops.toList j with
      | some g=>(match g.dst with
        | some t=>⟨fun mk nt cs k td vars over A=>tgK (nth vars t) over t (gdK want
            ((cOp T o.op).run vars over A ((Xq8 o.dst).set xr mk nt cs k td vars over) (enR T mk cs (.inRegion ops (o::r)::k) vars over A) (K5 T ops k (o::r) ⟨mk vars over td,cs,A⟩))
            ((Xq8 o.dst).set xr mk nt cs k td vars over undef A) (K5 T ops k (o::r) ⟨mk vars over td,cs,A⟩)) (K5 T ops k (o::r) ⟨mk vars over td,cs,A⟩)⟩
        |none=>⟨fun mk _ cs k td vars over A=>K5 T ops k (o::r) ⟨mk vars over td,cs,A⟩⟩)
      |none=>⟨fun mk _ cs k td vars over A=>K5 T ops k (o::r) ⟨mk vars over td,cs,A⟩⟩)
def Xa3 (T:Tab) (ops:Array Oper) (rest:List Oper):XR:=
  List.rec (motive:=fun _=>XR) ⟨fun mk _ cs k _ vars over A=> .next ⟨mk vars over k,cs,A⟩⟩ (fun o r xr=>Ydm T ops o r xr) rest
theorem Xm0 {T:Tab} {ops:Array Oper} {r:List Oper} {xr:XR} {fn nt:Nat} {defers:List Deferred} {mode:H8} {kind:CallKind} {ro:Option Nat}
    (hr:∀cs k td vars over A,xr.run (VV fn nt defers mode kind ro) nt cs k td vars over A=K5 T ops k r ⟨VV fn nt defers mode kind ro vars over td,cs,A⟩)
    (d:Option Tmp) (cs:List Xt) (k td:List Ye) (vars:List (Option Value)) (over:List (Nat×Value)) (v:Value) (A:Xm) (cs0:List Xt) (A0:Xm) (hcs:cs0=cs):
    (Xq8 d).set xr (VV fn nt defers mode kind ro) nt cs k td vars over v A=
      (match(VV fn nt defers mode kind ro vars over td).put d v with|some fr=>K5 T ops k r {({fr:=VV fn nt defers mode kind ro vars over td,cs:=cs0,A:=A0}:ASt)with fr:=fr,A:=A}|none=> .stuck):=by
  subst hcs;cases d with
  |none=>exact hr _ _ _ _ _ _
  | some t=>
    show Yif xr (VV fn nt defers mode kind ro) nt cs0 k td vars over t v A=(match(match Nat.blt t nt,Xko vars over t v with|true,(vs,ov)=>some ({VV fn nt defers mode kind ro vars over td with vars:=vs,over:=ov}:Xt)|false,_=>none)with
      |some fr=>K5 T ops k r {({fr:=VV fn nt defers mode kind ro vars over td,cs:=cs0,A:=A0}:ASt)with fr:=fr,A:=A}|none=> .stuck)
    unfold Yif Xko;cases Nat.blt t nt with
    |false=>cases nth vars t<;>rfl
    | true=>
      cases nth vars t with
      |none=>exact hr _ _ _ _ _ _
      |some a=>exact hr _ _ _ _ _ _
theorem Xob (T:Tab) (ops:Array Oper) {fn nt:Nat} {defers:List Deferred} {mode:H8} {kind:CallKind} {ro:Option Nat}:∀(rest:List Oper) (cs:List Xt) (k td:List Ye) (vars:List (Option Value)) (over:List (Nat×Value)) (A:Xm),
    (Xa3 T ops rest).run (VV fn nt defers mode kind ro) nt cs k td vars over A=K5 T ops k rest ⟨VV fn nt defers mode kind ro vars over td,cs,A⟩:=by
  intro rest
  induction rest with
  |nil=>intro cs k td vars over A;rfl
  | cons o r ih=>
    intro cs k td vars over A;have hrun:∀{S:XG},S=K5 T ops k (o::r) ⟨VV fn nt defers mode kind ro vars over td,cs,A⟩→GS (VV fn nt defers mode kind ro vars over td) ops.toList o=some true→
        (cOp T o.op).run vars over A ((Xq8 o.dst).set (Xa3 T ops r) (VV fn nt defers mode kind ro) nt cs k td vars over) (enR T (VV fn nt defers mode kind ro) cs (.inRegion ops (o::r)::k) vars over A) S=S:=by
      intro S hS hw;have key:S=VA (aop T A (Xy T.nglob vars over) o.op) ((Xq8 o.dst).set (Xa3 T ops r) (VV fn nt defers mode kind ro) nt cs k td vars over) (enR T (VV fn nt defers mode kind ro) cs (.inRegion ops (o::r)::k) vars over A)
          (fun res=>K4 T ⟨VV fn nt defers mode kind ro vars over (.inRegion ops (o::r)::k),cs,A⟩ res):=by
        rw[hS];unfold K5;simp only;rw[hw];simp only
        show (match aop T A (Xy T.nglob vars over) o.op with
          |some (.val v A')=>(match(VV fn nt defers mode kind ro vars over td).put o.dst v with|some fr=>K5 T ops k r _|none=> .stuck)
          |some (.skip A')=>(match(VV fn nt defers mode kind ro vars over td).put o.dst undef with|some fr=>K5 T ops k r _|none=> .stuck)
          |some res=>K4 T _ res
          |none=> .stuck)=_
        cases aop T A (Xy T.nglob vars over) o.op with
        |none=>rfl
        | some res=>
          cases res with
          |val v A'=>exact(Xm0 ih o.dst cs k td vars over v A' cs A rfl).symm
          |skip A'=>exact(Xm0 ih o.dst cs k td vars over undef A' cs A rfl).symm
          | enter f l=>
            show K4 T _ (.enter f l)=enR T _ cs _ vars over A f l
            show Xht T _ f l=_
            unfold Xht enR;cases Zi T f l .normal<;>rfl
          |_=>rfl
      rw[key];exact Ygd _ _ _ _ _ _
    show(Ydm T ops o r (Xa3 T ops r)).run _ _ _ _ _ _ _ _=_
    unfold Ydm;split
    · rename_i hg;refine hrun rfl ?_;unfold GS;rw[hg]
    · rename_i j want hg;split
      case h_2=>rfl
      rename_i g hj;split
      case h_2=>rfl
      rename_i t ht;have hw:GS (VV fn nt defers mode kind ro vars over td) ops.toList o=Z9 (Gn vars over t) want:=by
        unfold GS;rw[hg];simp only[hj,ht];rfl
      have hskip:Z9 (Gn vars over t) want=some false→(Xq8 o.dst).set (Xa3 T ops r) (VV fn nt defers mode kind ro) nt cs k td vars over undef A=K5 T ops k (o::r) ⟨VV fn nt defers mode kind ro vars over td,cs,A⟩:=by
        intro hy;rw[Xm0 ih o.dst cs k td vars over undef A cs A rfl]
        conv=>rhs;unfold K5
        simp only;rw[hw,hy]
        all_goals rfl
      have hval:∀v,Gn vars over t=some v→gdK want
            ((cOp T o.op).run vars over A ((Xq8 o.dst).set (Xa3 T ops r) (VV fn nt defers mode kind ro) nt cs k td vars over) (enR T (VV fn nt defers mode kind ro) cs (.inRegion ops (o::r)::k) vars over A) (K5 T ops k (o::r) ⟨VV fn nt defers mode kind ro vars over td,cs,A⟩))
            ((Xq8 o.dst).set (Xa3 T ops r) (VV fn nt defers mode kind ro) nt cs k td vars over undef A) (K5 T ops k (o::r) ⟨VV fn nt defers mode kind ro vars over td,cs,A⟩) v=K5 T ops k (o::r) ⟨VV fn nt defers mode kind ro vars over td,cs,A⟩:=by
        intro v hv;unfold gdK;rcases Xlb v (fun b=>bK want (bK b ((cOp T o.op).run vars over A ((Xq8 o.dst).set (Xa3 T ops r) (VV fn nt defers mode kind ro) nt cs k td vars over) (enR T (VV fn nt defers mode kind ro) cs (.inRegion ops (o::r)::k) vars over A) (K5 T ops k (o::r) ⟨VV fn nt defers mode kind ro vars over td,cs,A⟩))
            ((Xq8 o.dst).set (Xa3 T ops r) (VV fn nt defers mode kind ro) nt cs k td vars over undef A)) (bK b ((Xq8 o.dst).set (Xa3 T ops r) (VV fn nt defers mode kind ro) nt cs k td vars over undef A) ((cOp T o.op).run vars over A ((Xq8 o.dst).set (Xa3 T ops r) (VV fn nt defers mode kind ro) nt cs k td vars over) (enR T (VV fn nt defers mode kind ro) cs (.inRegion ops (o::r)::k) vars over A) (K5 T ops k (o::r) ⟨VV fn nt defers mode kind ro vars over td,cs,A⟩)))) (K5 T ops k (o::r) ⟨VV fn nt defers mode kind ro vars over td,cs,A⟩)with⟨b,rfl,e⟩|e
        · rw[e];cases b<;>cases want
          · exact hrun rfl (by rw[hw,hv];rfl)
          · exact hskip (by rw[hv];rfl)
          · exact hskip (by rw[hv];rfl)
          · exact hrun rfl (by rw[hw,hv];rfl)
        · exact e
      show tgK (nth vars t) over t _ _=_
      unfold tgK;cases hn:nth vars t with
      | none=>
        show oK (XK over t) _ _=_
        cases hl:XK over t with
        |none=>rfl
        |some v=>exact hval v (by unfold Gn;rw[hn];exact hl)
      | some a=>
        show oK a _ _=_
        cases a with
        |none=>rfl
        |some v=>exact hval v (by unfold Gn;rw[hn])
structure XC where
  run:Xz2→Nat→List Xt→List Ye→List Ye→List (Option Value)→List (Nat×Value)→Xm→XG
def Yi1 (xa xb:XC) (mk:Xz2) (nt:Nat) (cs:List Xt) (k td:List Ye) (vars:List (Option Value)) (over:List (Nat×Value)) (A:Xm) (b:Bool):XG:=
  bK b (xa.run mk nt cs k td vars over A) (xb.run mk nt cs k td vars over A)
def Yi0 (xa xb:XC) (mk:Xz2) (nt:Nat) (cs:List Xt) (k td:List Ye) (vars:List (Option Value)) (over:List (Nat×Value)) (A:Xm) (v:Value):XG:=
  Xnc v (Yi1 xa xb mk nt cs k td vars over A) .stuck
def Xk6(T:Tab)(c:Code):XC:=⟨fun mk _ cs k _ vars over A=>Xrk T ⟨mk vars over (.code c::k),cs,A⟩ c k⟩
def Yes(id:Nat):XC:=⟨fun mk _ cs k _ vars over A=>oK (V6 id k) (fun k'=> .next ⟨mk vars over k',cs,A⟩) (Xaa ⟨mk vars over (.code (.exit id)::k),cs,A⟩ (some (.exit id)))⟩
def Yia (T:Tab) (id:Nat) (ops:Array Oper) (draw:Bool):XC:=
  match draw with
  |false=>⟨fun mk nt cs k td vars over A=>(Xa3 T ops ops.toList).run mk nt cs k td vars (Jb over) A⟩
  |true=>Xk6 T (.region id ops true)
def Xzh (T:Tab) (c:Code):XC:=
  Code.rec (motive:=fun _=>XC) (Xk6 T .skip) (fun id ops draw=>Yia T id ops draw)
    (fun _ b xa _=>⟨fun mk nt cs k td vars over A=>xa.run mk nt cs (.code b::k) td vars over A⟩)
    (fun x _ _ xa xb=>⟨fun mk nt cs k td vars over A=>(cRd T x).get vars over (Yi0 xa xb mk nt cs k td vars over A) .stuck⟩)
    (fun id _ xb=>⟨fun mk nt cs k td vars over A=>xb.run mk nt cs (.inBlock id::k) td vars over A⟩)
    (fun b xb=>⟨fun mk nt cs k td vars over A=>xb.run mk nt cs (.inLoop b::k) td vars over A⟩)
    (fun f ps a b _ _=>Xk6 T (.rangeFunc f ps a b))
    (fun id=>Yes id)
    (fun b xb=>⟨fun mk nt cs k td vars over A=>xb.run mk nt cs (.inScope b::k) td vars over A⟩)
    (fun l=>Xk6 T (.label l)) (fun l=>Xk6 T (.goto l)) (Xk6 T .ret) (fun w=>Xk6 T (.refuse w)) c
theorem Xhm (T:Tab) {fn nt:Nat} {defers:List Deferred} {mode:H8} {kind:CallKind} {ro:Option Nat}:∀(c:Code) (cs:List Xt) (k td:List Ye) (vars:List (Option Value)) (over:List (Nat×Value)) (A:Xm),
    (Xzh T c).run (VV fn nt defers mode kind ro) nt cs k td vars over A=Zv T c ⟨VV fn nt defers mode kind ro vars over td,cs,A⟩ k:=by
  intro c
  induction c with
  |seq a b iha ihb=>intro cs k td vars over A;exact iha _ _ _ _ _ _
  | cond x a b iha ihb=>
    intro cs k td vars over A
    show(cRd T x).get vars over _ _=(match Xy T.nglob vars over x with|some (.bool true)=>Zv T a ⟨VV fn nt defers mode kind ro vars over td,cs,A⟩ k|some (.bool false)=>Zv T b ⟨VV fn nt defers mode kind ro vars over td,cs,A⟩ k|_=> .stuck)
    rw[J8];cases hx:Xy T.nglob vars over x with
    |none=>rfl
    | some v=>
      cases v with
      | bool q=>cases q with
        |true=>exact iha _ _ _ _ _ _
        |false=>exact ihb _ _ _ _ _ _
      |_=>rfl
  |block id b ih=>intro cs k td vars over A;exact ih _ _ _ _ _ _
  |loop b ih=>intro cs k td vars over A;exact ih _ _ _ _ _ _
  |scope b ih=>intro cs k td vars over A;exact ih _ _ _ _ _ _
  | region id ops draw=>
    intro cs k td vars over A;cases draw with
    |true=>rfl
    |false=>exact Xob T ops ops.toList cs k td vars (Jb over) A
  | exit id=>
    intro cs k td vars over A
    show oK (V6 id k) _ _=Xv7 ⟨VV fn nt defers mode kind ro vars over (.code (.exit id)::k),cs,A⟩ id k
    unfold Xv7;cases V6 id k<;>rfl
  |_=>intro cs k td vars over A;rfl
def Ybp(o:XG):XG:=match o with| .next s=> .next (norm s)|o=>o
theorem Xns (o:XG):Ybp o=o:=by
  cases o with
  |next s=>show XG.next (norm s)=_;rw[norm_eq]
  |_=>rfl
def Yit (T:Tab) (i:Ye) (k:List Ye) (S:XG) (mk:Xz2) (nt:Nat) (cs:List Xt) (td:List Ye) (vars:List (Option Value)) (over:List (Nat×Value)) (A:Xm):XG:=
  match i with
  | .code c=>(Xzh T c).run mk nt cs k td vars over A
  | .inRegion ops rest=>(Xa3 T ops rest).run mk nt cs k td vars over A
  | .inBlock _=>(match k with| .code c::k'=>(Xzh T c).run mk nt cs k' td vars over A|_=>S)
  | .inLoop b=>(Xzh T b).run mk nt cs (.inLoop b::k) td vars over A
  |_=>S
def Yb7 (T:Tab) (s:ASt):XG:=
  match s with
  | ⟨⟨fn,nt,vars,over,todo,defers,mode,kind,ro⟩,cs,A⟩=>
    match mode,todo with
    | .run,i::k=>Yit T i k (Ybp (Xd1 T ⟨⟨fn,nt,vars,over,i::k,defers, .run,kind,ro⟩,cs,A⟩)) (VV fn nt defers .run kind ro) nt cs (i::k) vars over A
    |m,td=>Ybp (GJ T ⟨⟨fn,nt,vars,over,td,defers,m,kind,ro⟩,cs,A⟩)
theorem Xym (T:Tab) (s:ASt):Yb7 T s=GJ T s:=by
  obtain⟨⟨fn,nt,vars,over,todo,defers,mode,kind,ro⟩,cs,A⟩:=s;unfold Yb7;simp only;split
  · rename_i i k;rw[Xns];cases i with
    |code c=>exact Xhm T c cs k _ vars over A
    |inRegion ops rest=>exact Xob T ops rest cs k _ vars over A
    |inLoop b=>exact Xhm T b cs _ _ vars over A
    | inBlock id=>
      rcases k with _|⟨i,k⟩
      · rfl
      · cases i with
        |code c=>exact Xhm T c cs k _ vars over A
        |_=>rfl
    |_=>rfl
  · exact Xns _
def Yhn(T:Tab)(s:ASt):ASt:=match Yb7 T s with| .next s'=>s'| .branch [s']=>norm s'|_=>s
theorem Yb8 (T:Tab) (s:ASt):Yhn T s=norm (Yiw T s):=by
  unfold Yhn Yiw;rw[Xym,norm_eq];rcases GJ T s with s'|l|⟨f,v⟩|_
  · rfl
  · rcases l with _|⟨a,_|⟨b,l⟩⟩
    · rfl
    · exact norm_eq _
    · rfl
  · rfl
  · rfl
def Yi5 (T:Tab) (n:Nat):ASt→ASt:=
  Nat.rec (motive:=fun _=>ASt→ASt) (fun s=>Yhn T s) (fun _ ih s=>match ih s with|⟨fr,cs,A⟩=>ih ⟨fr,cs,A⟩) n
def Ko(T:Tab)(ns:List Nat)(s:ASt):ASt:=match ns with|[]=>s|n::r=>Ko T r (Yi5 T n s)
end
noncomputable section
variable {P:Program} {T:Tab} {B:Nat} {cs0:List Frame}
theorem Xa9.trans{m:Machine}{w:World}{s s':ASt}(h:Xa9 P T B cs0 m w s)(k:∀{μ:Mu} {fr':Frame} {cs':List Frame} {w':World},Xoo T B μ s fr' cs' w'→Xa9 P T B cs0 (lone fr' (cs'++cs0) w') w' s'):Xa9 P T B cs0 m w s':=by
 obtain⟨μ,fr',cs',w',h1,h2,h3⟩:=h;obtain⟨μ2,fr2,cs2,w2,k1,k2,k3⟩:=k h1;exact⟨μ2,fr2,cs2,w2,k1,h2.trans k2,h3.trans k3⟩
theorem Xa9.refl{μ:Mu}{s:ASt}{fr':Frame}{cs':List Frame}{w:World}(h:Xoo T B μ s fr' cs' w):Xa9 P T B cs0 (lone fr' (cs'++cs0) w) w s:=
 ⟨μ,fr',cs',w,h,Steps.refl _ _,Below.refl _ _⟩
theorem Ydo(C:Y0 P T)(n:Nat):∀{μ:Mu} {s:ASt} {fr':Frame} {cs':List Frame} {w:World},Xoo T B μ s fr' cs' w→Xa9 P T B cs0 (lone fr' (cs'++cs0) w) w (Yi5 T n s):=by
 induction n with
 |zero=>
  intro μ s fr' cs' w h;have hs:=Xhe (cs0:=cs0) C h
  show Xa9 P T B cs0 _ w (Yhn T s)
  rw[Yb8,norm_eq];unfold Yiw;split
  ·rename_i s' e;rw[e]at hs;exact hs
  ·rename_i s' e;rw[e]at hs;obtain⟨s2,hm,hg⟩:=hs;rw[List.mem_singleton]at hm;subst hm;exact hg
  ·exact Xa9.refl h
 |succ n ih=>
  intro μ s fr' cs' w h;have h1:=ih (cs':=cs') h;exact h1.trans (s':=Yi5 T (n+1) s) fun h2=>ih h2
theorem Xog(C:Y0 P T):∀(ns:List Nat) {μ:Mu} {s:ASt} {fr':Frame} {cs':List Frame} {w:World},Xoo T B μ s fr' cs' w→Xa9 P T B cs0 (lone fr' (cs'++cs0) w) w (Ko T ns s):=by
 intro ns
 induction ns with
 |nil=>intro μ s fr' cs' w h;exact Xa9.refl h
 |cons n ns ih=>
  intro μ s fr' cs' w h;exact(Ydo C n h).trans fun h2=>ih h2
def gcH(keep:List Nat)(h:Tr Yh):Tr Yh:=
 match keep with
 |[]=> .e
 |k::r=>(match h.get k with|some o=>(gcH r h).put (some o) k|none=>gcH r h)
theorem Xg8{h:Tr Yh}:∀{keep:List Nat} {k:Nat} {o:Yh},(gcH keep h).get k=some o→h.get k=some o:=by
 intro keep
 induction keep with
 |nil=>intro k o hk;cases hk
 |cons a keep ih=>
  intro k o hk;unfold gcH at hk;split at hk
  ·rename_i x hx;rcases Tr.get_put hk with⟨rfl,e⟩|⟨_,hk⟩
   ·injection e with e;subst e;exact hx
   ·exact ih hk
  ·exact ih hk
theorem Xyo{h:Tr Yh}:∀{keep:List Nat} {k:Nat} {o:Yh},k∈keep→k+1<2^24→h.get k=some o→(gcH keep h).get k=some o:=by
 intro keep
 induction keep with
 |nil=>intro k o hk;cases hk
 |cons a keep ih=>
  intro k o hk hlt ho;unfold gcH;by_cases e:a=k
  ·subst e;rw[ho];exact Tr.get_put_there _ _ _ hlt
  ·have hk:k∈keep:=by
    rcases List.mem_cons.1 hk with h|h
    ·exact absurd h.symm e
    ·exact h
   split
   ·rw[Tr.get_put_other _ _ _ _ (Ne.symm e)];exact ih hk hlt ho
   ·exact ih hk hlt ho
def Yb4(h:Tr Yh)(l:List Nat):List Nat:=
 match l with
 |[]=>[]
 |m::r=>(match h.get m with|some _=>m::Yb4 h r|none=>Yb4 h r)
theorem Xyf{h:Tr Yh}{m:Nat}{o:Yh}(ho:h.get m=some o):∀{l:List Nat},m∈l→m∈Yb4 h l:=by
 intro l
 induction l with
 |nil=>intro hm;cases hm
 |cons x l ih=>
  intro hm;unfold Yb4;rcases List.mem_cons.1 hm with rfl|hm
  ·rw[ho];simp
  ·split
   ·exact List.mem_cons_of_mem _ (ih hm)
   ·exact ih hm
def gcF(fs:List Nat)(h:Tr Yh)(t:Tr (List Nat)):Tr (List Nat):=
 match fs with
 |[]=> .e
 |f::r=>(match t.get f with|some l=>(gcF r h t).put (some (Yb4 h l)) f|none=>gcF r h t)
theorem Ycb{h:Tr Yh}{t:Tr (List Nat)}:∀{fs:List Nat} {f:Nat} {l:List Nat},f∈fs→f+1<2^24→t.get f=some l→(gcF fs h t).get f=some (Yb4 h l):=by
 intro fs
 induction fs with
 |nil=>intro f l hf;cases hf
 |cons a fs ih=>
  intro f l hf hlt hl;unfold gcF;by_cases e:a=f
  ·subst e;rw[hl];exact Tr.get_put_there _ _ _ hlt
  ·have hf:f∈fs:=by
    rcases List.mem_cons.1 hf with h|h
    ·exact absurd h.symm e
    ·exact h
   split
   ·rw[Tr.get_put_other _ _ _ _ (Ne.symm e)];exact ih hf hlt hl
   ·exact ih hf hlt hl
def Z3(keep fs:List Nat)(h:Tr Yh):Bool:=
 match keep with
 |[]=>true
 |k::r=>
  (match h.get k with
   |some (.cells _ (.grown g))=>(match mem g.fam fs,Nat.blt g.fam 16000000 with|true,true=>Z3 r fs h|_,_=>false)
   |_=>Z3 r fs h)
theorem Xmr{fs:List Nat}{h:Tr Yh}:∀{keep:List Nat},Z3 keep fs h=true→∀k∈keep,∀xs g,h.get k=some (.cells xs (.grown g))→g.fam∈fs∧g.fam<16000000:=by
 intro keep
 induction keep with
 |nil=>intro _ k hk;cases hk
 |cons a keep ih=>
  intro hf k hk xs g ho;unfold Z3 at hf;rcases List.mem_cons.1 hk with rfl|hk
  ·rw[ho]at hf;simp only at hf;split at hf
   ·rename_i h1 h2;exact⟨ZU.1 h1,by simpa using h2⟩
   ·cases hf
  ·refine ih ?_ k hk xs g ho;split at hf
   ·split at hf
    ·exact hf
    ·cases hf
   ·exact hf
def Hd(keep:List Nat)(h:Tr Yh)(ops:List Oper)(b:Nat):Bool:=
 match ops with
 |[]=>true
 |_::r=>
  (match h.get b with
   |none=>Hd keep h r (Nat.succ b)
   |some _=>(match mem b keep,Nat.blt b 16000000 with|true,true=>Hd keep h r (Nat.succ b)|_,_=>false))
theorem Xbf{keep:List Nat}{h:Tr Yh}:∀{ops:List Oper} {b:Nat},Hd keep h ops b=true→∀j,j<ops.length→∀o,h.get (b+j)=some o→(gcH keep h).get (b+j)=some o:=by
 intro ops
 induction ops with
 |nil=>intro b _ j hj;cases hj
 |cons x ops ih=>
  intro b hk j hj o ho;unfold Hd at hk;cases j with
  |zero=>
   rw[Nat.add_zero]at ho⊢;rw[ho]at hk;simp only at hk;split at hk
   ·rename_i h1 h2;have h2:b<16000000:=by simpa using h2
    exact Xyo (ZU.1 h1) (by omega) ho
   ·cases hk
  |succ j=>
   have e:b+(j+1)=Nat.succ b+j:=by omega
   rw[e]at ho⊢;refine ih ?_ j (by simpa using hj) o ho;split at hk
   ·exact hk
   ·split at hk
    ·exact hk
    ·cases hk
def Z0(keep:List Nat)(h:Tr Yh)(fr:Xt):Bool:=
 match fr.todo with
 | .inDraw ops _ _ base::_=>Hd keep h ops.toList base
 |_=>true
def HQ(keep:List Nat)(h:Tr Yh)(cs:List Xt):Bool:=
 match cs with
 |[]=>true
 |c::r=>(match Z0 keep h c with|true=>HQ keep h r|false=>false)
def gcS(keep fs:List Nat)(nx:Nat)(s:ASt):ASt:=
 match Z3 keep fs s.A.heap,Z0 keep s.A.heap s.fr,HQ keep s.A.heap s.cs,Nat.ble s.A.next nx with
 |true,true,true,true=>{s with A:={heap:=gcH keep s.A.heap,next:=nx,fams:=gcF fs (gcH keep s.A.heap) s.A.fams}}
 |_,_,_,_=>s
theorem Xae.gc{μ:Mu}{A A':Xm}{lo hi nt:Nat}{vars:List (Option Value)}{over:List (Nat×Value)}{ops:Array Oper}{t:Nat}{V:List (Nat×Value)}{base:Nat}{rest:List Nat}{tm:Array Value}
  (h:Xae T μ A lo hi nt vars over ops t V base rest tm) (hk:∀j,j<ops.toList.length→∀o,A.heap.get (base+j)=some o→A'.heap.get (base+j)=some o):Xae T μ A' lo hi nt vars over ops t V base rest tm where
 ok:=h.ok
 nt:=h.nt
 lo:=h.lo
 hi:=h.hi
 ord:=h.ord
 chain:=h.chain
 done:=h.done
 old:=h.old
 pend:=fun j o h1 h2 h3=>by
  obtain⟨a,b⟩:=h.pend j o h1 h2 h3;have hj:=(Array.getElem?_eq_some_iff.1 h2).1;exact⟨a,fun v hv=>(b v hv).mono (fun _ _ h=>h) fun ob h5 _=>hk j (by simpa using hj) ob h5⟩
theorem Yak{keep fs:List Nat}{nx:Nat}{μ:Mu}{s:ASt}{fr':Frame}{cs':List Frame}{w:World}(h:Xoo T B μ s fr' cs' w):Xoo T B μ (gcS keep fs nx s) fr' cs' w:=by
 unfold gcS;split
 case h_2=>exact h
 rename_i k1 k2 k3 k4;have hnx:s.A.next≤nx:=Nat.le_of_ble_eq_true k4
 obtain⟨R,G,lo,hlo,hf,hst⟩:=h;refine⟨⟨R.base,fun b o e ho he=>R.obj b o e (Xg8 ho) he,?_,R.sep,?_,fun b o ho=>Nat.lt_of_lt_of_le (R.live b o (Xg8 ho)) hnx⟩,G,lo,Nat.le_trans hlo hnx,?_,?_⟩
 ·intro b e he;obtain⟨a,b',c,d⟩:=R.dom b e he;exact⟨Nat.lt_of_lt_of_le a hnx,b',c,fun g hg=>Nat.lt_of_lt_of_le (d g hg) hnx⟩
 ·intro b xs g ho;obtain⟨h1,l,h2,h3⟩:=R.memb b xs g (Xg8 ho);refine⟨Nat.lt_of_lt_of_le h1 hnx,Yb4 (gcH keep s.A.heap) l,?_,Xyf ho h3⟩;have hb:b∈keep:=by
   have:∀{keep:List Nat} {b:Nat} {o:Yh},(gcH keep s.A.heap).get b=some o→b∈keep:=by
    intro keep
    induction keep with
    |nil=>intro b o hk;cases hk
    |cons a keep ih=>
     intro b o hk;unfold gcH at hk;split at hk
     ·rcases Tr.get_put hk with⟨rfl,_⟩|⟨_,hk⟩
      ·simp
      ·exact List.mem_cons_of_mem _ (ih hk)
     ·exact List.mem_cons_of_mem _ (ih hk)
   exact this ho
  obtain⟨a1,a2⟩:=Xmr k1 b hb xs g (Xg8 ho);exact Ycb a1 (by omega) h2
 ·refine Yat.up ?_ hnx;cases hf with
  |plain hp=>exact .plain hp
  |draw core run h1 h2 h3 h4=>
   unfold Z0 at k2;rw[h1]at k2;exact .draw core run h1 h2 h3 (h4.gc fun j hj o ho=>Xbf k2 j hj o ho)
 ·clear hf;have:∀{hi:Nat} {cs:List Xt} {cs':List Frame},Stack T μ s.A hi cs cs'→HQ keep s.A.heap cs=true→Stack T μ {heap:=gcH keep s.A.heap,next:=nx,fams:=gcF fs (gcH keep s.A.heap) s.A.fams} hi cs cs':=by
   intro hi cs cs' hst
   induction hst with
   |nil hi=>intro _;exact .nil _
   | @cons lo hi c c' cs cs' hc hl ht ih=>
    intro k3;unfold HQ at k3;split at k3
    case h_2=>cases k3
    rename_i k2;refine .cons ?_ hl (ih k3);cases hc with
    |plain hp=>exact .plain hp
    |wait core run h1 h2 h3 hcc h4=>
     unfold Z0 at k2;rw[h1]at k2;exact .wait core run h1 h2 h3 hcc (h4.gc fun j hj o ho=>Xbf k2 j hj o ho)
  exact this hst k3
def Yhq(ds:List (Nat×Nat))(s:ASt):ASt:=
 match s.fr.todo with
 | .inDraw _ _ _ _::_=>s
 |_=>{s with fr:={s.fr with vars:=Xdh ds s.fr.vars,over:=[]}}
theorem Ycm(ds:List (Nat×Nat)){s:ASt}{μ:Mu}{fr':Frame}{cs':List Frame}{w:World}(h:Xoo T B μ s fr' cs' w):Xoo T B μ (Yhq ds s) fr' cs' w:=by
 unfold Yhq;split
 ·exact h
 ·rename_i hno;obtain⟨R,G,lo,hlo,hf,hst⟩:=h;refine⟨R,G,lo,hlo,?_,hst⟩;cases hf with
  |plain hp=>
   refine .plain ⟨⟨hp.core.fn,hp.core.kind,hp.core.round,hp.core.defers,hp.core.mode⟩,⟨hp.tm.1,fun t u hu=>?_⟩,hp.todo⟩;exact hp.tm.2 t u (Xaz (ds:=ds) hu).2
  |draw core run h1=>exact absurd h1 (hno _ _ _ _ _)
def Xeu(keep fs:List Nat)(nx:Nat)(ds:List (Nat×Nat))(s:ASt):ASt:=gcS keep fs nx (Yhq ds s)
inductive Fin(T:Tab)(f:FuncId)(v:Value):ASt→Prop
 |done {s:ASt} (h:GJ T s= .done f v):Fin T f v s
 |runs {s s':ASt} (ns:List Nat) (keep fs:List Nat) (nx:Nat) (h:gcS keep fs nx (Ko T ns s)=s') (k:Fin T f v s'):Fin T f v s
 |runw {s s':ASt} (ns keep fs:List Nat) (nx:Nat) (ds:List (Nat×Nat)) (h:Xeu keep fs nx ds (Ko T ns s)=s') (k:Fin T f v s'):Fin T f v s
 |branch {s:ASt} {l:List ASt} (h:GJ T s= .branch l) (k:∀s'∈l,Fin T f v s'):Fin T f v s
theorem Fin.two{T:Tab}{f:FuncId}{v:Value}{s s':ASt}(n0 n1 keep fs:List Nat)(nx:Nat)(h:Yi7 (GJ T s)=2)(h0:gcS keep fs nx (Ko T n0 (Xre (GJ T s) 0 s))=s')
  (h1:gcS keep fs nx (Ko T n1 (Xre (GJ T s) 1 s))=s') (k:Fin T f v s'):Fin T f v s:=by
 cases ho:GJ T s with
 |branch l=>
  rw[ho]at h h0 h1;rcases l with _|⟨a,_|⟨b,_|⟨c,l⟩⟩⟩
  ·cases h
  ·cases h
  ·refine .branch ho fun x hx=>?_;rcases List.mem_cons.1 hx with rfl|hx
   ·exact .runs n0 keep fs nx h0 k
   ·rw[List.mem_singleton]at hx;subst hx;exact .runs n1 keep fs nx h1 k
  ·have h:Nat.succ (Nat.succ (Nat.succ (len l)))=2:=h;omega
 |_=>rw[ho]at h;cases h
theorem Yfq(C:Y0 P T){f:FuncId}{v:Value}{s:ASt}(hf:Fin T f v s):∀{μ:Mu} {fr':Frame} {cs':List Frame} {w:World},Xoo T B μ s fr' cs' w→
  ∃μ' fr2 w2 v',Steps P (lone fr' (cs'++cs0) w) (lone fr2 cs0 w2)∧Below B w w2∧fr2.leaving P w2 (.returned v')∧XH μ' v v'∧fr2.fn=f:=by
 induction hf with
 |done h=>
  intro μ fr' cs' w hs;have:=Xhe (cs0:=cs0) C hs;rw[h]at this;exact this
 |runs ns keep fs nx h _ ih=>
  intro μ fr' cs' w hs;obtain⟨μ1,fr1,cs1,w1,a,b,c⟩:=Xog (cs0:=cs0) C ns hs;have a:=Yak (keep:=keep) (fs:=fs) (nx:=nx) a;rw[h]at a;obtain⟨μ',fr2,w2,v',d,e,g⟩:=ih a;exact⟨μ',fr2,w2,v',b.trans d,c.trans e,g⟩
 |runw ns keep fs nx ds h _ ih=>
  intro μ fr' cs' w hs;obtain⟨μ1,fr1,cs1,w1,a,b,c⟩:=Xog (cs0:=cs0) C ns hs;have a:=Yak (keep:=keep) (fs:=fs) (nx:=nx) (Ycm ds a);rw[show gcS keep fs nx (Yhq ds (Ko T ns _))=_ from h]at a;obtain⟨μ',fr2,w2,v',d,e,g⟩:=ih a;exact⟨μ',fr2,w2,v',b.trans d,c.trans e,g⟩
 |branch h _ ih=>
  intro μ fr' cs' w hs;have:=Xhe (cs0:=cs0) C hs;rw[h]at this;obtain⟨s',hm,μ1,fr1,cs1,w1,a,b,c⟩:=this;obtain⟨μ',fr2,w2,v',d,e,g⟩:=ih s' hm a;exact⟨μ',fr2,w2,v',b.trans d,c.trans e,g⟩
theorem Xfb(C:Y0 P T){f:FuncId}{v:Value}{A:Xm}{w:World}{μ:Mu}(R:Yr μ B A w.heap)(G:Xrl μ T.nglob){args:List Value}{args':Array Value}(ha:XE μ args args'.toList)
  {fr:Xt} (he:Zi T f args .normal=some fr) (hf:Fin T f v {fr:=fr,cs:=[],A:=A}):Calls P f args' w fun e w'=>∃μ' v',e= .returned v'∧XH μ' v v'∧Below B w w':=by
 intro cs;have hs:Xoo T B μ {fr:=fr,cs:=[],A:=A} (Frame.enter P f args' .normal) [] w:=
  ⟨R,G,A.next,Nat.le_refl _, .plain (Xb8 C ha he), .nil _⟩
 obtain⟨μ',fr2,w2,v',h1,h2,h3,h4,h5⟩:=Yfq (cs0:=cs) C hf hs;exact⟨.returned v',w2,fr2,⟨μ',v',rfl,h4,h2⟩,h1,h5,h3⟩
theorem Yao(C:Y0 P T){f:FuncId}{v:Value}{A:Xm}{w:World}{μ:Mu}(R:Yr μ B A w.heap)(G:Xrl μ T.nglob){fr:Xt}(he:Zi T f [] .normal=some fr)
  (hf:Fin T f v {fr:=fr,cs:=[],A:=A}):Calls P f #[] w fun e w'=>∃μ' v',e= .returned v'∧XH μ' v v'∧Below B w w':=
 Xfb C R G (args:=[]) (args':=#[]) .nil he hf
end
noncomputable section
def KE{α:Type}(l:List (Nat×α)):Tr α:=
 match l with
 |[]=> .e
 |p::r=>(KE r).put (some p.2) p.1
theorem HC{α:Type}{Q:Nat→α→Prop}:∀{l:List (Nat×α)},(∀p∈l,Q p.1 p.2)→∀{k:Nat} {a:α},(KE l).get k=some a→Q k a:=by
 intro l
 induction l with
 |nil=>intro _ k a h;cases h
 |cons p l ih=>
  intro hq k a h;unfold KE at h;rcases Tr.get_put h with⟨rfl,e⟩|⟨_,h⟩
  ·injection e with e;subst e;exact hq p (by simp)
  ·exact ih (fun q hm=>hq q (by simp[hm])) h
def Xts(P:Program)(t:TypeId):TI:=
 match P.underlying t,P.info? t with
 |some d,some i=>⟨d,i.size,i.bytes,(match i.zero with|some z=>z|none=>undef),i.comparable⟩
 |_,_=>⟨.pointer 0,0,0,undef,false⟩
def Ydb(P:Program)(t:TypeId):Bool:=
 match P.underlying t,P.info? t with
 |some _,some i=>(match i.zero with|some z=>(match YF z with|true=>Nat.beq z.cells.size i.size|false=>false)|none=>false)
 |_,_=>false
theorem Xzb{P:Program}{t:TypeId}(h:Ydb P t=true):
  P.underlying t=some (Xts P t).desc∧∃info,P.info? t=some info∧info.size=(Xts P t).size∧info.bytes=(Xts P t).bytes∧info.zero=some (Xts P t).zero∧info.comparable=(Xts P t).cmp∧YF (Xts P t).zero=true∧(Xts P t).zero.cells.size=(Xts P t).size:=by
 unfold Ydb at h;split at h
 ·rename_i d i hu hi;split at h
  case h_2=>cases h
  rename_i z hz;split at h
  case h_2=>cases h
  rename_i hc;have hn:=Nat.eq_of_beq_eq_true h;have he:Xts P t=⟨d,i.size,i.bytes,z,i.comparable⟩:=by unfold Xts;rw[hu,hi];simp only[hz]
  rw[he];exact⟨hu,i,hi,rfl,rfl,hz,rfl,hc,hn⟩
 ·cases h
def mkF(P:Program)(f:FuncId)(nv:Nat):AFn:=
 match P.funcs[f]? with
 |some fn=>⟨(match fn.body with|some b=>b|none=> .skip),fn.ntmps,nv,fn.results.toList⟩
 |none=>⟨.skip,0,0,[]⟩
def Yi2(P:Program)(f:FuncId):Bool:=
 match P.funcs[f]? with
 |some fn=>(match fn.body with|some _=>(match fn.name== "runtime.NumGoroutine" with|true=>false|false=>true)|none=>false)
 |none=>false
theorem Ydc{P:Program}{f:FuncId}{nv:Nat}(h:Yi2 P f=true):
  ∃fn,P.funcs[f]? =some fn∧fn.body=some (mkF P f nv).body∧fn.ntmps=(mkF P f nv).ntmps∧fn.results.toList=(mkF P f nv).results∧(fn.name== "runtime.NumGoroutine")=false:=by
 unfold Yi2 at h;split at h
 ·rename_i fn hf;split at h
  case h_2=>cases h
  rename_i b hb;split at h
  ·cases h
  rename_i hn;have he:mkF P f nv=⟨b,fn.ntmps,nv,fn.results.toList⟩:=by unfold mkF;rw[hf];simp only[hb]
  rw[he];exact⟨fn,hf,hb,rfl,rfl,hn⟩
 ·cases h
def mkEq(P:Program)(t:TypeId):List (TypeId×Nat):=
 match P.underlying t with
 |some (.struct fs)=>(fs.toList.filter fun f=>decide (f.name≠ "_")).map fun f=>(f.type,f.offset)
 |_=>[]
def Ydd(P:Program)(t:TypeId):Bool:=
 match P.eqGuardType P.depth t with
 |true=>false
 |false=>(match P.underlying t with|some (.struct _)=>(match P.stoodInHeld t with|true=>false|false=>true)|_=>true)
theorem Xzf{P:Program}{t:TypeId}(h:Ydd P t=true):P.eqGuardType P.depth t=false∧
  (∀fs,P.underlying t=some (.struct fs)→P.stoodInHeld t=false∧(fs.toList.filter fun f=>decide (f.name≠ "_")).map (fun f=>(f.type,f.offset))=mkEq P t):=by
 unfold Ydd at h;split at h
 ·cases h
 rename_i hg;refine⟨hg,fun fs hfs=>?_⟩;rw[hfs]at h;simp only at h;refine⟨?_,by unfold mkEq;rw[hfs]⟩;cases hs:P.stoodInHeld t with
 |false=>rfl
 |true=>rw[hs]at h;cases h
def Xze(P:Program)(t:TypeId)(name:String)(f:FuncId):Bool:=
 match P.info? t,P.underlying t with
 |some i,some d=>
  (match i.methods.find? (·.name==name)with
   |some m=>
    (match m.path.toList,m.func with
     |[],some (g,ptr)=>(match Nat.beq g f with|true=>(match d with| .pointer _=>ptr|_=>!ptr)|false=>false)
     |_,_=>false)
   |none=>false)
 |_,_=>false
theorem Xzd{P:Program}{t:TypeId}{name:String}{f:FuncId}(h:Xze P t name f=true)(n:Nat)(v:Value)(w:World):(method (n+1) t v name).run P w= .ok (f,v) w:=by
 unfold Xze at h;split at h
 case h_2=>cases h
 rename_i i d hi hu;split at h
 case h_2=>cases h
 rename_i m hm;split at h
 case h_2=>cases h
 rename_i g ptr hp hf;split at h
 case h_2=>cases h
 rename_i hg;have hg:=Nat.eq_of_beq_eq_true hg;subst hg;have hul:(underlying t).run P w= .ok d w:=by simp[Go.underlying,hu]
 have hti:(typeInfo t).run P w= .ok i w:=by simp[Go.typeInfo,hi]
 have hrec:∀wr,(receiverAt t (.val v) ptr wr).run P w= .ok v w:=by
  intro wr;simp only[receiverAt,Sem.run_bind,hul,Result.andThen_ok];cases d with
  |pointer e=>
   have:ptr=true:=h;subst this;rfl
  |_=>
   have:(!ptr)=true:=h;cases ptr with
   |true=>cases this
   |false=>rfl
 simp only[method,Sem.run_bind,hti,Result.andThen_ok,hm,hp,follow,Sem.run_pure,hf,hrec]
def Xvi(P:Program)(t:TypeId)(l:List (String×FuncId)):Bool:=
 match l with
 |[]=>true
 |p::r=>(match Xze P t p.1 p.2 with|true=>Xvi P t r|false=>false)
theorem Xzc{P:Program}{t:TypeId}:∀{l:List (String×FuncId)},Xvi P t l=true→∀name f,Xjh l name=some f→Xze P t name f=true:=by
 intro l
 induction l with
 |nil=>intro _ name f h;cases h
 |cons p l ih=>
  obtain⟨n,g⟩:=p;intro h name f hm;unfold Xvi at h;split at h
  case h_2=>cases h
  rename_i h1;unfold Xjh at hm;split at hm
  ·rename_i e;injection hm with hm;subst hm;subst e;exact h1
  ·exact ih h name f hm
def allB{α:Type}(p:α→Bool)(l:List α):Bool:=match l with|[]=>true|x::r=>(match p x with|true=>allB p r|false=>false)
theorem Xdz{α:Type}{p:α→Bool}:∀{l:List α},allB p l=true→∀x∈l,p x=true:=by
 intro l
 induction l with
 |nil=>intro _ x h;cases h
 |cons y l ih=>
  intro h x hx;unfold allB at h;split at h
  case h_2=>cases h
  rename_i hy;rcases List.mem_cons.1 hx with rfl|hx
  ·exact hy
  ·exact ih h x hx
def Yff(P:Program)(tys:List Nat)(fns:List (Nat×Nat))(es:List Nat)(ms:List (Nat×List (String×FuncId)))(xs:List (Nat×Nat))(n:Nat):Tab where
 ty:=KE (tys.map fun t=>(t,Xts P t))
 fn:=KE (fns.map fun p=>(p.1,mkF P p.1 p.2))
 eqs:=KE (es.map fun t=>(t,mkEq P t))
 meth:=KE ms
 ext:=KE xs
 nglob:=n
def Yhx{α:Type}(Q:α→Prop)(l:List α):Prop:=match l with|[]=>True|x::r=>Q x∧Yhx Q r
theorem Yhx.of{α:Type}{Q:α→Prop}:∀{l:List α},Yhx Q l→∀x∈l,Q x:=by
 intro l
 induction l with
 |nil=>intro _ x h;cases h
 |cons y l ih=>
  intro h x hx;obtain⟨h1,h2⟩:=h;rcases List.mem_cons.1 hx with rfl|hx
  ·exact h1
  ·exact ih h2 x hx
theorem Ydj{P:Program}{tys:List Nat}{fns:List (Nat×Nat)}{es:List Nat}{ms:List (Nat×List (String×FuncId))}{xs:List (Nat×Nat)}{n:Nat}(h1:allB (Ydb P) tys=true)(h2:allB (fun p:Nat×Nat=>Yi2 P p.1) fns=true)
  (h3:allB (Ydd P) es=true) (h4:allB (fun p:Nat×List (String×FuncId)=>Xvi P p.1 p.2) ms=true) (h6:Yhx (fun p:Nat×Nat=>Yd2 P p.1 p.2) xs) (h5:P.follows .mixedOrders=true):Y0 P (Yff P tys fns es ms xs n) where
 ty:=fun t ti h=>HC (Q:=fun t ti=>P.underlying t=some ti.desc∧∃info,P.info? t=some info∧info.size=ti.size∧info.bytes=ti.bytes∧info.zero=some ti.zero∧info.comparable=ti.cmp∧YF ti.zero=true∧ti.zero.cells.size=ti.size)
  (by intro p hp;obtain⟨t,ht,rfl⟩:=List.mem_map.1 hp;exact Xzb (Xdz h1 t ht)) h
 fn:=fun f a h=>HC (Q:=fun f (a:AFn)=>∃fn,P.funcs[f]? =some fn∧fn.body=some a.body∧fn.ntmps=a.ntmps∧fn.results.toList=a.results∧(fn.name== "runtime.NumGoroutine")=false)
  (by intro p hp;obtain⟨q,hq,rfl⟩:=List.mem_map.1 hp;exact Ydc (Xdz h2 q hq)) h
 eqs:=fun t l h=>HC (Q:=fun t l=>P.eqGuardType P.depth t=false∧(∀fs,P.underlying t=some (.struct fs)→P.stoodInHeld t=false∧(fs.toList.filter fun f=>decide (f.name≠ "_")).map (fun f=>(f.type,f.offset))=l))
  (by intro p hp;obtain⟨t,ht,rfl⟩:=List.mem_map.1 hp;exact Xzf (Xdz h3 t ht)) h
 meth:=fun t l name f h hm v w=>by
  have:=HC (Q:=fun t l=>Xvi P t l=true) (fun p hp=>Xdz h4 p hp) h;have e:P.types.size+Made.depth=(P.types.size+(Made.depth - 1))+1:=by simp only[Made.depth]
  rw[e];exact Xzd (Xzc this name f hm) _ v w
 ext:=fun f k h=>HC (Q:=fun f k=>Yd2 P f k) (fun p hp=>h6.of p hp) h
 mixed:=h5
end
noncomputable section
def Ymp(c:Code)(i:Nat):Code:=
 match c with
 | .seq a b=>(match i with|0=>a|_+1=>b)
 | .cond _ a b=>(match i with|0=>a|_+1=>b)
 | .rangeFunc _ _ a b=>(match i with|0=>a|_+1=>b)
 | .block _ b=>b
 | .loop b=>b
 | .scope b=>b
 |c=>c
def Yan(c:Code)(p:List Nat):Code:=match p with|[]=>c|i::r=>Yan (Ymp c i) r
def Ygf(P:Program)(f:Nat):Code:=match P.funcs[f]? with|some fn=>(match fn.body with|some b=>b|none=> .skip)|none=> .skip
def opsOf(c:Code):Array Oper:=match c with| .region _ ops _=>ops|_=>#[]
def iR(c:Code)(i:Nat):Ye:= .inRegion (opsOf c) (Y2 (opsOf c).toList i)
def iD(c:Code)(t:Nat)(V:List (Nat×Value))(base:Nat):Ye:= .inDraw (opsOf c) t V base
def keys{α:Type}(l:List (Nat×α)):List Nat:=match l with|[]=>[]|p::r=>p.1::keys r
def vt:Value:= .bool true
def vf:Value:= .bool false
def vi(n:Nat):Value:= .int .i64 (.ofNat n)
def vb(n:Nat):Value:= .int .u8 (.ofNat n)
def vu(n:Nat):Value:= .int .u64 (.ofNat n)
def bytesOf(l:List Nat):List UInt8:=match l with|[]=>[]|b::r=>UInt8.ofNat b::bytesOf r
def vs(l:List Nat):Value:= .string ⟨⟨bytesOf l⟩⟩
def vp:Value:= .pointer none
def va(b o:Nat):Value:= .pointer (some ⟨b,o,none⟩)
def vx:Value:= .float .f64 0
def vm(b n:Nat):Value:= .slice (some ⟨b,0,none⟩) n n
def sm(b n:Nat):Option Value:=some (.slice (some ⟨b,0,none⟩) n n)
def vn:Value:= .slice none 0 0
def vl(b o l c:Nat):Value:= .slice (some ⟨b,o,none⟩) l c
def vz:Value:= .nilIface
def vg(l:List Value):Value:= .agg ⟨l⟩
def vq(l:List Value):Value:= .tuple ⟨l⟩
def no:Option Value:=none
def so(v:Value):Option Value:=some v
def si(n:Nat):Option Value:=some (.int .i64 (.ofNat n))
def st:Option Value:=some (.bool true)
def sf:Option Value:=some (.bool false)
def sa(b o:Nat):Option Value:=some (.pointer (some ⟨b,o,none⟩))
def sl(b o l c:Nat):Option Value:=some (.slice (some ⟨b,o,none⟩) l c)
def cellsOf(o:Yh):List Value:=match o with| .cells l _=>l|_=>[]
def vbl(l:List Nat):List Value:=match l with|[]=>[]|n::r=>vb n::vbl r
def ob(l:List Value):Yh:= .cells l (.fixed false)
def og(l:List Value)(e f b _t:Nat):Yh:= .cells l (.grown ⟨e,f,b⟩)
def vw(n:Nat):Value:= .int .u32 (.ofNat n)
def tu(l:List Nat):List Value:=match l with|[]=>[]|n::r=>vu n::tu r
def tw(l:List Nat):List Value:=match l with|[]=>[]|n::r=>vw n::tw r
def zrv(n:Nat)(x:Value):List Value:=Nat.rec (motive:=fun _=>List Value) [] (fun _ r=>x::r) n
def tv1(n:Nat):Value:=match n with|0=>vf|1=>vt|n+2=>vi n
def tv(l:List Nat):List Value:=match l with|[]=>[]|n::r=>tv1 n::tv r
def to1(n:Nat):Option Value:=match n with|0=>none|1=>sf|2=>st|n+3=>si n
def to(l:List Nat):List (Option Value):=match l with|[]=>[]|n::r=>to1 n::to r
def tl(n:Nat)(l:List Nat):List Value:=match l with|[]=>[]|b::r=>vm b n::tl n r
def zrp(n x:Nat):List Nat:=Nat.rec (motive:=fun _=>List Nat) [] (fun _ r=>x::r) n
def zF(fn nt:Nat)(vars:List (Option Value))(over:List (Nat×Value))(todo:List Ye):Xt:=⟨fn,nt,vars,over,todo,[], .run, .normal,none⟩
abbrev LH:=List (Nat×Yh)
abbrev LG:=List (Nat×List Nat)
abbrev LF:=List Xt
def rmv{α:Type}(l:List (Nat×α)):List Nat→List (Nat×α):=
 List.rec (motive:=fun _=>List Nat→List (Nat×α)) (fun _=>[])
  (fun p _ ih rs=>List.rec (motive:=fun _=>List (Nat×α)) (p::ih []) (fun r rs' _=>Bool.rec (motive:=fun _=>List (Nat×α)) (p::ih rs) (ih rs') (Nat.beq p.1 r)) rs) l
def rmq{α:Type}(l:List (Nat×α)):List Nat→List (Nat×α):=
 List.rec (motive:=fun _=>List Nat→List (Nat×α)) (fun _=>[])
  (fun p t ih rs=>List.rec (motive:=fun _=>List (Nat×α)) (p::t) (fun r rs' _=>Bool.rec (motive:=fun _=>List (Nat×α)) (p::ih rs) (ih rs') (Nat.beq p.1 r)) rs) l
def zhd(n:Nat)(l:List Value):List Value:=
 List.rec (motive:=fun _=>Nat→List Value) (fun _=>[]) (fun a _ ih n=>Nat.rec (motive:=fun _=>List Value) [] (fun m _=>a::ih m) n) l n
def pch(l:List Value)(ps:List (Nat×Value)):List Value:=
 List.rec (motive:=fun _=>List (Nat×Value)→List Value) (fun _=>[])
  (fun a t ih ps=>List.rec (motive:=fun _=>List Value) (a::t) (fun p r _=>Nat.rec (motive:=fun _=>List Value) (p.2::ih r) (fun g _=>a::ih ((g,p.2)::r)) p.1) ps) l ps
def mrg{α:Type}(l:List (Nat×α)):List (Nat×α)→List (Nat×α):=
 List.rec (motive:=fun _=>List (Nat×α)→List (Nat×α)) (fun ys=>ys)
  (fun p _ ih ys=>List.rec (motive:=fun _=>List (Nat×α)) (p::ih [])
   (fun q t iq=>Bool.rec (motive:=fun _=>List (Nat×α)) (Bool.rec (motive:=fun _=>List (Nat×α)) (p::ih (q::t)) (p::ih t) (Nat.beq q.1 p.1)) (q::iq) (Nat.blt q.1 p.1)) ys) l
def Jg(l:List (Nat×Yh)):List (Nat×List Nat):=
 match l with
 |[]=>[]
 |p::r=>(match p.2 with| .cells _ (.grown g)=>(match Nat.beq g.fam p.1 with|true=>(p.1,[p.1])::Jg r|false=>Jg r)|_=>Jg r)
def Yge(n:Nat):Nat→List UInt8:=
 Nat.rec (motive:=fun _=>Nat→List UInt8) (fun _=>[]) (fun _ ih x=>UInt8.ofNat (Nat.mod x 128)::ih (Nat.div x 128)) n
def vS(n x:Nat):Value:= .string ⟨⟨Yge n x⟩⟩
def mei(i:Nat)(l:List (Nat×Nat)):List MapEntry:=match l with|[]=>[]|p::r=>⟨vi p.1,vi p.2,i⟩::mei (Nat.succ i) r
def dz(l:List Nat):List (Nat×Nat):=match l with|[]=>[]|a::r=>(a,0)::dz r
def zrl(n:Nat)(l:List Value):List Value:=Nat.rec (motive:=fun _=>List Value) [] (fun _ r=>app l r) n
def opAt(c:Code)(i:Nat):Oper:=match Y2 (opsOf c).toList i with|o::_=>o|[]=>default
end
end Go.Proofs.YtjhfcfpkgfpoiaaGreatDoor.Sim
