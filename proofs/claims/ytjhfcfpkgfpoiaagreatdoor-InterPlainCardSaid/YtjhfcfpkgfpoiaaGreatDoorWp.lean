/- What the program and the document compute, as plain data, and laws of it. No condition. -/
import Derived.BigQuiet
import Derived.BigRegion
import Derived.ChangeAlike
import Derived.Deep.AppendLies
import Derived.Deep.CutBlock
import Derived.Deep.CutRange
import Derived.Deep.DeepCutAuto
import Derived.Deep.QuietTactic
import Derived.Deep.RegionHeld3
import Derived.Deep.RegionLaw
import Derived.Deep.Slices
import Derived.IntWalk
import Derived.KernelRfl
import Derived.Laws.CopyOwn
import Derived.Laws.MakeOwn
import Derived.Laws.OwnMore
import Derived.Laws.Rows
import Derived.Lib.Hide
import Derived.Maps.AppendAt
import Derived.Maps.OwnOps
import Derived.Maps.Views
import Derived.OwnWalk
import Derived.RegionTactic
import Derived.StillTailTactics
import Derived.WalkKit
import Derived.WalkLawsBesides
import Derived.WalkSpells
import Derived.WideMake
import Derived.Test.YtjhfcfpkgfpoiaaGreatDoorDe
import Derived.Test.YtjhfcfpkgfpoiaaGreatDoorProg
import Derived.Test.YtjhfcfpkgfpoiaaGreatDoorWf
import Derived.Test.YtjhfcfpkgfpoiaaGreatDoorWg
import Derived.Test.YtjhfcfpkgfpoiaaGreatDoorWh
import Derived.Test.YtjhfcfpkgfpoiaaGreatDoorWi
import Derived.Test.YtjhfcfpkgfpoiaaGreatDoorWj
import Derived.Test.YtjhfcfpkgfpoiaaGreatDoorWk
import Derived.Test.YtjhfcfpkgfpoiaaGreatDoorWl
import Derived.Test.YtjhfcfpkgfpoiaaGreatDoorWm
import Derived.Test.YtjhfcfpkgfpoiaaGreatDoorWn
import Derived.Test.YtjhfcfpkgfpoiaaGreatDoorWo
namespace Go.Proofs.YtjhfcfpkgfpoiaaGreatDoor
open Go Go.RowKit Dw
set_option maxRecDepth 100000
def ZW(es:List Ev):Nat→Int
 |0=>-1
 |i+1=>if(es.getD i default).kind=3 then i else if(es.getD i default).kind=4 then -1 else ZW es i
theorem Xqd{es:List Ev}{i p:Nat}(h:ZW es i=p):p<i∧(es.getD p default).kind=3∧∀m,p<m→m<i→(es.getD m default).kind≠3∧(es.getD m default).kind≠4:=by
 induction i with
 |zero=>simp[ZW]at h
 |succ i ih=>
  unfold ZW at h;split at h
  ·rename_i h3;obtain rfl:i=p:=by omega
   exact⟨Nat.lt_succ_self _,h3,fun m h1 h2=>by omega⟩
  ·split at h
   ·omega
   ·rename_i h3 h4;obtain⟨g1,g2,g3⟩:=ih h;refine⟨by omega,g2,fun m h1 h2=>?_⟩;rcases Nat.lt_or_ge m i with g|g
    ·exact g3 m h1 g
    ·obtain rfl:m=i:=by omega
     exact⟨h3,h4⟩
theorem Xyc{es:List Ev}{i p:Nat}(h1:p<i)(h2:(es.getD p default).kind=3)(h3:∀m,p<m→m<i→(es.getD m default).kind≠3∧(es.getD m default).kind≠4):ZW es i=p:=by
 induction i with
 |zero=>omega
 |succ i ih=>
  unfold ZW;rcases Nat.lt_or_ge p i with g|g
  ·obtain⟨k1,k2⟩:=h3 i g (Nat.lt_succ_self _);rw[if_neg k1,if_neg k2];exact ih g fun m a b=>h3 m a (by omega)
  ·obtain rfl:p=i:=by omega
   rw[if_pos h2]
theorem GE(l:List Ez)(i:Nat):(l.map Ez.e).getD i default=(l.getD i default).e:=by
 rw[List.getD_eq_getElem?_getD,List.getElem?_map,List.getD_eq_getElem?_getD];cases l[i]?<;>rfl
theorem Xsu(hart:Int)(l:List Ez):∀(n i:Nat),n+i=l.length→(Gs hart l i (ZW (l.map Ez.e) i) (l.drop i)=true↔∀j,i≤j→j<l.length→rowAt hart (l.map Ez.e) j=true):=by
 intro n
 induction n with
 |zero=>
  intro i hi;rw[List.drop_eq_nil_of_le (by omega)];exact⟨fun _ j h1 h2=>by omega,fun _=>rfl⟩
 |succ n ih=>
  intro i hi;have hlt:i<l.length:=by omega
  rw[Xe6 hlt];have hge:(l.map Ez.e).getD i default=l[i].e:=by rw[GE,List.getD_eq_getElem?_getD,List.getElem?_eq_getElem hlt];rfl
  have hnext:=ih (i+1) (by omega);have hsplit:(∀j,i≤j→j<l.length→rowAt hart (l.map Ez.e) j=true)↔rowAt hart (l.map Ez.e) i=true∧∀j,i+1≤j→j<l.length→rowAt hart (l.map Ez.e) j=true:=by
   constructor
   ·exact fun h=>⟨h i (Nat.le_refl _) hlt,fun j h1 h2=>h j (by omega) h2⟩
   ·rintro⟨h1,h2⟩ j hj hjl;rcases Nat.eq_or_lt_of_le hj with g|g
    ·subst g;exact h1
    ·exact h2 j g hjl
  rw[hsplit,←hnext];have hrow:rowAt hart (l.map Ez.e) i=((Xl l[i].e&&(decide (l[i].e.hart=hart)&&decide (l[i].e.pos=i)))&&(decide (l[i].e.kind≠4)||Xro (l.map Ez.e) i)):=by
   unfold rowAt;rw[hge]
  have hlast:ZW (l.map Ez.e) (i+1)=if l[i].e.kind=3 then(i:Int)else if l[i].e.kind=4 then -1 else ZW (l.map Ez.e) i:=by
   show(if((l.map Ez.e).getD i default).kind=3 then _ else _)=_
   rw[hge]
  rw[hrow];cases he:Xl l[i].e
  ·simp
  by_cases hh:l[i].e.hart=hart
  case neg=>simp[hh]
  by_cases hp:l[i].e.pos=(i:Int)
  case neg=>simp[hp]
  by_cases k3:l[i].e.kind=3
  ·rw[if_pos k3]at hlast;rw[hlast];simp[hh,hp,k3]
  by_cases k4:l[i].e.kind=4
  case neg=>
   rw[if_neg k3,if_neg k4]at hlast;rw[hlast];simp[hh,hp,k3,k4]
  rw[if_neg k3,if_pos k4]at hlast;rw[hlast];obtain⟨p1,p2⟩:=HS he k4;have hsc:Xro (l.map Ez.e) i=true↔l[i].e.pair=ZW (l.map Ez.e) i∧(l.getD (ZW (l.map Ez.e) i).toNat default).e.addr=l[i].e.addr:=by
   unfold Xro;rw[hge];simp only[Bool.and_eq_true,decide_eq_true_eq,List.all_eq_true,List.mem_range];constructor
   ·rintro⟨⟨g1,g2⟩,g3⟩;have hl:=Xyc (es:=l.map Ez.e) (i:=i) (p:=l[i].e.pair.toNat) (by omega) g1 (fun m h1 h2=>by
     rcases g3 m h2 with h|h
     ·omega
     ·exact h)
    rw[hl];refine⟨by omega,?_⟩;rw[GE]at g2;rw[Int.toNat_natCast];exact g2
   ·rintro⟨g1,g2⟩;obtain⟨p,hpn⟩:∃p:Nat,ZW (l.map Ez.e) i=p:=⟨_,(Int.toNat_of_nonneg (by omega)).symm⟩;obtain⟨s1,s2,s3⟩:=Xqd hpn;have hpp:l[i].e.pair.toNat=p:=by omega
    rw[hpp];refine⟨⟨s2,?_⟩,fun k hk=>?_⟩
    ·rw[GE];rw[hpn]at g2;simpa using g2
    ·rcases Nat.lt_or_ge p k with g|g
     ·exact .inr (s3 k g hk)
     ·exact .inl (by omega)
  have hsc':Xro (l.map Ez.e) i=(l[i].e.pair==ZW (l.map Ez.e) i&&(l.getD (ZW (l.map Ez.e) i).toNat default).e.addr==l[i].e.addr):=by
   rw[Bool.eq_iff_iff,hsc];simp
  rw[hsc'];simp[hh,hp,k4]
theorem Xpa(hart:Int)(l:List Ez):Gs hart l 0 (-1) l=Xkp hart (l.map Ez.e):=by
 rw[Bool.eq_iff_iff];have:=Xsu hart l l.length 0 rfl;rw[List.drop_zero]at this;refine this.trans ?_;unfold Xkp;rw[List.all_eq_true];simp only[List.mem_range,List.length_map];exact⟨fun h j hj=>h j (Nat.zero_le _) hj,fun h j _ hj=>h j hj⟩
theorem Xlp(l:List (Bool×List Ez)):JI l 0=(List.range (l.map fun p=>p.2.map Ez.e).length).all fun i=>Xkp i ((l.map fun p=>p.2.map Ez.e).getD i []):=by
 have key:∀(l:List (Bool×List Ez)) (k:Nat),JI l k=true↔∀i (hi:i<l.length),Xkp ((k+i:Nat):Int) (l[i].2.map Ez.e)=true:=by
  intro l
  induction l with
  |nil=>intro k;exact⟨fun _ i hi=>by simp at hi,fun _=>rfl⟩
  |cons p r ih=>
   intro k;unfold JI;rw[Bool.and_eq_true,ih (k+1),Xpa];constructor
   ·rintro⟨h1,h2⟩ i hi;cases i with
    |zero=>exact h1
    |succ i=>
     have:=h2 i (by simpa using hi);rw[show k+(i+1)=k+1+i by omega];exact this
   ·intro h;refine⟨h 0 (by simp),fun i hi=>?_⟩;have:=h (i+1) (by simpa using hi);rw[show k+(i+1)=k+1+i by omega]at this;exact this
 rw[Bool.eq_iff_iff,key l 0,List.all_eq_true];simp only[List.mem_range,List.length_map];constructor
 ·intro h i hi;have:=h i hi;rw[Nat.zero_add]at this;rw[List.getD_eq_getElem?_getD,List.getElem?_map,List.getElem?_eq_getElem hi];exact this
 ·intro h i hi;have:=h i hi;rw[List.getD_eq_getElem?_getD,List.getElem?_map,List.getElem?_eq_getElem hi]at this;rw[Nat.zero_add];exact this
theorem Xth{left:List Bool}{n:Int}{l:List Int}:Xgm left n l=true↔(∀k∈l,0≤k∧k<left.length∧left.getD k.toNat false=true)∧l.Nodup∧n=l.length:=by
 induction l generalizing left n with
 |nil=>simp[Xgm]
 |cons k r ih=>
  unfold Xgm;split
  ·rename_i h;constructor
   ·intro q;cases q
   ·rintro⟨h1, -, -⟩;obtain⟨g1,g2,g3⟩:=h1 k (List.mem_cons_self);rcases h with h|h|h
    ·omega
    ·omega
    ·rw[h]at g3;cases g3
  ·rename_i h;rw[not_or,not_or]at h;obtain⟨g1,g2,g3⟩:=h;have g3:left.getD k.toNat false=true:=by simpa using g3
   have hk:k.toNat<left.length:=by omega
   rw[ih,List.nodup_cons];have hset:∀j:Int,0≤j→((left.set k.toNat false).getD j.toNat false=true↔j≠k∧left.getD j.toNat false=true):=by
    intro j hj;rw[List.getD_eq_getElem?_getD,List.getElem?_set,List.getD_eq_getElem?_getD];by_cases hjk:k.toNat=j.toNat
    ·rw[if_pos hjk,if_pos hk];simp;intro q;omega
    ·rw[if_neg hjk];constructor
     ·exact fun q=>⟨by intro e;subst e;exact hjk rfl,q⟩
     ·exact fun q=>q.2
   constructor
   ·rintro⟨h1,h2,h3⟩;refine⟨fun j hj=>?_,⟨fun hm=>?_,h2⟩,by simp;omega⟩
    ·rcases List.mem_cons.1 hj with rfl|hj
     ·exact⟨by omega,by omega,g3⟩
     ·obtain⟨a,b,c⟩:=h1 j hj;rw[List.length_set]at b;exact⟨a,b,((hset j a).1 c).2⟩
    ·obtain⟨a,b,c⟩:=h1 k hm;exact((hset k a).1 c).1 rfl
   ·rintro⟨h1,⟨h2,h3⟩,h4⟩;refine⟨fun j hj=>?_,h3,by simp at h4;omega⟩;obtain⟨a,b,c⟩:=h1 j (List.mem_cons_of_mem _ hj);refine⟨a,by simpa using b,(hset j a).2 ⟨fun e=>h2 (e▸hj),c⟩⟩
theorem Xfd(l:List Ez)(i:Nat)(hi:i<l.length):(Kk l).getD i false=((l.map Ez.e).getD i default).mem:=by
 unfold Kk;rw[List.getD_eq_getElem?_getD,List.getElem?_map,List.getElem?_eq_getElem hi,List.getD_eq_getElem?_getD,List.getElem?_map,List.getElem?_eq_getElem hi];rfl
theorem Xqu(l:List Ez):countB (Kk l)=X4 (l.map Ez.e):=by
 unfold countB Kk X4
 induction l with
 |nil=>rfl
 |cons x r ih=>
  simp only[List.map_cons,List.filter_cons];cases h:x.e.mem<;>simp[ih]
theorem Xgl(l:List Ez)(od:List Int):Vs l od=((List.range od.length).all (Xar (l.map Ez.e) od)&&decide (od.length=X4 (l.map Ez.e))):=by
 have hgd:∀i (hi:i<od.length),od.getD i 0=od[i]:=fun i hi=>by rw[List.getD_eq_getElem?_getD,List.getElem?_eq_getElem hi];rfl
 rw[Bool.eq_iff_iff];unfold Vs;rw[Xth,Bool.and_eq_true,List.all_eq_true,decide_eq_true_eq,Xqu];have hml:(Kk l).length=l.length:=by simp[Kk]
 constructor
 ·rintro⟨h1,h2,h3⟩;refine⟨fun i hi=>?_,by omega⟩;have hi:=List.mem_range.1 hi;unfold Xar;rw[hgd i hi];obtain⟨a,b,c⟩:=h1 od[i] (List.getElem_mem hi);rw[hml]at b;rw[Xfd l _ (by omega)]at c;simp only[Bool.and_eq_true,decide_eq_true_eq,List.length_map];refine⟨⟨a,b⟩,fun j hj=>?_,c⟩;rw[hgd j (by omega)];intro e;rw[List.nodup_iff_pairwise_ne,List.pairwise_iff_getElem]at h2;exact h2 j i (by omega) hi hj e
 ·rintro⟨h1,h2⟩;have h1':∀i (hi:i<od.length),(0≤od[i]∧od[i]<l.length)∧(∀j (hj:j<i),od[j]≠od[i])∧((l.map Ez.e).getD (od[i]).toNat default).mem=true:=by
   intro i hi;have:=h1 i (List.mem_range.2 hi);unfold Xar at this;rw[hgd i hi]at this;simp only[Bool.and_eq_true,decide_eq_true_eq,List.length_map]at this;refine⟨this.1,fun j hj=>?_,this.2.2⟩;have:=this.2.1 j hj
   rwa[hgd j (by omega)]at this
  refine⟨fun k hk=>?_,?_,by omega⟩
  ·obtain⟨i,hi,rfl⟩:=List.getElem_of_mem hk;obtain⟨⟨a,b⟩, -,c⟩:=h1' i hi;exact⟨a,by rw[hml];exact b,by rw[Xfd l _ (by omega)];exact c⟩
  ·rw[List.nodup_iff_pairwise_ne,List.pairwise_iff_getElem];intro i j hi hj hij;exact(h1' j hj).2.1 i hij
theorem V5(c:Cz):Y3 c=XU (Yx c):=by
 have hfl:(c.hs.map fun p=>p.2.map Ez.e).flatten=(Xr c.hs).map Ez.e:=by
  unfold Xr;simp only[List.map_flatten,List.map_map];rfl
 unfold Y3 XU Yx;simp only;rw[hfl,Xlp,Xgl];simp only[List.length_map]
structure Good(es:List Ev)(od:List Int):Prop where
 rng:∀i,i<od.length→0≤od.getD i 0∧(od.getD i 0).toNat<es.length
 inj:∀i j,i<od.length→j<od.length→od.getD i 0=od.getD j 0→i=j
 mem:∀i,i<od.length→(es.getD (od.getD i 0).toNat default).mem=true
 all:∀n:Nat,n<es.length→(es.getD n default).mem=true→∃i,i<od.length∧od.getD i 0=(n:Int)
 row:∀i j,i<j→j<es.length→(es.getD i default).hart=(es.getD j default).hart→(es.getD i default).pos<(es.getD j default).pos∧∀k,i≤k→k≤j→(es.getD k default).hart=(es.getD i default).hart
 hart:∀i,i<es.length→0≤(es.getD i default).hart
 pos:∀i,i<es.length→0≤(es.getD i default).pos
theorem Ya7{Q P:List Nat}(hn:Q.Nodup)(hs:∀x∈Q,x∈P)(hl:P.length≤Q.length):∀x∈P,x∈Q:=by
 induction Q generalizing P with
 |nil=>
  intro x hx;have:P=[]:=List.eq_nil_of_length_eq_zero (by simpa using hl);subst this;exact hx
 |cons a r ih=>
  rw[List.nodup_cons]at hn;have ha:=hs a List.mem_cons_self;have hlen:=List.length_erase_of_mem ha;have hpos:0<P.length:=List.length_pos_of_mem ha;intro x hx;by_cases hxa:x=a
  ·subst hxa;exact List.mem_cons_self
  ·refine List.mem_cons_of_mem _ (ih (P:=P.erase a) hn.2 (fun y hy=>?_) ?_ x ((List.mem_erase_of_ne hxa).2 hx))
   ·have:y≠a:=fun e=>hn.1 (e▸hy);exact(List.mem_erase_of_ne this).2 (hs y (List.mem_cons_of_mem _ hy))
   ·simp at hl;omega
theorem Xek(es:List Ev):X4 es=((List.range es.length).filter fun n=>(es.getD n default).mem).length:=by
 have h:es=(List.range es.length).map fun n=>es.getD n default:=by
  apply List.ext_getElem (by simp);intro i h1 h2;simp[List.getD_eq_getElem?_getD,List.getElem?_eq_getElem h1]
 unfold X4
 conv=>lhs;rw[h]
 rw[List.filter_map,List.length_map];rfl
theorem GV.good{c:Cd}(h:GV c):Good c.harts.flatten c.order:=by
 have hrow:∀n,n<c.harts.flatten.length→∃i k:Nat,i<c.harts.length∧k<(c.harts.getD i []).length∧n=(c.harts.take i).flatten.length+k∧(c.harts.flatten.getD n default).hart=i∧(c.harts.flatten.getD n default).pos=k∧
   ∀j,j<(c.harts.getD i []).length→(c.harts.flatten.getD ((c.harts.take i).flatten.length+j) default).hart=i:=by
  intro n hn;obtain⟨i,k,h1,h2,h3,h4,h5⟩:=h.row hn;have hr:∀j,j<(c.harts.getD i []).length→((c.harts.getD i []).getD j default).hart=i∧((c.harts.getD i []).getD j default).pos=j:=by
   intro j hj;have:=h.rows i h1;rw[Xkp,List.all_eq_true]at this;have:=this j (List.mem_range.2 hj);simp only[rowAt,Bool.and_eq_true,decide_eq_true_eq]at this;exact this.1.2
  refine⟨i,k,h1,h2,h3,?_,?_,fun j hj=>by rw[h5 j hj];exact(hr j hj).1⟩
  ·rw[h3,h5 k h2];exact(hr k h2).1
  ·rw[h3,h5 k h2];exact(hr k h2).2
 have hod:∀i,i<c.order.length→(0≤c.order.getD i 0∧c.order.getD i 0<c.harts.flatten.length)∧(∀j,j<i→c.order.getD j 0≠c.order.getD i 0)∧(c.harts.flatten.getD (c.order.getD i 0).toNat default).mem=true:=by
  intro i hi;have:=h.od i hi;simpa only[Xar,Bool.and_eq_true,decide_eq_true_eq]using this
 have hinj:∀i j,i<c.order.length→j<c.order.length→c.order.getD i 0=c.order.getD j 0→i=j:=by
  intro i j hi hj e;rcases Nat.lt_trichotomy i j with g|g|g
  ·exact absurd e ((hod j hj).2.1 i g)
  ·exact g
  ·exact absurd e.symm ((hod i hi).2.1 j g)
 refine⟨fun i hi=>⟨(hod i hi).1.1,by have:=(hod i hi).1;omega⟩,hinj,fun i hi=>(hod i hi).2.2,fun n hn hm=>?_,fun i j hij hj he=>?_,fun i hi=>?_,fun i hi=>?_⟩
 ·have hmem:=Ya7 (Q:=(List.range c.order.length).map fun i=>(c.order.getD i 0).toNat) (P:=(List.range c.harts.flatten.length).filter fun n=>(c.harts.flatten.getD n default).mem) ?_ ?_ ?_ n ?_
  ·simp only[List.mem_map,List.mem_range]at hmem;obtain⟨i,hi,e⟩:=hmem;have:=(hod i hi).1.1;exact⟨i,hi,by omega⟩
  ·rw[List.nodup_iff_pairwise_ne,List.pairwise_iff_getElem];intro i j hi hj hij e;simp only[List.length_map,List.length_range]at hi hj;simp only[List.getElem_map,List.getElem_range]at e;have h1:=(hod i hi).1.1;have h2:=(hod j hj).1.1;have:=hinj i j hi hj (by omega);omega
  ·intro x hx;simp only[List.mem_map,List.mem_range]at hx;obtain⟨i,hi,rfl⟩:=hx;rw[List.mem_filter,List.mem_range];have:=(hod i hi).1;exact⟨by omega,(hod i hi).2.2⟩
  ·rw[List.length_map,List.length_range,←Xek,h.ol];exact Nat.le_refl _
  ·rw[List.mem_filter,List.mem_range];exact⟨hn,hm⟩
 ·obtain⟨a,x,a1,a2,a3,a4,a5,a6⟩:=hrow i (by omega);obtain⟨b,y,b1,b2,b3,b4,b5,b6⟩:=hrow j hj;have hab:a=b:=by rw[a4,b4]at he;omega
  subst hab;refine⟨by rw[a5,b5];omega,fun k k1 k2=>?_⟩;obtain⟨z,rfl⟩:∃z,k=(c.harts.take a).flatten.length+z:=⟨k - (c.harts.take a).flatten.length,by omega⟩;rw[a6 z (by omega),a4]
 ·obtain⟨a,x,a1,a2,a3,a4,a5,a6⟩:=hrow i hi;rw[a4];omega
 ·obtain⟨a,x,a1,a2,a3,a4,a5,a6⟩:=hrow i hi;rw[a5];omega
theorem Xpq{es:List Ev}{od:List Int}(G:Good es od){i n:Nat}(hi:i<od.length)(e:od.getD i 0=(n:Int)):placeOf od od.length n=i:=by
 have key:∀k,i<k→k≤od.length→placeOf od k n=i:=by
  intro k
  induction k with
  |zero=>intro h;omega
  |succ k ih=>
   intro h1 h2;rw[Hf];by_cases hk:od.getD k 0=(n:Int)
   ·rw[if_pos hk];have:=G.inj i k hi (by omega) (by rw[e,hk]);omega
   ·rw[if_neg hk];refine ih ?_ (by omega);rcases Nat.eq_or_lt_of_le (Nat.le_of_lt_succ h1)with g|g
    ·subst g;exact absurd e hk
    ·exact g
 exact key _ hi (Nat.le_refl _)
theorem Xxp{es:List Ev}{i j:Nat}(h:i<j)(hm:(es.getD i default).mem=true):∃m,i≤m∧m<j∧(es.getD m default).mem=true∧∀k,m<k→k<j→(es.getD k default).mem=false:=by
 induction j with
 |zero=>omega
 |succ j ih=>
  cases hj:(es.getD j default).mem
  ·rcases Nat.eq_or_lt_of_le (Nat.le_of_lt_succ h)with g|g
   ·subst g;rw[hm]at hj;cases hj
   ·obtain⟨m,h1,h2,h3,h4⟩:=ih g;refine⟨m,h1,by omega,h3,fun k k1 k2=>?_⟩;rcases Nat.eq_or_lt_of_le (Nat.le_of_lt_succ k2)with q|q
    ·subst q;exact hj
    ·exact h4 k k1 q
  ·exact⟨j,by omega,by omega,hj,fun k k1 k2=>by omega⟩
theorem Xuu{es:List Ev}{fr od pl:List Int}(G:Good es od)(hpl:∀i,i<od.length→pl.getD (od.getD i 0).toNat 0=i)
  (J:∀x y,Xoq es fr x y→pl.getD x 0≤pl.getD y 0) (F:Xhz es fr):∀j i,i<j→j<es.length→(es.getD i default).hart=(es.getD j default).hart→(es.getD i default).mem=true→(es.getD j default).mem=true→pl.getD i 0<pl.getD j 0:=by
 intro j
 induction j using Nat.strongRecOn with
 |ind j ih=>
  intro i hij hj hh hmi hmj;obtain⟨m,h1,h2,h3,h4⟩:=Xxp hij hmi;obtain⟨-,hb⟩:=G.row i j hij hj hh;have hhm:=hb m h1 (Nat.le_of_lt h2);have hmj':(es.getD m default).hart=(es.getD j default).hart:=by rw[hhm,hh]
  have hw:=F m j ⟨h2,hj,h3,hmj,h4⟩ hmj';obtain⟨-,hl⟩:=Xai.1 hw;have hle:pl.getD m 0≤pl.getD j 0:=by
   have key:∀n,Led es fr m n→n≤j→pl.getD m 0≤pl.getD n 0:=by
    intro n hn
    induction hn with
    |here=>intro _;exact Int.le_refl _
    | @step x y g1 g2 g3 ihx=>
     intro hy;have hmx:=g1.le;refine Int.le_trans (ihx (by omega)) (J x y ⟨g2,by omega,fun k k1 k2=>?_,g3⟩);rw[hb k (by omega) (by omega),hb x (by omega) (by omega)]
   exact key j hl (Nat.le_refl _)
  have hne:pl.getD m 0≠pl.getD j 0:=by
   obtain⟨a,a1,a2⟩:=G.all m (by omega) h3;obtain⟨b,b1,b2⟩:=G.all j hj hmj;have e1:=hpl a a1;have e2:=hpl b b1;rw[a2,Int.toNat_natCast]at e1;rw[b2,Int.toNat_natCast]at e2;rw[e1,e2];intro e;have:a=b:=by omega
   subst this;rw[a2]at b2;omega
  rcases Nat.eq_or_lt_of_le h1 with g|g
  ·subst g;omega
  ·have:=ih m h2 i g (by omega) (by rw[hhm]) hmi h3;omega
theorem Xfc{a:Int}{l:List (Int×Int)}{i j:Nat}{v:Int}(h:Kj a l i=some (j,v)):i≤j∧l[j - i]? =some (a,v):=by
 induction l generalizing i with
 |nil=>cases h
 |cons q r ih=>
  unfold Kj at h;split at h
  ·rename_i e;simp only[Option.some.injEq,Prod.mk.injEq]at h;obtain⟨rfl,rfl⟩:=h;refine⟨Nat.le_refl _,?_⟩;rw[Nat.sub_self,e];rfl
  ·obtain⟨h1,h2⟩:=ih h;refine⟨by omega,?_⟩;rw[show j - i=(j - (i+1))+1 by omega,List.getElem?_cons_succ];exact h2
theorem Xej(a v:Int)(l:List (Int×Int))(i:Nat)(h:Kj a l i=none):(Kj a (l++[(a,v)]) i).map (·.2)=some v:=by
 induction l generalizing i with
 |nil=>simp[Kj]
 |cons q r ih=>
  unfold Kj at h;rw[List.cons_append];unfold Kj;split at h
  ·cases h
  ·rename_i hne;rw[if_neg hne];exact ih _ h
theorem Xjg(a b v:Int)(hne:a≠b)(l:List (Int×Int))(i:Nat):(Kj a (l++[(b,v)]) i).map (·.2)=(Kj a l i).map (·.2):=by
 induction l generalizing i with
 |nil=>simp[Kj,hne]
 |cons q r ih=>
  rw[List.cons_append];unfold Kj;split
  ·rfl
  ·exact ih _
theorem Xei(a v:Int)(l:List (Int×Int))(i j:Nat)(w:Int)(h:Kj a l i=some (j,w)):(Kj a (l.set (j - i) (a,v)) i).map (·.2)=some v:=by
 induction l generalizing i with
 |nil=>cases h
 |cons q r ih=>
  unfold Kj at h;split at h
  ·simp only[Option.some.injEq,Prod.mk.injEq]at h;obtain⟨rfl,rfl⟩:=h;rw[Nat.sub_self,List.set_cons_zero];unfold Kj;rw[if_pos rfl];rfl
  ·rename_i hne;have hle:=(Xfc h).1;rw[show j - i=(j - (i+1))+1 by omega,List.set_cons_succ];unfold Kj;rw[if_neg hne];exact ih _ h
theorem Xje(a b v:Int)(hne:b≠a)(l:List (Int×Int))(i j:Nat)(w:Int)(h:Kj a l i=some (j,w))(i':Nat):(Kj b (l.set (j - i) (a,v)) i').map (·.2)=(Kj b l i').map (·.2):=by
 induction l generalizing i i' with
 |nil=>cases h
 |cons q r ih=>
  unfold Kj at h;split at h
  ·rename_i e;simp only[Option.some.injEq,Prod.mk.injEq]at h;obtain⟨rfl,rfl⟩:=h;rw[Nat.sub_self,List.set_cons_zero];unfold Kj;rw[if_neg hne,if_neg (by rw[←e];exact hne)]
  ·have hle:=(Xfc h).1;rw[show j - i=(j - (i+1))+1 by omega,List.set_cons_succ];unfold Kj;split
   ·rfl
   ·exact ih _ h _
theorem Xeh(a v:Int)(l:List (Int×Int)):Hl a (HY a v l)=v:=by
 unfold Hl HY;cases h:Kj a l 0 with
 |none=>simp only;rw[Xej a v l 0 h];rfl
 |some q=>obtain⟨j,w⟩:=q;simp only;have:=Xei a v l 0 j w h;rw[Nat.sub_zero]at this;rw[this];rfl
theorem Xjd(a b v:Int)(hne:b≠a)(l:List (Int×Int)):Hl b (HY a v l)=Hl b l:=by
 unfold Hl HY;cases h:Kj a l 0 with
 |none=>simp only;rw[Xjg b a v hne l 0]
 |some q=>obtain⟨j,w⟩:=q;simp only;have:=Xje a b v hne l 0 j w h 0;rw[Nat.sub_zero]at this;rw[this]
def Xmz(es:List Ev)(pl:List Int)(n k:Nat):Prop:=
 k≠n∧(es.getD k default).writes=true∧(es.getD k default).addr=(es.getD n default).addr∧
  (((es.getD k default).hart=(es.getD n default).hart∧(es.getD k default).pos<(es.getD n default).pos)∨pl.getD k 0<pl.getD n 0)
theorem Xo0(es:List Ev)(pl:List Int)(n:Nat)(k:Nat):(ZB es pl n k= -1∧∀m,m<k→¬Xmz es pl n m)∨
  ∃s:Nat,s<k∧ZB es pl n k=s∧Xmz es pl n s∧∀m,m<k→Xmz es pl n m→pl.getD m 0≤pl.getD s 0:=by
 induction k with
 |zero=>exact .inl ⟨by simp[ZB],fun m h=>by omega⟩
 |succ k ih=>
  rw[Xal];unfold Xam;have hsp:∀best:Int,Xeb es pl n best k↔Xmz es pl n k∧(best<0∨pl.getD best.toNat 0<pl.getD k 0):=by
   intro best;unfold Xeb Xmz;constructor
   ·rintro⟨a,b,c,d,e⟩;exact⟨⟨a,b,c,d⟩,e⟩
   ·rintro⟨⟨a,b,c,d⟩,e⟩;exact⟨a,b,c,d,e⟩
  rcases ih with⟨h1,h2⟩|⟨s,h1,h2,h3,h4⟩
  ·rw[h1];by_cases hc:Xeb es pl n (-1) k
   ·rw[if_pos hc];refine .inr ⟨k,Nat.lt_succ_self _,rfl,((hsp _).1 hc).1,fun m hm hcm=>?_⟩;rcases Nat.eq_or_lt_of_le (Nat.le_of_lt_succ hm)with g|g
    ·subst g;exact Int.le_refl _
    ·exact absurd hcm (h2 m g)
   ·rw[if_neg hc];refine .inl ⟨rfl,fun m hm hcm=>?_⟩;rcases Nat.eq_or_lt_of_le (Nat.le_of_lt_succ hm)with g|g
    ·subst g;exact hc ((hsp _).2 ⟨hcm, .inl (by omega)⟩)
    ·exact h2 m g hcm
  ·rw[h2];by_cases hc:Xeb es pl n (s:Int) k
   ·rw[if_pos hc];obtain⟨c1,c2⟩:=(hsp _).1 hc;rw[Int.toNat_natCast]at c2;refine .inr ⟨k,Nat.lt_succ_self _,rfl,c1,fun m hm hcm=>?_⟩;rcases Nat.eq_or_lt_of_le (Nat.le_of_lt_succ hm)with g|g
    ·subst g;exact Int.le_refl _
    ·have:=h4 m g hcm;omega
   ·rw[if_neg hc];refine .inr ⟨s,by omega,rfl,h3,fun m hm hcm=>?_⟩;rcases Nat.eq_or_lt_of_le (Nat.le_of_lt_succ hm)with g|g
    ·subst g;rcases Int.lt_or_le (pl.getD s 0) (pl.getD m 0)with q|q
     ·exact absurd ((hsp _).2 ⟨hcm, .inr (by rw[Int.toNat_natCast];exact q)⟩) hc
     ·exact q
    ·exact h4 m g hcm
theorem Xey{e:Ev}(h:e.writes=true):e.mem=true:=by unfold Ev.mem Jn;unfold Ev.writes at h;rw[h];simp
theorem Xpm{es:List Ev}{fr od pl:List Int}(G:Good es od)(hpl:∀i,i<od.length→pl.getD (od.getD i 0).toNat 0=i)
  (M:∀j i,i<j→j<es.length→(es.getD i default).hart=(es.getD j default).hart→(es.getD i default).mem=true→(es.getD j default).mem=true→pl.getD i 0<pl.getD j 0)
  (J:∀n,n<es.length→(es.getD n default).reads=true→JH es pl n=fr.getD n 0):
  ∀(f k:Nat) (at_:List Int) (by_:List (Int×Int)),k+f=od.length→
   (∀h:Nat,at_.getD h 0≤0∨∃j,j<k∧(es.getD (od.getD j 0).toNat default).hart=h∧at_.getD h 0=(es.getD (od.getD j 0).toNat default).pos)→
   (∀a,(Hl a by_= -1∧∀i,i<k→¬((es.getD (od.getD i 0).toNat default).writes=true∧(es.getD (od.getD i 0).toNat default).addr=a))∨
    ∃i,i<k∧Hl a by_=od.getD i 0∧((es.getD (od.getD i 0).toNat default).writes=true∧(es.getD (od.getD i 0).toNat default).addr=a)∧∀j,i<j→j<k→¬((es.getD (od.getD j 0).toNat default).writes=true∧(es.getD (od.getD j 0).toNat default).addr=a))→
   KN es fr (od.drop k) at_ by_=true:=by
 intro f
 induction f with
 |zero=>
  intro k at_ by_ hk _ _;rw[List.drop_eq_nil_of_le (by omega)];rfl
 |succ f ih=>
  intro k at_ by_ hkf hat hby;have hk:k<od.length:=by omega
  rw[List.drop_eq_getElem_cons hk];have hgd:od.getD k 0=od[k]:=by rw[List.getD_eq_getElem?_getD,List.getElem?_eq_getElem hk];rfl
  rw[←hgd];unfold KN;obtain⟨r1,r2⟩:=G.rng k hk;have hmk:=G.mem k hk;have hpk:=hpl k hk;have hnk:((od.getD k 0).toNat:Int)=od.getD k 0:=Int.toNat_of_nonneg r1;generalize hn:(od.getD k 0).toNat=n at*
  have hidx:∀i,i<od.length→i≠k→(od.getD i 0).toNat≠n:=fun i hi hik e=>by
   have h1:=(G.rng i hi).1;exact hik (G.inj i k hi hk (by omega))
  rw[if_neg ?c1,if_neg ?c2]
  case c1=>
   intro hlt;have hp0:=G.pos n r2;have hh0:=G.hart n r2;rcases hat (es.getD n default).hart.toNat with h|⟨j,j1,j2,j3⟩
   ·omega
   ·have hjm:(od.getD j 0).toNat≠n:=hidx j (by omega) (by omega);have hpj:=hpl j (by omega);have hjm2:=G.mem j (by omega);have hjr:=(G.rng j (by omega)).2;have hheq:(es.getD (od.getD j 0).toNat default).hart=(es.getD n default).hart:=by omega
    rcases Nat.lt_or_gt_of_ne hjm with g|g
    ·have:=(G.row _ n g r2 hheq).1;omega
    ·have:=M _ n g hjr hheq.symm hmk hjm2;omega
  case c2=>
   rintro⟨hr,hne⟩;refine hne ?_;rw[←J n r2 hr];unfold JH;have hcand:∀m,m<es.length→(Xmz es pl n m↔m≠n∧(es.getD m default).writes=true∧(es.getD m default).addr=(es.getD n default).addr∧pl.getD m 0<k):=by
    intro m hm;unfold Xmz;rw[hpk];constructor
    ·rintro⟨g1,g2,g3,g4⟩;refine⟨g1,g2,g3,?_⟩;rcases g4 with⟨g5,g6⟩|g4
     ·rcases Nat.lt_or_gt_of_ne g1 with q|q
      ·have:=M n m q r2 g5 (Xey g2) hmk;omega
      ·have:=(G.row n m q hm g5.symm).1;omega
     ·exact g4
    ·rintro⟨g1,g2,g3,g4⟩;exact⟨g1,g2,g3, .inr g4⟩
   rcases Xo0 es pl n es.length with⟨s1,s2⟩|⟨s,s0,s1,s2,s3⟩
   ·rw[s1];rcases hby (es.getD n default).addr with⟨b1, -⟩|⟨i,b0,b1,⟨b2,b3⟩, -⟩
    ·exact b1
    ·have hir:=(G.rng i (by omega)).2;refine absurd ((hcand _ hir).2 ⟨hidx i (by omega) (by omega),b2,b3,?_⟩) (s2 _ hir);rw[hpl i (by omega)];omega
   ·rw[s1];obtain⟨c1,c2,c3,c4⟩:=(hcand s s0).1 s2;obtain⟨i',i1,i2⟩:=G.all s s0 (Xey c2);have hps:=hpl i' i1;rw[i2,Int.toNat_natCast]at hps;rcases hby (es.getD n default).addr with⟨-,b2⟩|⟨i,b0,b1,⟨b2,b3⟩,b4⟩
    ·exact absurd ⟨by rw[i2,Int.toNat_natCast];exact c2,by rw[i2,Int.toNat_natCast];exact c3⟩ (b2 i' (by omega))
    ·have hir:=(G.rng i (by omega)).2;have hle:=s3 _ hir ((hcand _ hir).2 ⟨hidx i (by omega) (by omega),b2,b3,by rw[hpl i (by omega)];omega⟩);rw[hpl i (by omega),hps]at hle;rcases Nat.eq_or_lt_of_le (show i≤i' by omega)with q|q
     ·subst q;rw[b1,i2]
     ·exact absurd ⟨by rw[i2,Int.toNat_natCast];exact c2,by rw[i2,Int.toNat_natCast];exact c3⟩ (b4 i' q (by omega))
  refine ih (k+1) _ _ (by omega) (fun h=>?_) (fun a=>?_)
  ·by_cases hh:(es.getD n default).hart.toNat=h
   ·by_cases hl:h<at_.length
    ·refine .inr ⟨k,Nat.lt_succ_self _,?_,?_⟩
     ·rw[hn];have:=G.hart n r2;omega
     ·rw[hn,List.getD_eq_getElem?_getD,List.getElem?_set,if_pos hh,if_pos (by omega)];rfl
    ·left;rw[List.getD_eq_getElem?_getD,List.getElem?_eq_none (by rw[List.length_set];omega)];exact Int.le_refl _
   ·have e:(at_.set (es.getD n default).hart.toNat (es.getD n default).pos).getD h 0=at_.getD h 0:=by
     rw[List.getD_eq_getElem?_getD,List.getElem?_set,if_neg hh,List.getD_eq_getElem?_getD]
    rw[e];rcases hat h with q|⟨j,j1,j2,j3⟩
    ·exact .inl q
    ·exact .inr ⟨j,by omega,j2,j3⟩
  ·by_cases hw:(es.getD n default).writes=true
   ·rw[if_pos hw];by_cases ha:a=(es.getD n default).addr
    ·refine .inr ⟨k,Nat.lt_succ_self _,?_,?_,fun j h1 h2=>by omega⟩
     ·rw[ha,Xeh]
     ·rw[hn];exact⟨hw,ha.symm⟩
    ·rw[Xjd _ _ _ ha];have hnk':¬((es.getD (od.getD k 0).toNat default).writes=true∧(es.getD (od.getD k 0).toNat default).addr=a):=by rw[hn];exact fun q=>ha q.2.symm
     rcases hby a with⟨b1,b2⟩|⟨i,b0,b1,b2,b3⟩
     ·refine .inl ⟨b1,fun i hi=>?_⟩;rcases Nat.eq_or_lt_of_le (Nat.le_of_lt_succ hi)with q|q
      ·subst q;exact hnk'
      ·exact b2 i q
     ·refine .inr ⟨i,by omega,b1,b2,fun j h1 h2=>?_⟩;rcases Nat.eq_or_lt_of_le (Nat.le_of_lt_succ h2)with q|q
      ·subst q;exact hnk'
      ·exact b3 j h1 q
   ·rw[if_neg hw];have hnk':¬((es.getD (od.getD k 0).toNat default).writes=true∧(es.getD (od.getD k 0).toNat default).addr=a):=by rw[hn];exact fun q=>hw q.1
    rcases hby a with⟨b1,b2⟩|⟨i,b0,b1,b2,b3⟩
    ·refine .inl ⟨b1,fun i hi=>?_⟩;rcases Nat.eq_or_lt_of_le (Nat.le_of_lt_succ hi)with q|q
     ·subst q;exact hnk'
     ·exact b2 i q
    ·refine .inr ⟨i,by omega,b1,b2,fun j h1 h2=>?_⟩;rcases Nat.eq_or_lt_of_le (Nat.le_of_lt_succ h2)with q|q
     ·subst q;exact hnk'
     ·exact b3 j h1 q
theorem ZK{c:Cz}(hck:XU (Yx c)=true)(J:JOk (allB (Yx c)) c.fr c.od (YO c.fr.length c.od))(F:Xhz (allB (Yx c)) c.fr):Jd c=true:=by
 have CY:=GV.of hck;have G:Good (Yx c).harts.flatten c.od:=CY.good;have hal:=Z8 hck;rw[hal]at J F;have hmap:(Xr c.hs).map Ez.e=(Yx c).harts.flatten:=by
  unfold Xr Yx;simp only[List.map_flatten,List.map_map];rfl
 have hfl:c.fr.length=(Yx c).harts.flatten.length:=CY.fl;unfold Jd;rw[V5,hck,Bool.true_and,hmap];generalize(Yx c).harts.flatten=es at*
 have hpl:∀i,i<c.od.length→(YO c.fr.length c.od).getD (c.od.getD i 0).toNat 0=i:=by
  intro i hi;obtain⟨r1,r2⟩:=G.rng i hi;rw[Xfa (by omega)];exact Xpq G hi (Int.toNat_of_nonneg r1).symm
 have:=Xpm G hpl (Xuu G hpl J.1 F) J.2.1 c.od.length 0 (List.replicate c.hs.length (-1)) [] (by omega) (fun h=>?_) (fun a=> .inl ⟨rfl,fun i hi=>by omega⟩)
 ·rwa[List.drop_zero]at this
 ·left;rw[List.getD_eq_getElem?_getD,List.getElem?_replicate];split<;>simp
def Yd1(hs:List (Bool×List Ez)):Prop:=∀p∈hs,∀j (h:j<p.2.length),p.2[j].e.pos=j
theorem Xsd(h:Nat)(l:List Ez)(k n:Nat)(hn:n<l.length):(YB h l k)[2*n]? =some (Xw1 l[n] (k+n))∧(YB h l k)[2*n+1]? =some (Xn7 h (k+n)):=by
 induction l generalizing k n with
 |nil=>simp at hn
 |cons x r ih=>
  cases n with
  |zero=>simp[YB]
  |succ n=>
   have:=ih (k+1) n (by simpa using hn);unfold YB;rw[show 2*(n+1)=2*n+1+1 by omega,show 2*n+1+1+1=(2*n+1)+1+1 by omega];simp only[List.getElem?_cons_succ,List.getElem_cons_succ];rw[show k+(n+1)=k+1+n by omega];exact this
theorem Xa0(p:Bool×List Ez)(r:List (Bool×List Ez)):Xr (p::r)=p.2++Xr r:=by simp[Xr]
theorem Xyv(hs:List (Bool×List Ez))(hp:Yd1 hs):∀(k n:Nat) (hn:n<(Xr hs).length),∃j h:Nat,(Xr hs)[n].e.pos=j∧(Xr (YI hs k))[2*n]? =some (Xw1 (Xr hs)[n] j)∧(Xr (YI hs k))[2*n+1]? =some (Xn7 h j):=by
 induction hs with
 |nil=>intro k n hn;simp[Xr]at hn
 |cons p r ih=>
  intro k n hn;have ih:=ih (fun q hq=>hp q (List.mem_cons_of_mem _ hq));unfold YI;simp only[Xa0]at hn⊢;have hl:=Xan k p.2 0;by_cases h:n<p.2.length
  ·obtain⟨g1,g2⟩:=Xsd k p.2 0 n h;rw[Nat.zero_add]at g1 g2;refine⟨n,k,?_,?_,?_⟩
   ·rw[List.getElem_append_left h];exact hp p List.mem_cons_self n h
   ·rw[List.getElem?_append_left (by omega),g1,List.getElem_append_left h]
   ·rw[List.getElem?_append_left (by omega),g2]
  ·rw[List.length_append]at hn;obtain⟨j,h',g1,g2,g3⟩:=ih (k+1) (n - p.2.length) (by omega);refine⟨j,h',?_,?_,?_⟩
   ·rw[List.getElem_append_right (by omega)];exact g1
   ·rw[List.getElem?_append_right (by omega),hl,show 2*n - 2*p.2.length=2*(n - p.2.length) by omega,g2,List.getElem_append_right (by omega)]
   ·rw[List.getElem?_append_right (by omega),hl,show 2*n+1 - 2*p.2.length=2*(n - p.2.length)+1 by omega,g3]
theorem Xbl(hs:List (Bool×List Ez)):∀k:Nat,(Xr (YI hs k)).length=2*(Xr hs).length:=by
 induction hs with
 |nil=>intro k;simp[Xr,YI]
 |cons p r ih=>intro k;unfold YI;simp only[Xa0,List.length_append,ih,Xan];omega
structure Xfw(es es':List Ev):Prop where
 len:es'.length=2*es.length
 kind:∀n,n<es.length→(es'.getD (2*n) default).kind=(es.getD n default).kind
 addr:∀n,n<es.length→(es'.getD (2*n) default).addr=(es.getD n default).addr
 hart:∀n,n<es.length→(es'.getD (2*n) default).hart=(es.getD n default).hart
 pos:∀n,n<es.length→(es'.getD (2*n) default).pos=2*(es.getD n default).pos
 fence:∀n,n<es.length→(es'.getD (2*n+1) default).kind=6∧(es'.getD (2*n+1) default).pred=3∧(es'.getD (2*n+1) default).succ=3
theorem Xsc(hs:List (Bool×List Ez))(hp:Yd1 hs):Xfw ((Xr hs).map Ez.e) ((Xr (YI hs 0)).map Ez.e):=by
 have hat:∀n,n<((Xr hs).map Ez.e).length→∃j h:Nat,(((Xr hs).map Ez.e).getD n default).pos=j∧((Xr (YI hs 0)).map Ez.e).getD (2*n) default=(Xw1 ((Xr hs).getD n default) j).e∧((Xr hs).map Ez.e).getD n default=((Xr hs).getD n default).e∧((Xr (YI hs 0)).map Ez.e).getD (2*n+1) default=(Xn7 h j).e:=by
  intro n hn;rw[List.length_map]at hn;obtain⟨j,h,g1,g2,g3⟩:=Xyv hs hp 0 n hn;have e:(Xr hs).getD n default=(Xr hs)[n]:=by rw[List.getD_eq_getElem?_getD,List.getElem?_eq_getElem hn];rfl
  refine⟨j,h,?_,?_,GE _ _,?_⟩
  ·rw[GE,e];exact g1
  ·rw[List.getD_eq_getElem?_getD,List.getElem?_map,g2,e];rfl
  ·rw[List.getD_eq_getElem?_getD,List.getElem?_map,g3];rfl
 refine⟨by rw[List.length_map,List.length_map,Xbl],?_,?_,?_,?_,?_⟩<;>intro n hn<;>obtain⟨j,h,g1,g2,g3,g4⟩:=hat n hn
 ·rw[g2,g3];rfl
 ·rw[g2,g3];rfl
 ·rw[g2,g3];rfl
 ·rw[g2,g1];show((2*j:Nat):Int)=2*(j:Int);omega
 ·rw[g4];exact⟨rfl,rfl,rfl⟩
theorem Xfw.mem{es es':List Ev}(S:Xfw es es'){n:Nat}(hn:n<es'.length)(h:(es'.getD n default).mem=true):∃m,n=2*m∧m<es.length∧(es.getD m default).mem=true:=by
 have hl:=S.len;rcases Nat.mod_two_eq_zero_or_one n with q|q
 ·refine⟨n / 2,by omega,by omega,?_⟩;have:=S.kind (n / 2) (by omega);rw[show 2*(n / 2)=n by omega]at this;unfold Ev.mem at h⊢;rw[←this];exact h
 ·obtain⟨h6, -⟩:=S.fence (n / 2) (by omega);rw[show 2*(n / 2)+1=n by omega]at h6;unfold Ev.mem at h;rw[h6]at h;simp[Jn,XD,Xu]at h
theorem Xlh{es es':List Ev}{od fr':List Int}(G:Good es od)(S:Xfw es es'):Xhz es' fr':=by
 rintro m n ⟨h1,h2,h3,h4, -⟩ hh;obtain⟨i,rfl,i2,i3⟩:=S.mem (by omega) h3;obtain⟨j,rfl,j2,j3⟩:=S.mem h2 h4;rw[S.hart i i2,S.hart j j2]at hh;have hp:=(G.row i j (by omega) j2 hh).1;have ha:Hy es' (2*i:Nat) (2*j:Nat)=true:=by
  unfold Hy;simp only[Int.toNat_natCast,Bool.and_eq_true,decide_eq_true_eq];refine⟨⟨by omega,by omega,by omega,by omega⟩,⟨?_,?_⟩,h3,h4⟩
  ·rw[S.hart i i2,S.hart j j2,hh]
  ·rw[S.pos i i2,S.pos j j2];omega
 rw[Xai];refine⟨ha, .step .here (by omega) (Xss.2 ⟨4,by omega,by omega,?_⟩)⟩;unfold Vw;rw[Bool.and_eq_true];refine⟨ha,?_⟩;obtain⟨f1,f2,f3⟩:=S.fence i i2
 show btw (2*i) (2*j) (p4 es' (es'.getD (2*i) default).kind (es'.getD (2*j) default).kind)=true
 refine Xa4 (m:=2*i+1) (by omega) (by omega) ?_;unfold p4;rw[f1,f2,f3];have hs:∀k,Jn k=true→Xf8 3 k=true:=by
  intro k hk;unfold Jn at hk;unfold Xf8;have e1:(3:Int) / 2%2=1:=by decide
  have e2:(3:Int)%2=1:=by decide
  rw[e1,e2];simpa using hk
 rw[hs _ h3,hs _ h4];rfl
def dbl(x:Int):Int:=if x<0 then x else 2*x
theorem Ycz{x y:Int}:dbl x=dbl y↔x=y:=by
 unfold dbl;split<;>split<;>omega
theorem Xyn(l:List Int)(i:Nat):(l.map dbl).getD i 0=dbl (l.getD i 0):=by
 rw[List.getD_eq_getElem?_getD,List.getElem?_map,List.getD_eq_getElem?_getD];cases l[i]?<;>rfl
def Xvc(l:List (Int×Int)):List (Int×Int):=l.map fun p=>(p.1,dbl p.2)
theorem Xjf(a:Int)(l:List (Int×Int))(i:Nat):Kj a (Xvc l) i=(Kj a l i).map fun q=>(q.1,dbl q.2):=by
 induction l generalizing i with
 |nil=>rfl
 |cons p r ih=>
  unfold Xvc;rw[List.map_cons];unfold Kj;split
  ·rfl
  ·exact ih _
theorem Xtv(a:Int)(l:List (Int×Int)):Hl a (Xvc l)=dbl (Hl a l):=by
 unfold Hl;rw[Xjf];cases Kj a l 0<;>rfl
theorem Xtr(a v:Int)(l:List (Int×Int)):HY a (dbl v) (Xvc l)=Xvc (HY a v l):=by
 unfold HY;rw[Xjf];cases Kj a l 0 with
 |none=>simp[Xvc]
 |some q=>simp[Xvc,List.map_set]
theorem Xw0(l:List Int)(n:Nat)(hn:n<l.length):(JG l).getD (2*n) 0=if l[n]<0 then l[n]else YQ l[n]:=by
 induction l generalizing n with
 |nil=>simp at hn
 |cons w r ih=>
  unfold JG;cases n with
  |zero=>rfl
  |succ n=>
   have:=ih n (by simpa using hn);rw[show 2*(n+1)=2*n+1+1 by omega];simpa using this
theorem Xr0{x:Int}(h:x≤1000):(if x<0 then x else YQ x)=dbl x:=by
 unfold dbl;split
 ·rfl
 ·unfold YQ;rw[wrap_small]<;>omega
theorem Xiv{es es':List Ev}{fr fr':List Int}(S:Xfw es es')(hn:es.length≤1000)(h0:∀n,n<es.length→0≤(es.getD n default).pos)(hfr:∀n,n<es.length→fr'.getD (2*n) 0=dbl (fr.getD n 0)):
  ∀(od at_:List Int) (by_:List (Int×Int)),(∀k∈od,0≤k∧k<es.length)→KN es' fr' (od.map YQ) (at_.map dbl) (Xvc by_)=KN es fr od at_ by_:=by
 intro od
 induction od with
 |nil=>intro at_ by_ _;rfl
 |cons n r ih=>
  intro at_ by_ hod;obtain⟨n1,n2⟩:=hod n List.mem_cons_self;have ih:=ih;obtain⟨m,rfl⟩:∃m:Nat,n=m:=⟨n.toNat,by omega⟩;have hm:m<es.length:=by omega
  have ht:YQ (m:Int)=(2*m:Nat):=by unfold YQ;rw[wrap_small]<;>omega
  have htd:(((2*m:Nat)):Int)=dbl (m:Int):=by unfold dbl;rw[if_neg (by omega)];omega
  rw[List.map_cons];unfold KN;have hr:(es'.getD (2*m) default).reads=(es.getD m default).reads:=by unfold Ev.reads;rw[S.kind m hm]
  have hw:(es'.getD (2*m) default).writes=(es.getD m default).writes:=by unfold Ev.writes;rw[S.kind m hm]
  have hp:=h0 m hm;have hpd:2*(es.getD m default).pos=dbl (es.getD m default).pos:=by unfold dbl;rw[if_neg (by omega)]
  rw[ht];simp only[Int.toNat_natCast];rw[S.hart m hm,S.addr m hm,S.pos m hm,hr,hw,Xyn,Xtv,hfr m hm];have c1:(2*(es.getD m default).pos<dbl (at_.getD (es.getD m default).hart.toNat 0))↔(es.getD m default).pos<at_.getD (es.getD m default).hart.toNat 0:=by
   unfold dbl;split<;>omega
  have c2:(dbl (Hl (es.getD m default).addr by_)≠dbl (fr.getD m 0))↔Hl (es.getD m default).addr by_≠fr.getD m 0:=not_congr Ycz;simp only[c1,c2];have e1:(at_.map dbl).set (es.getD m default).hart.toNat (2*(es.getD m default).pos)=(at_.set (es.getD m default).hart.toNat (es.getD m default).pos).map dbl:=by rw[List.map_set,hpd]
  have e2:(if(es.getD m default).writes=true then HY (es.getD m default).addr ((2*m:Nat):Int) (Xvc by_)else Xvc by_)=Xvc (if(es.getD m default).writes=true then HY (es.getD m default).addr (m:Int) by_ else by_):=by
   split
   ·rw[htd,Xtr]
   ·rfl
  rw[e1,e2,ih _ _ fun k hk=>hod k (List.mem_cons_of_mem _ hk)]
theorem Z2(c:Cz):(Xr c.hs).map Ez.e=(Yx c).harts.flatten:=by
 unfold Xr Yx;simp only[List.map_flatten,List.map_map];rfl
theorem Xxr{c:Cz}(h:XU (Yx c)=true):Yd1 c.hs:=by
 have CY:=GV.of h;intro p hp j hj;obtain⟨i,hi,rfl⟩:=List.getElem_of_mem hp;have e:(Yx c).harts.getD i []=c.hs[i].2.map Ez.e:=by
  unfold Yx;simp only;rw[List.getD_eq_getElem?_getD,List.getElem?_map,List.getElem?_eq_getElem hi];rfl
 have:=CY.rows i (by unfold Yx;simpa using hi);rw[Xkp,List.all_eq_true]at this;have:=this j (List.mem_range.2 (by rw[e,List.length_map];exact hj));simp only[rowAt,Bool.and_eq_true,decide_eq_true_eq]at this;have:=this.1.2.2;rw[e,GE,List.getD_eq_getElem?_getD,List.getElem?_eq_getElem hj]at this;exact this
theorem Xju(l:List (Bool×List Ez)):(Xr l).length=Xie l:=by
 induction l with
 |nil=>rfl
 |cons p r ih=>rw[Xa0,List.length_append,ih];rfl
def Yhw(c:Cz):Prop:=∀p∈c.hs,∀x∈p.2,(x.z1=true→x.e.da=[])∧(x.z2=true→x.e.dd=[])∧(x.z3=true→x.e.dw=[])
theorem Yc0{c:Cz}(hw:Yhw c)(hf:Xqn c=true):H7 c:=by
 obtain⟨f1,f2,f3,f4,f5,f6⟩:=Xa1 hf;refine⟨by omega,by omega,by rw[Xju];omega,by omega,by omega,fun p hp x hx=>?_⟩;obtain⟨g1,g2⟩:=f6 p hp;obtain⟨q1,q2,q3⟩:=g2 x hx;obtain⟨w1,w2,w3⟩:=hw p hp x hx;exact⟨⟨w1,w2,w3,by omega,by omega,by omega⟩,by omega,by omega,by omega⟩
theorem Xo1{h:Nat}{l:List Ez}{k:Nat}{y:Ez}(hy:y∈YB h l k):(∃x∈l,∃j,y=Xw1 x j)∨∃j,y=Xn7 h j:=by
 induction l generalizing k with
 |nil=>cases hy
 |cons x r ih=>
  unfold YB at hy;rcases List.mem_cons.1 hy with rfl|hy
  ·exact .inl ⟨x,List.mem_cons_self,_,rfl⟩
  ·rcases List.mem_cons.1 hy with rfl|hy
   ·exact .inr ⟨_,rfl⟩
   ·rcases ih hy with⟨x',h1,h2⟩|h
    ·exact .inl ⟨x',List.mem_cons_of_mem _ h1,h2⟩
    ·exact .inr h
theorem Xse{hs:List (Bool×List Ez)}{k:Nat}{q:Bool×List Ez}(hq:q∈YI hs k):∃p∈hs,∃j,q.2=YB j p.2 0:=by
 induction hs generalizing k with
 |nil=>cases hq
 |cons p r ih=>
  unfold YI at hq;rcases List.mem_cons.1 hq with rfl|hq
  ·exact⟨p,List.mem_cons_self,k,rfl⟩
  ·obtain⟨p',h1,h2⟩:=ih hq;exact⟨p',List.mem_cons_of_mem _ h1,h2⟩
theorem Xy7{c:Cz}(hf:Xqn c=true):H7 (Xh2 c):=by
 obtain⟨f1,f2,f3,f4,f5,f6⟩:=Xa1 hf;unfold Xh2;refine⟨by show c.f.length≤1000;omega,by show(YI c.hs 0).length≤1000;rw[Xcj];omega,by show(Xr (YI c.hs 0)).length≤1000;rw[Xbl,Xju];omega,by show(JG c.fr).length≤1000;rw[Xif];omega,by show(c.od.map YQ).length≤1000;rw[List.length_map];omega,fun q hq x hx=>?_⟩;obtain⟨p,hp,j,hj⟩:=Xse hq;rw[hj]at hx;obtain⟨g1,g2⟩:=f6 p hp;rcases Xo1 hx with⟨y,hy,k,rfl⟩|⟨k,rfl⟩
 ·obtain⟨q1,q2,q3⟩:=g2 y hy;have z:∀l:List Int,decide (l.length=0)=true→l.map YQ=[]:=fun l h=>by
   have:l=[]:=List.eq_nil_of_length_eq_zero (of_decide_eq_true h);rw[this];rfl
  refine⟨⟨z _,z _,z _,?_,?_,?_⟩,?_,?_,?_⟩<;>simp only[Xw1,List.length_map]<;>omega
 ·exact⟨⟨fun _=>rfl,fun _=>rfl,fun _=>rfl,by simp[Xn7],by simp[Xn7],by simp[Xn7]⟩,by simp[Xn7],by simp[Xn7],by simp[Xn7]⟩
theorem Xvd{c:Cz}(h:H7 c):Xwh c:=by
 unfold Xwh;rw[HH];cases hck:XU (Yx c)
 ·rw[Xv2 hck];exact⟨by simp,fun i hi=>by simp at hi,fun i hi=>by simp at hi⟩
 ·rw[Z8 hck];have CY:=GV.of hck;have hf:=Ydk h;have hrow:∀n,n<(Yx c).harts.flatten.length→Xl ((Yx c).harts.flatten.getD n default)=true:=by
   intro n hn;obtain⟨i,k,h1,h2,h3,h4,h5⟩:=CY.row hn;simp only[rowAt,Bool.and_eq_true,decide_eq_true_eq]at h4;rw[h3,h5 k h2];exact h4.1.1
  refine⟨hf.all,fun i hi=>?_,fun i hi=>?_⟩
  ·rw[←Z2]at hi⊢;rw[List.length_map]at hi;rw[GE,List.getD_eq_getElem?_getD,List.getElem?_eq_getElem hi];obtain⟨p,hp,hx⟩:=Xdi (List.getElem_mem hi);exact(h.ev p hp _ hx).2
  ·have:=hrow i hi;unfold Xl at this;rw[Bool.and_eq_true]at this;obtain⟨-,h2⟩:=this;split at h2
   ·unfold Gk at h2;have:=of_decide_eq_true h2;omega
   ·rw[Bool.and_eq_true]at h2;have h2:=h2.2;unfold XY at h2;rw[Bool.and_eq_true,decide_eq_true_eq]at h2;have:=h2.1;omega
theorem Xe2{c:Cz}(h:XU (Yx c)=true):Xfw (Yx c).harts.flatten (Yx (Xh2 c)).harts.flatten:=by
 have:=Xsc c.hs (Xxr h);rw[Z2]at this;have e:(Xr (YI c.hs 0)).map Ez.e=(Yx (Xh2 c)).harts.flatten:=Z2 (Xh2 c)
 rwa[e]at this
theorem Xyt{c:Cz}(h:XU (Yx c)=true):Xhz (allB (Yx (Xh2 c))) (Xh2 c).fr:=by
 cases hd:XU (Yx (Xh2 c))
 ·rw[Xv2 hd];intro m n hmn;have:=hmn.2.1;simp at this
 ·rw[Z8 hd];exact Xlh (GV.of h).good (Xe2 h)
theorem Xtb{c:Cz}(hc:H7 c)(h:XU (Yx c)=true)(hd:XU (Yx (Xh2 c))=true):Jd (Xh2 c)=Jd c:=by
 have CY:=GV.of h;have G:Good (Yx c).harts.flatten c.od:=CY.good;unfold Jd;rw[V5,V5,h,hd,Bool.true_and,Bool.true_and,Z2,Z2];have hlen:(Yx c).harts.flatten.length≤1000:=(Ydk hc).all;have hfl:c.fr.length=(Yx c).harts.flatten.length:=CY.fl;have hfr:∀n,n<(Yx c).harts.flatten.length→(JG c.fr).getD (2*n) 0=dbl (c.fr.getD n 0):=by
  intro n hn;have hb:=CY.from_ok hn;have e:c.fr.getD n 0=c.fr[n]'(by omega):=by rw[List.getD_eq_getElem?_getD,List.getElem?_eq_getElem (by omega)];rfl
  have hb':c.fr.getD n 0<(Yx c).harts.flatten.length:=hb.2;rw[Xw0 _ _ (by omega),e];exact Xr0 (by rw[e]at hb';omega)
 have:=Xiv (Xe2 h) hlen G.pos hfr c.od (List.replicate c.hs.length (-1)) [] ?_
 ·show KN _ (JG c.fr) (c.od.map YQ) (List.replicate (YI c.hs 0).length (-1)) []=_
  rw[Xcj,←this,List.map_replicate];rfl
 ·intro k hk;obtain⟨i,hi,rfl⟩:=List.getElem_of_mem hk;have e:c.od.getD i 0=c.od[i]:=by rw[List.getD_eq_getElem?_getD,List.getElem?_eq_getElem hi];rfl
  have:=G.rng i hi;rw[e]at this;omega
end Go.Proofs.YtjhfcfpkgfpoiaaGreatDoor
namespace Go.Proofs.YtjhfcfpkgfpoiaaGreatDoor
open Go Go.RowKit Dw
set_option maxRecDepth 100000
attribute [local simp] cA cB cV Xbs Kb Xaf opE KM evO cEV_int cEV_bool cEV_str cEV_nil cEV_fn Dw.look Dw.put Dw.setD Dw.Xhq shI Xho Xhp unE GM X5 Jj Gx Je YJ XA Jf Hn Kq KD JD Kd K3 K0 Xd6 KK GF VD Xbr Xec Vr Gw Xgy Y4 Xf6 Yq Xf3 Xh1 Yw Xfi K9 chunks Dw.unC Xd7 JK YL Vc Vv KW YZ KP Xbw refs YS Vd over Xd5 eqC List.getElem?_cons_zero List.getElem?_cons_succ List.all_cons List.all_nil ty3 D3 ty4 D4 ty9 D9 Xkn Xkv D22 Xkm Xku D23 Xkl Xkt D24 Xib J7 J6 J5 J4 Xk0 ty31 D31 Xkk D38 Xkj Xks D44 Xki Xkr D50 Xia J3 fo57_1 fo57_2 fo57_3 Xkz eq57 Xh9 J2 J1 Xky Xh8 J0 JZ JY Xkx Xh7 JX JW JV JU JT JS JR JQ JP JO KI KH Xkw ty71 Xkq D71 Xkh JN JM bu75 eq75 ty97 D97 HW H3 Xk5 G9 H2 Xkg ty112 HZ D112 HV Xk4 G8 Xk3 G7 H1 Xkf G0 fo231_0 fo231_1 fo231_2 fo231_3 fo231_4 fo231_5 fo231_6 fo231_7 fo231_8 fo231_9 fo231_10 H4 H0 H6 H5 init0 init1 init2 init3 init4 init5 init6 Jz Xb9 Xdm rdL rdG rdO Xbu Zg Ge G4 Dw.del KB XV Xx YP Xex J9 Xe0 Kl erefs_agg_c XJ XT XI XQ inH Gt Gu VT Kt
theorem Xsw{P:Program}{n:Nat}{fn:Func}{a b c d:Code}{Q:Xh4}{st:St}(hb:fn.body=some (.seq a (.seq (.seq b c) d)))(h:∀S:St→Prop,(∀st,Wp P n d Q st→S st)→Wp P n c (XV S Q) st):
  ∃a b c d,fn.body=some (.seq a (.seq (.seq b c) d))∧Wp P n c (XV (Wp P n d Q) Q) st:=⟨a,b,c,d,hb,h _ fun _ h=>h⟩
set_option maxHeartbeats 4000000 in
theorem Xqg(c:Cz)(hw:Yhw c):∃a b x d,Tryz.f3.body=some (.seq a (.seq (.seq b x) d))∧Wp Tryz.prog 47 x (XV (Wp Tryz.prog 47 d (YP (Y6 Tryz.prog) [.tmp 2] (.val (bV true)))) (YP (Y6 Tryz.prog) [.tmp 2] (.val (bV true)))) ⟨[(1,cA c),(2,bV false),(5,bV false)],[]⟩:=by
 cases hf:Xqn c
 ·refine Xsw rfl fun S hS=>?_;refine Wf (by simp) ?_;refine Wp.skip ?_;refine hS _ ?_;clear hS S;refine We fun S hS=>?_;refine Wa Jc fun K J=>?_;simp[sr,Xn,Xhd,Xs,hf];apply J;clear J K;refine Wt (by simp) ?_;refine Wa Jc fun K J=>?_;simp;apply J;clear J K;refine Wp.ret ?_;simp
 have hc0:=Yc0 hw hf;have bok:=eq_true hc0;have bev:=eq_true (Xvd hc0);have hd0:=Xy7 hf;have dok:=eq_true hd0;have dev:=eq_true (Xvd hd0);have hlaw:okB c=true→Xep c=true→Jd c=true:=by
  intro h1 h2;rw[Xma]at h1;rw[ZZ]at h2;exact ZK h1.1 h1.2 h2.2
 have hlawd:okB (Xh2 c)=true→Xep (Xh2 c)=true→Jd (Xh2 c)=true:=by
  intro h1 h2;rw[Xma]at h1;rw[ZZ]at h2;exact ZK h1.1 h1.2 h2.2
 have hfull:XU (Yx c)=true→XU (Yx (Xh2 c))=true→Xep (Xh2 c)=true:=by
  intro h1 h2;rw[ZZ];exact⟨h2,Xyt h1⟩
 have hplain:=Xtb hc0 (c:=c);obtain⟨d,hd⟩:∃d,Xh2 c=d:=⟨_,rfl⟩;rw[hd]at dok dev hlawd hfull hplain;obtain⟨o1,ho⟩:∃b,okB c=b:=⟨_,rfl⟩;obtain⟨f1,hf1⟩:∃b,Xep c=b:=⟨_,rfl⟩;obtain⟨p1,hp⟩:∃b,Jd c=b:=⟨_,rfl⟩;obtain⟨k1,hk⟩:∃b,XU (Yx c)=b:=⟨_,rfl⟩;obtain⟨k2,hkd⟩:∃b,XU (Yx d)=b:=⟨_,rfl⟩;obtain⟨o2,hod⟩:∃b,okB d=b:=⟨_,rfl⟩;obtain⟨f2,hfd⟩:∃b,Xep d=b:=⟨_,rfl⟩;obtain⟨p2,hpd⟩:∃b,Jd d=b:=⟨_,rfl⟩;rw[ho,hf1,hp]at hlaw;rw[hod,hfd,hpd]at hlawd;rw[hk,hkd,hfd]at hfull;rw[hk,hkd,hpd,hp]at hplain;have hb:(o1&&f1&&!p1)=false:=by cases o1<;>cases f1<;>cases p1<;>simp_all
 refine Xsw rfl fun S hS=>?_;refine Wf (by simp) ?_;refine Wp.skip ?_;refine hS _ ?_;clear hS S;refine We fun S hS=>?_;refine Wa Jc fun K J=>?_;simp[sr,Xn,Xhd,Xs,hf];apply J;clear J K;refine Wf (by simp) ?_;refine Wp.skip ?_;refine hS _ ?_;clear hS S;refine We fun S hS=>?_;refine We fun S hS=>?_;have hcases:o1=false∨(o1=true∧f1=false)∨(o1=true∧f1=true∧p1=true):=by cases o1<;>cases f1<;>cases p1<;>simp_all
 have hk3:k1=false∨(k1=true∧k2=false)∨(k1=true∧k2=true∧f2=true∧p2=p1∧(o2=false∨(o2=true∧p1=true))):=by
  cases k1
  ·exact .inl rfl
  cases k2
  ·exact .inr (.inl ⟨rfl,rfl⟩)
  have h1:=hfull rfl rfl;have h2:=hplain rfl rfl;refine .inr (.inr ⟨rfl,rfl,h1,h2,?_⟩);cases o2
  ·exact .inl rfl
  ·exact .inr ⟨rfl,by rw[←h2];exact hlawd rfl h1⟩
 clear hlaw hlawd hfull hplain hb hw hc0 hd0;rename_i S0 hS0;have hrest:S0 ⟨[(1,cA c),(2,bV false),(19,bV false)],[]⟩:=by
  refine hS0 _ ?_;clear hcases ho hf1 hS S hS0 S0
  repeat(first|(refine We fun S hS=>?_)|(refine Wp.block ?_)|(refine Wp.skip ?_)|(refine hS _ ?_;clear hS S)|(clear hS S;refine hS _ ?_;clear hS S)|(clear hS S;clear hS S;refine hS _ ?_;clear hS S))
  first|refine Wa Jc fun K J=>?_|refine Wb Jc fun K J=>?_|refine Wc Jc [] fun K J=>?_|refine Wd Jc [] fun K J=>?_
  simp[sr,Xn,Ycc,Xs,hd,hf,Yo];apply J;clear J K;rcases hk3 with rfl|⟨rfl,rfl⟩|⟨rfl,rfl,rfl,rfl,hk3⟩
  ·refine hS _ ?_;clear hS S;refine We fun S hS=>?_;refine Wa Jc fun K J=>?_;simp[sr,sj,Xn,VY,Xs,bok,Yt,hk];apply J;clear J K;refine Wt (by simp) ?_;refine Wa Jc fun K J=>?_;simp;apply J;clear J K;refine Wp.ret ?_;simp
  ·refine hS _ ?_;clear hS S;refine We fun S hS=>?_;refine Wa Jc fun K J=>?_;simp[sr,sj,Xn,VY,Xs,bok,dok,Yt,hk,hkd];apply J;clear J K;refine Wt (by simp) ?_;refine Wa Jc fun K J=>?_;simp;apply J;clear J K;refine Wp.ret ?_;simp
  ·refine hS _ ?_;clear hS S;refine We fun S hS=>?_;refine Wa Jc fun K J=>?_;simp[sr,sj,Xn,VY,Xs,bok,dok,Yt,hk,hkd];apply J;clear J K;refine Wf (by simp) ?_;refine Wp.skip ?_;refine hS _ ?_;clear hS S;refine We fun S hS=>?_;refine Wa Jc fun K J=>?_;simp[sr,Xn,Xn3,Xs,dok,dev,hfd];apply J;clear J K;refine Wf (by simp) ?_;refine Wp.skip ?_;refine hS _ ?_;clear hS S;refine We fun S hS=>?_;rcases hk3 with rfl|⟨rfl,rfl⟩
   ·cases p2
    ·((first|refine Wa Jc fun K J=>?_|refine Wb Jc fun K J=>?_|refine Wc Jc [] fun K J=>?_|refine Wd Jc [] fun K J=>?_);simp[sr,Xn,Yec,Xax,Xs,bok,dok,dev,hpd,hp,hod];apply And.intro;(·kernel_rfl);with_reducible refine J _ ?_;clear J K)
     refine hS _ ?_;clear hS S;refine Wp.ret ?_;simp
    ·((first|refine Wa Jc fun K J=>?_|refine Wb Jc fun K J=>?_|refine Wc Jc [] fun K J=>?_|refine Wd Jc [] fun K J=>?_);simp[sr,Xn,Yec,Xax,Xs,bok,dok,dev,hpd,hp,hod];apply And.intro;(·kernel_rfl);with_reducible refine J _ ?_;clear J K)
     refine hS _ ?_;clear hS S;refine Wp.ret ?_;simp
   ·((first|refine Wa Jc fun K J=>?_|refine Wb Jc fun K J=>?_|refine Wc Jc [] fun K J=>?_|refine Wd Jc [] fun K J=>?_);simp[sr,Xn,Yec,Xax,Xs,bok,dok,dev,hpd,hp,hod];apply And.intro;(·kernel_rfl);with_reducible refine J _ ?_;clear J K)
    refine hS _ ?_;clear hS S;refine Wp.ret ?_;simp
 rcases hcases with rfl|⟨rfl,rfl⟩|⟨rfl,rfl,rfl⟩
 all_goals
  repeat(first|(refine We fun S hS=>?_)|(refine Wp.block ?_)|(refine Wp.skip ?_)|(refine hS _ ?_;clear hS S)|(clear hS S;refine hS _ ?_;clear hS S)|(clear hS S;clear hS S;refine hS _ ?_;clear hS S))
  first|refine Wa Jc fun K J=>?_|refine Wb Jc fun K J=>?_|refine Wc Jc [] fun K J=>?_|refine Wd Jc [] fun K J=>?_
  simp[sr,Xn,Yec,Xn3,Xax,Xs,bok,bev,ho,hf1,hp];apply J;clear J K;refine hS _ ?_;refine Wp.gh (s':=⟨[(1,cA c),(2,bV false),(19,bV false)],[]⟩) ?_ ?_
  ·apply Gh.of<;>simp
  apply Wp.condF
  ·simp
  refine Wp.skip ?_;exact hrest
end Go.Proofs.YtjhfcfpkgfpoiaaGreatDoor
namespace Go.Proofs.YtjhfcfpkgfpoiaaGreatDoor
open Go Go.RowKit Dw
set_option maxRecDepth 100000
theorem Xu2{P:Program}{ty:TypeId→Option Ty}(C:Vk P ty){fn:Func}{v:EV}{n:Nat}{M:Nat→Prop}{w:World}{e:Exit}{a:Act}{w':World}{rs:List ResultVar}{R:Ending→World→Prop}(hR:∀w' u,Below w.heap.size w w'→X9 w' (fun g=>g<w'.heap.size∧M g) noB v u→R (.returned u) w')(hrs:fn.results.toList=rs)
  (h:Xfx n w.heap.size (fun _=>False) M w (YP ty rs (.val v)) e a w'):bodyPost P fn R e a w':=by
 subst hrs;obtain⟨st,β,hq,hd,hs,R'⟩:=h;have fin:Xex ty fn.results.toList (.val v) st→∃x,(results fn a.tmps).run P w'= .ok x w'∧R (.returned x) w':=by
  intro hfin;unfold Xex at hfin;split at hfin
  ·rename_i p l hl;obtain⟨hp,hfin⟩:=hfin;obtain⟨u,hu,hr⟩:=Xnj C R' hl hp;obtain⟨rfl,href⟩:=hfin;exact⟨u,hu,hR _ _ R'.fr.below (Xnt hr href fun g hg=>hg.1)⟩
  ·exact hfin.elim
 cases e with
 |normal=>obtain⟨x,h1,h2⟩:=fin hq;exact⟨hd,x,h1,h2⟩
 |ret=>obtain⟨x,h1,h2⟩:=fin hq;exact⟨hd,x,h1,h2⟩
 |_=>exact hq.elim
theorem Xsj{P:Program}{A B X D:Code}{Q Q1:Exit→Act→World→Prop}{a:Act}{w:World}(h01:A.wp P (Exit.then (B.wp P Q1) fun _ _ _=>False) a w)(h2:∀e a' w',Q1 e a' w'→Exit.then (X.wp P (Exit.then (D.wp P Q) Q)) (Exit.then (D.wp P Q) Q) e a' w'):(Code.seq A (.seq (.seq B X) D)).wp P Q a w:=by
 refine wp_seq (wp_mono h01 fun e a' w' h=>?_);cases e with
 |normal=>exact wp_seq (wp_seq (wp_mono h h2))
 |_=>exact h.elim
theorem Xua(c:Cz)(hw:Yhw c)(w:World)(u:Value)(hu:X9 w (fun g=>g<w.heap.size) noB (Yo c) u)
  (L:∀w',Below w.heap.size w w'→Calls Tryz.prog 4 #[] w' fun e w''=>e= .returned (.bool true)∧Below w'.heap.size w' w''):
  Calls Tryz.prog 3 #[u] w fun e w'=>e= .returned (.bool true)∧Below w.heap.size w w':=by
 obtain⟨a,b,x,d,hb,hW⟩:=Xqg c hw;have hx:∃us:Array Value,u= .agg us∧Y5 (XN w fun g=>g<w.heap.size) c.cv us.toList:=by
  cases hu with
  | @agg _ us h=>
   refine⟨us,rfl,⟨by simpa[Cz.cv]using h.1,fun i y v hy hv=>?_⟩⟩;have:=h.2 i (.c y) v (by
    match i,hy with
    |0,hy=>simp[Cz.cv]at hy;subst hy;rfl
    |1,hy=>simp[Cz.cv]at hy;subst hy;rfl
    |2,hy=>simp[Cz.cv]at hy;subst hy;rfl
    |3,hy=>simp[Cz.cv]at hy;subst hy;rfl
    |i+4,hy=>simp[Cz.cv]at hy) hv
   exact this
 obtain⟨us,rfl,hc⟩:=hx;have B0:=(Below.refl w.heap.size w).alloc (Nat.le_refl _) (.cells us 26)
 go_enter Tryz.func3,Tryz.ntmps3
 have hb':=hb;unfold Tryz.f3 at hb;simp only[Option.some.injEq,Code.seq.injEq]at hb;obtain⟨rfl,⟨rfl,rfl⟩,rfl⟩:=hb;refine Xsj (Q1:=fun e a' w'=>e= .normal∧a'.defers=[]∧a'.tmps.size=47∧a'.tmps[1]? =some (.pointer (some ⟨w.heap.size,0,none⟩))∧a'.tmps[2]? =some (.bool false)∧a'.tmps[5]? =some (.bool false)∧Below (w.alloc (.cells us 26)).heap.size (w.alloc (.cells us 26)) w') ?_ ?_
 ·go_wp2_with fail
  refine(L _ B0).mono ?_;rintro r wn ⟨rfl,hb⟩
  go_wp2
  exact(by simpa using hb)
 ·rintro e a' w' ⟨rfl,hd,hs,t1,t2,t5,hb⟩;have B:=B0.trans (hb.mono B0.size);have X:=(Box.new w us 26).below hb;have hep:X9 w' (X6 (fun _=>True) w' noB) noB (.ep 4 [c.cv] 0 0) (.pointer (some ⟨w.heap.size,0,none⟩)):=by
   have e0:((⟨w.heap.size,0,none⟩:Addr).add (0*4+0))=⟨w.heap.size,0,none⟩:=by simp[Addr.add]
   rw[←e0];have hat:∀i j y,Dw.cellAt [c.cv] i j=some y→i=0∧∃v,us[j]? =some v∧XN w (fun g=>g<w.heap.size) y v:=by
    intro i j y h;unfold Dw.cellAt at h
    match i,h with
    |0,h=>
     simp only[List.getElem?_cons_zero,Option.bind_some]at h;obtain⟨v,h1,h2⟩:=hc.get h;exact⟨rfl,v,by simpa using h1,h2⟩
    |i+1,h=>simp at h
   refine .ep (len:=1) (cap:=1) (.sl (fun _ j=>(us[j]?).getD undef) rfl (Nat.le_refl _) (fun i es h=>?_) (fun i j y h=>?_) (fun i j y h=>?_)) (by simp)
   ·match i,h with
    |0,h=>simp at h;subst h;rfl
    |i+1,h=>simp at h
   ·obtain⟨rfl,v,h1,h2⟩:=hat i j y h;refine⟨⟨⟨X.1,trivial⟩,fun b u hb=>by cases hb⟩,?_⟩;have e1:((⟨w.heap.size,0,none⟩:Addr).add (0*4+j))=⟨w.heap.size,j,none⟩:=by
     unfold Addr.add;split
     ·rename_i h;simp at h;subst h;rfl
     ·simp
    rw[e1,X.2 j,h1];rfl
   ·obtain⟨rfl,v,h1,h2⟩:=hat i j y h;rw[h1];exact h2.mono (fun g hg=>⟨⟨Nat.lt_of_lt_of_le hg B.size,trivial⟩,fun b u hb=>by cases hb⟩) fun p hp=>B.cell hp
  have R:Rel w.heap.size (fun _=>False) (fun _=>True) w noB ⟨[(1, .ep 4 [[.sl c.z1 2 (KY c.f), .sl c.z2 1 (XW c.hs), .sl c.z3 1 (Xj c.fr), .sl c.z4 1 (Xj c.od)]] 0 0),(2,bV false),(5,bV false)],[]⟩ a'.tmps w':=by
   refine⟨Fr.of_below B,B.size,fun t v h=>?_,fun b ob hb=>(by simp[Dw.look]at hb),fun b u g hb=>(by cases hb),fun b c u v g hb=>(by cases hb),fun b u hb=>(by cases hb),⟨fun t v b h hr=>?_,fun k xs x b hk=>by simp[Dw.look]at hk⟩,fun _ _=>trivial⟩
   ·simp only[Dw.look]at h;split at h
    ·rename_i e;subst e;injection h with h;subst h;exact⟨_,t1,hep⟩
    ·split at h
     ·rename_i e;subst e;injection h with h;subst h;exact⟨_,t2, .one (.sc rfl)⟩
     ·split at h
      ·rename_i e;subst e;injection h with h;subst h;exact⟨_,t5, .one (.sc rfl)⟩
      ·cases h
   ·simp only[Dw.look]at h;split at h
    ·injection h with h;subst h;cases hr
    ·split at h
     ·injection h with h;subst h;exact absurd hr (by rw[show bV false=EV.one (.c (.sc (.bool false)))from rfl,Kl];exact id)
     ·split at h
      ·injection h with h;subst h;exact absurd hr (by rw[show bV false=EV.one (.c (.sc (.bool false)))from rfl,Kl];exact id)
      ·cases h
  have hR:∀w'' v,Below w.heap.size w w''→X9 w'' (fun g=>g<w''.heap.size∧True) noB (bV true) v→Ending.returned v= .returned (.bool true)∧Below w.heap.size w w'':=by
   intro w'' v hb hv;have:v= .bool true:=by
    cases hv with|one hv=>
    have hv:XN w'' _ (.sc (.bool true)) v:=hv;cases hv;rfl
   exact⟨by rw[this],hb⟩
  refine wp_mono (hW hd hs R) ?_;rintro e a2 w2 ⟨st,β,hq,h1,h2,h3⟩;cases e with
  |normal=>exact wp_mono (hq h1 h2 h3) fun e2 a3 w3 h=>Xu2 (fn:=Tryz.f3) (w:=w) (v:=bV true) (rs:=[.tmp 2]) (R:=fun e w'=>e= .returned (.bool true)∧Below w.heap.size w w') (Xk _) hR rfl h
  |ret=>show bodyPost Tryz.prog Tryz.f3 (fun e w'=>e= .returned (.bool true)∧Below w.heap.size w w') .ret a2 w2;refine Xu2 (fn:=Tryz.f3) (w:=w) (v:=bV true) (rs:=[.tmp 2]) (R:=fun e w'=>e= .returned (.bool true)∧Below w.heap.size w w') (Xk _) hR rfl ⟨st,β,?_,h1,h2,h3⟩;exact hq
  |_=>exact False.elim hq
section
section
variable {H:Type} {enc:TypeId×Value→H} {w:World} {base:Nat} {spare:Nat→Bool} {held:Bool}
abbrev InW(w:World):Nat→Prop:=fun g=>g<w.heap.size
theorem cell_lt{a:Addr}{v:Value}(h:w.cell? a=some v):a.block<w.heap.size:=by
 unfold World.cell? at h;split at h
 ·rename_i hh;exact(Array.getElem?_eq_some_iff.1 hh).1
 ·cases h
theorem Xf7{P:Program}{α:Type}{g:α→List Cv}{Q:α→Prop}{t e:TypeId}{esz fuel:Nat}{cs:List Value}{x:DataW H×List MemPlace}(ht:P.underlying t=some (.slice e))(hc:P.cellsOf e=esz)
  (hel:∀n cs' y,DataW.trod enc P w base spare held n e cs'=some y→cs'.length=esz→∃a,Q a∧(g a).length=esz∧Y5 (XN w (InW w)) (g a) cs')
  (h:DataW.trod enc P w base spare held fuel t cs=some x):∃(z:Bool) (xs:List α) (v:Value),cs=[v]∧(z=true→xs=[])∧(∀x∈xs,Q x)∧XN w (InW w) (.sl z esz (xs.map g)) v:=by
 rcases Go.Deep.open_slice ht h with⟨rfl, -⟩|⟨a,len,cap,m,n,D,Pl,rfl, -,hl, -,hm, -,hx⟩
 ·exact⟨true,[],_,rfl,fun _=>rfl,by simp, .nil⟩
 rcases Nat.eq_zero_or_pos len with h0|h0
 ·subst h0;exact⟨false,[],_,rfl,(by intro h;cases h),by simp, .sl (fun _ _=>undef) rfl hl (fun i es h=>by simp at h) (fun i j c h=>by simp[Dw.cellAt]at h) fun i j c h=>by simp[Dw.cellAt]at h⟩
 have hlm:len≤m:=by rw[hm];split<;>omega
 have get:∀i,i<len→∃p:α×List Value,Q p.1∧(g p.1).length=esz∧Y5 (XN w (InW w)) (g p.1) p.2∧∀j,j<esz→w.cell? (a.add (i*esz+j))=p.2[j]?:=by
  intro i hi;obtain⟨cs',c1,c2⟩:=hx i (by omega);obtain⟨-,c3,c4⟩:=World.cells?_some c1;rw[hc]at c3 c4;obtain⟨y,q1,q2,q3⟩:=hel n cs' _ c2 c3;refine⟨(y,cs'),q1,q2,q3,fun j hj=>?_⟩;have:=c4 j hj
  rwa[Go.Deep.add_add]at this
 obtain⟨p0, -⟩:=get 0 h0;have h1:∀i,∃p:α×List Value,i<len→Q p.1∧(g p.1).length=esz∧Y5 (XN w (InW w)) (g p.1) p.2∧∀j,j<esz→w.cell? (a.add (i*esz+j))=p.2[j]?:=by
  intro i;by_cases hi:i<len
  ·obtain⟨p,hp⟩:=get i hi;exact⟨p,fun _=>hp⟩
  ·exact⟨p0,fun h=>absurd h hi⟩
 obtain⟨f,hf⟩:=Classical.axiomOfChoice h1;have hat:∀i es,(((List.range len).map fun i=>(f i).1).map g)[i]? =some es→i<len∧es=g (f i).1:=by
  intro i es h;rw[List.map_map,List.getElem?_map]at h;by_cases hi:i<len
  ·rw[List.getElem?_range hi]at h;simp only[Option.map_some,Option.some.injEq]at h;exact⟨hi,h.symm⟩
  ·rw[List.getElem?_eq_none (by simpa using hi)]at h;cases h
 have hcell:∀i j c,Dw.cellAt (((List.range len).map fun i=>(f i).1).map g) i j=some c→∃v,(f i).2[j]? =some v∧XN w (InW w) c v∧w.cell? (a.add (i*esz+j))=some v:=by
  intro i j c h;unfold Dw.cellAt at h;obtain⟨es,h2,h3⟩:=Option.bind_eq_some_iff.1 h;obtain⟨hi,rfl⟩:=hat i es h2;obtain⟨q1,q2,q3,q4⟩:=hf i hi;obtain⟨v,v1,v2⟩:=q3.get h3;have hj:j<esz:=by rw[←q2];exact(List.getElem?_eq_some_iff.1 h3).1
  exact⟨v,v1,v2,by rw[q4 j hj,v1]⟩
 refine⟨false,(List.range len).map fun i=>(f i).1,_,rfl,(by intro h;cases h),fun x hx=>?_, .sl (fun i j=>((f i).2[j]?).getD undef) (by simp) hl (fun i es h=>?_) (fun i j c h=>?_) (fun i j c h=>?_)⟩
 ·obtain⟨i,hi,rfl⟩:=List.mem_map.1 hx;exact(hf i (List.mem_range.1 hi)).1
 ·obtain⟨hi,rfl⟩:=hat i es h;exact(hf i hi).2.1
 ·obtain⟨v,v1,v2,v3⟩:=hcell i j c h;have hb:=cell_lt v3;rw[add_block]at hb;exact⟨hb,by rw[v3,v1];rfl⟩
 ·obtain⟨v,v1,v2,v3⟩:=hcell i j c h;rw[v1];exact v2
theorem Hp{fuel:Nat}{cs:List Value}{x:DataW H×List MemPlace}(h:DataW.trod enc Tryz.prog w base spare held fuel 24 cs=some x):∃(z:Bool) (xs:List Int) (v:Value),cs=[v]∧(z=true→xs=[])∧XN w (InW w) (.sl z 1 (Xj xs)) v:=by
 obtain⟨z,xs,v,h1,h2, -,h3⟩:=Xf7 (g:=fun x:Int=>[Cv.sc (.int .i64 x)]) (Q:=fun _=>True) Tryz.underlying24 (by kernel_rfl) (fun n cs' y hy hl=>by
  obtain⟨k,rfl, -⟩:=DataW.trod_int Tryz.underlying3 hy;exact⟨k,trivial,rfl, .cons (.sc rfl) .nil⟩) h
 exact⟨z,xs,v,h1,h2,h3⟩
theorem fld{P:Program}{n t:Nat}{cs:List Value}{xs:List (DataW H×List MemPlace)}{i:Nat}(h:DataW.trod enc P w base spare held n t cs=xs[i]?)(hi:i<xs.length):∃y,DataW.trod enc P w base spare held n t cs=some y:=⟨_,by rw[h,List.getElem?_eq_getElem hi]⟩
theorem Xq3{fuel:Nat}{cs:List Value}{x:DataW H×List MemPlace}(h:DataW.trod enc Tryz.prog w base spare held fuel 22 cs=some x):∃(z:Bool) (xs:List (Int×Int)) (v:Value),cs=[v]∧XN w (InW w) (.sl z 2 (KY xs)) v:=by
 have c38:Tryz.prog.cellsOf 38=1:=by kernel_rfl
 obtain⟨z,xs,v,h1, -, -,h3⟩:=Xf7 (g:=fun x:Int×Int=>[Cv.sc (.int .u64 x.1),Cv.sc (.int .u64 x.2)]) (Q:=fun _=>True) (esz:=2) Tryz.underlying22 (by kernel_rfl) (fun n cs' y hy hl=>by
  obtain⟨ys,m, -, -, -,hn,hf⟩:=DataW.trod_struct Tryz.underlying75 hy;have f0:=hf 0 _ rfl;have f1:=hf 1 _ rfl
  match cs',hl with
  |[u,v],_=>
   obtain⟨y0,e0⟩:=fld f0 (by rw[hn];decide);obtain⟨y1,e1⟩:=fld f1 (by rw[hn];decide);simp[c38]at e0 e1;obtain⟨a,ha, -⟩:=DataW.trod_int Tryz.underlying38 e0;obtain⟨b,hb, -⟩:=DataW.trod_int Tryz.underlying38 e1;simp at ha hb;subst ha;subst hb;exact⟨(a,b),trivial,rfl, .cons (.sc rfl) (.cons (.sc rfl) .nil)⟩) h
 exact⟨z,xs,v,h1,h3⟩
def Ez.W(x:Ez):Prop:=(x.z1=true→x.e.da=[])∧(x.z2=true→x.e.dd=[])∧(x.z3=true→x.e.dw=[])
set_option maxHeartbeats 2000000 in
theorem Ycu{n:Nat}{cs:List Value}{y:DataW H×List MemPlace}(hy:DataW.trod enc Tryz.prog w base spare held n 67 cs=some y)(hl:cs.length=14):∃x:Ez,x.W∧x.cv.length=14∧Y5 (XN w (InW w)) x.cv cs:=by
 have c38:Tryz.prog.cellsOf 38=1:=by kernel_rfl
 have c3:Tryz.prog.cellsOf 3=1:=by kernel_rfl
 have c4:Tryz.prog.cellsOf 4=1:=by kernel_rfl
 have c24:Tryz.prog.cellsOf 24=1:=by kernel_rfl
 have c65:Tryz.prog.cellsOf 65=3:=by kernel_rfl
 obtain⟨ys,m, -, -, -,hn,hf⟩:=DataW.trod_struct Tryz.underlying67 hy;have hn:ys.length=12:=hn
 match cs,hl with
 |[u0,u1,u2,u3,u4,u5,u6,u7,u8,u9,u10,u11,u12,u13],_=>
  obtain⟨y0,e0⟩:=fld (hf 0 _ rfl) (by omega);obtain⟨y1,e1⟩:=fld (hf 1 _ rfl) (by omega);obtain⟨y2,e2⟩:=fld (hf 2 _ rfl) (by omega);obtain⟨y3,e3⟩:=fld (hf 3 _ rfl) (by omega);obtain⟨y4,e4⟩:=fld (hf 4 _ rfl) (by omega);obtain⟨y5,e5⟩:=fld (hf 5 _ rfl) (by omega);obtain⟨y6,e6⟩:=fld (hf 6 _ rfl) (by omega);obtain⟨y7,e7⟩:=fld (hf 7 _ rfl) (by omega);obtain⟨y8,e8⟩:=fld (hf 8 _ rfl) (by omega);obtain⟨y9,e9⟩:=fld (hf 9 _ rfl) (by omega);obtain⟨y10,e10⟩:=fld (hf 10 _ rfl) (by omega);obtain⟨y11,e11⟩:=fld (hf 11 _ rfl) (by omega);simp[c38,c3,c4,c65]at e0 e1 e2 e3 e4 e5 e6 e7 e8 e9 e10 e11;obtain⟨a0,h0, -⟩:=DataW.trod_int Tryz.underlying3 e0;obtain⟨a1,h1, -⟩:=DataW.trod_int Tryz.underlying3 e1;obtain⟨a2,h2, -⟩:=DataW.trod_int Tryz.underlying3 e2;obtain⟨a3,h3, -⟩:=DataW.trod_int Tryz.underlying38 e3;obtain⟨a4,h4, -⟩:=DataW.trod_int Tryz.underlying38 e4;obtain⟨a5,h5, -⟩:=DataW.trod_int Tryz.underlying38 e5;obtain⟨a6,h6, -⟩:=DataW.trod_bool Tryz.underlying4 e6;obtain⟨a7,h7, -⟩:=DataW.trod_bool Tryz.underlying4 e7;obtain⟨a8,h8, -⟩:=DataW.trod_int Tryz.underlying3 e8;obtain⟨a9,h9, -⟩:=DataW.trod_int Tryz.underlying3 e9;obtain⟨a10,h10, -⟩:=DataW.trod_int Tryz.underlying3 e10;simp at h0 h1 h2 h3 h4 h5 h6 h7 h8 h9 h10;obtain⟨zs,m', -, -, -,hn',hf'⟩:=DataW.trod_struct Tryz.underlying65 e11;have hn':zs.length=3:=hn';obtain⟨x0,d0⟩:=fld (hf' 0 _ rfl) (by omega);obtain⟨x1,d1⟩:=fld (hf' 1 _ rfl) (by omega);obtain⟨x2,d2⟩:=fld (hf' 2 _ rfl) (by omega);simp[c24]at d0 d1 d2;obtain⟨z1,l1,v1,g1,w1,r1⟩:=Hp d0;obtain⟨z2,l2,v2,g2,w2,r2⟩:=Hp d1;obtain⟨z3,l3,v3,g3,w3,r3⟩:=Hp d2;simp at g1 g2 g3;subst h0 h1 h2 h3 h4 h5 h6 h7 h8 h9 h10 g1 g2 g3;exact⟨⟨⟨a0,a1,a2,a3,a4,a5,a6,a7,a8,a9,a10,l1,l2,l3⟩,z1,z2,z3⟩,⟨w1,w2,w3⟩,rfl, .cons (.sc rfl) (.cons (.sc rfl) (.cons (.sc rfl) (.cons (.sc rfl) (.cons (.sc rfl) (.cons (.sc rfl) (.cons (.sc rfl) (.cons (.sc rfl) (.cons (.sc rfl) (.cons (.sc rfl) (.cons (.sc rfl) (.cons r1 (.cons r2 (.cons r3 .nil)))))))))))))⟩
theorem Xvj{fuel:Nat}{us:Array Value}{y:DataW H×List MemPlace}(h:DataW.trod enc Tryz.prog w base spare held fuel 26 us.toList=some y):∃c:Cz,Yhw c∧X9 w (InW w) noB (Yo c) (.agg us):=by
 have c22:Tryz.prog.cellsOf 22=1:=by kernel_rfl
 have c23:Tryz.prog.cellsOf 23=1:=by kernel_rfl
 have c24:Tryz.prog.cellsOf 24=1:=by kernel_rfl
 obtain⟨ys,m, -, -,hl,hn,hf⟩:=DataW.trod_struct Tryz.underlying26 h;have hn:ys.length=4:=hn;have hl:us.toList.length=4:=hl.trans (by kernel_rfl);obtain⟨l⟩:=us
 match l,hl with
 |[u0,u1,u2,u3],_=>
  obtain⟨y0,e0⟩:=fld (hf 0 _ rfl) (by omega);obtain⟨y1,e1⟩:=fld (hf 1 _ rfl) (by omega);obtain⟨y2,e2⟩:=fld (hf 2 _ rfl) (by omega);obtain⟨y3,e3⟩:=fld (hf 3 _ rfl) (by omega);simp[c22,c23,c24]at e0 e1 e2 e3;obtain⟨z1,f,v1,g1,r1⟩:=Xq3 e0;obtain⟨z2,hs,v2,g2, -,q2,r2⟩:=Xf7 (g:=fun p:Bool×List Ez=>[Cv.sl p.1 14 (Yc p.2)]) (Q:=fun p=>∀x∈p.2,x.W) (esz:=1) Tryz.underlying23 (by kernel_rfl) (fun n cs' y hy hl=>by
   obtain⟨z,xs,v,rfl, -,hq,hr⟩:=Xf7 (g:=Ez.cv) (Q:=Ez.W) (esz:=14) Tryz.underlying50 (by kernel_rfl) (fun n cs' y hy hl=>Ycu hy hl) hy;exact⟨(z,xs),hq,rfl, .cons hr .nil⟩) e1
  obtain⟨z3,fr,v3,g3, -,r3⟩:=Hp e2;obtain⟨z4,od,v4,g4, -,r4⟩:=Hp e3;simp at g1 g2 g3 g4;subst g1 g2 g3 g4;refine⟨⟨f,hs,fr,od,z1,z2,z3,z4⟩,fun p hp x hx=>q2 p hp x hx,?_⟩;exact .agg (.cons r1 (.cons r2 (.cons r3 (.cons r4 .nil))))
end
end
end Go.Proofs.YtjhfcfpkgfpoiaaGreatDoor
