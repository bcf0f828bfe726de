/- What the program and the document compute, as plain data, and laws of it. No condition. -/
import Derived.BigQuiet
import Derived.BigRegion
import Derived.ChangeAlike
import Derived.Deep.AppendLies
import Derived.Deep.CutBlock
import Derived.Deep.CutRange
import Derived.Deep.DeepCutAuto
import Derived.Deep.QuietTactic
import Derived.Deep.RegionHeld3
import Derived.Deep.RegionLaw
import Derived.IntWalk
import Derived.KernelRfl
import Derived.Laws.CopyOwn
import Derived.Laws.MakeOwn
import Derived.Laws.OwnMore
import Derived.Lib.Hide
import Derived.Maps.AppendAt
import Derived.OwnWalk
import Derived.RegionTactic
import Derived.WalkKit
import Derived.WalkLawsBesides
import Derived.WalkSpells
import Derived.Test.YtjhfcfpkgfpoiaaGreatDoorDe
import Derived.Test.YtjhfcfpkgfpoiaaGreatDoorProg
import Derived.Test.YtjhfcfpkgfpoiaaGreatDoorWf
import Derived.Test.YtjhfcfpkgfpoiaaGreatDoorWh
import Derived.Test.YtjhfcfpkgfpoiaaGreatDoorWi
import Derived.Test.YtjhfcfpkgfpoiaaGreatDoorWj
import Derived.Test.YtjhfcfpkgfpoiaaGreatDoorWk
namespace Go.Proofs.YtjhfcfpkgfpoiaaGreatDoor
open Go Go.RowKit
set_option maxRecDepth 100000
theorem Xgu(z:Value)(n:Nat):madeCells #[z] n=Array.replicate n z:=by
 apply Array.ext
 ·simp[madeCells]
 ·intro i h1 h2;simp[madeCells,Nat.mod_one]
theorem Xsr{P:Program}{w:World}(t e:TypeId)(i:TypeInfo)(z:Value)(bytes:Nat)(ht:P.underlying t=some (.slice e))(hi:P.info? e=some i)(hz:i.zero=some z)(hs:i.size=1)(hb:i.bytes=bytes)(hc:z.cells= #[z])
  (n:Nat) (hn:n≤100000) (hbb:bytes≤1000):(Instr.makeSlice t (.int .i64 n) (.int .i64 n)).run P w= .ok (.slice (some ⟨w.heap.size,0,none⟩) n n) (w.alloc (.cells (Array.replicate n z) e)):=by
 have h1:(i.bytes:Int)*(n:Int)≤281474976710656:=by
  rw[hb];have:((bytes*n:Nat):Int)≤(1000*100000:Nat):=by exact_mod_cast Nat.mul_le_mul hbb hn
  rw[Int.natCast_mul]at this;omega
 rw[run_makeSlice w t e i z ht hi hz .i64 .i64 n n (by omega) (Int.le_refl _) (by simp only[Int.toNat_natCast,hs];omega) h1 (by omega)];simp only[Int.toNat_natCast,hs,Nat.mul_one,hc,Xgu]
open Dw in
theorem Ybt(n:Nat)(hn:n≤8)(w:World):Calls Tryz.prog 54 #[.int .u64 1, .int .u64 n] w fun e w'=>e= .returned (.tuple #[.int .u64 0, .int .u64 n])∧Below w.heap.size w w':=by
 refine(Xx2 n hn (fun _=>True) w #[.int .u64 1, .int .u64 n] (fun _ _=>trivial) (.cons (.one (.sc rfl)) (.cons (.one (.sc rfl)) .nil))).mono ?_;rintro e w' ⟨u,rfl,hb,hr⟩;refine⟨?_,hb⟩;have hr:X9 w' _ noB (.tup [iV .u64 0,iV .u64 n]) u:=hr;cases hr with
 | @tup _ us hl h=>
  obtain⟨l⟩:=us
  match l,hl with
  |[x0,x1],_=>
   have h0:=(h 0 _ x0 rfl rfl).int;have h1:=(h 1 _ x1 rfl rfl).int;rw[h0,h1]
theorem Xyg:(Tryz.prog.info? 3).map (fun i=>(i.zero,i.size,i.bytes))=some (some (.int .i64 0),1,8):=by kernel_rfl
theorem Xjn:(Tryz.prog.info? 3).map (·.size)=some 1:=by kernel_rfl
def Ydz(n:Nat)(W:World)(e:Ending)(w':World):Prop:=∃g,W.heap.size≤g∧e= .returned (.slice (some ⟨g,0,none⟩) n n)∧w'.heap[g]? =some (.cells (List.replicate n (.int .i64 (-1))).toArray 3 (0,0))∧Below W.heap.size W w'
def Xlq(n m:Nat):List Value:=List.replicate m (.int .i64 (-1))++List.replicate (n - m) (.int .i64 0)
theorem Xxc{n m:Nat}(h:m≤n):(Xlq n m).length=n:=by simp[Xlq];omega
theorem Xxd{n m j:Nat}(h:j<m):(Xlq n m)[j]? =some (.int .i64 (-1)):=by
 unfold Xlq;rw[List.getElem?_append_left (by simpa using h)];simp[h]
theorem Xo5{n m k:Nat}(_h:m+k≤n)(x y:Value):splice (List.replicate m x++List.replicate (n - m) y) m (List.replicate k x)=List.replicate (m+k) x++List.replicate (n - (m+k)) y:=by
 unfold splice;rw[List.length_replicate];rw[List.take_append_of_le_length (by simp),List.take_of_length_le (by simp),List.drop_append,List.drop_eq_nil_of_le (by simp)];rw[List.length_replicate,show m+k - m=k by omega,List.drop_replicate,←List.append_assoc,List.replicate_append_replicate,List.nil_append,show n - m - k=n - (m+k) by omega]
set_option maxHeartbeats 4000000 in
theorem Xph(a:Addr)(cx n:Nat)(w:World)(hx:w.cell? a=some (.int .i64 (-1)))(h1:1≤n)(h8:n≤8):
  Calls Tryz.prog 20 #[.slice (some a) 1 cx, .int .i64 n] w (Ydz n w):=by
 have HX:=Lib.hid hx;clear hx
 go_enter Tryz.func20,Tryz.ntmps20
 have hw1:IntKind.u64.wrap 1=1:=by decide
 have hw2:IntKind.u64.wrap (n:Int)=n:=by simp only[IntKind.wrap,IntKind.bits,IntKind.signed];simp;omega
 go_wp2_with fail
 with_reducible refine(Ybt n h8 _).mono ?_
 rintro r wn ⟨rfl,hb⟩;have B:=Lib.hid hb;replace HX:=Lib.hid (show wn.cell? a=some (.int .i64 (-1))from by rw[hb.cell (World.block_lt_of_cell? _ _ HX.out)];exact HX.out);clear hb;obtain⟨ib,hib,hzb,hsb,hbb⟩:=info_parts Xyg;have hmk:=Xsr (P:=Tryz.prog) (w:=wn) 24 3 ib (.int .i64 0) 8 Tryz.underlying24 hib hzb hsb hbb rfl n (by omega) (by omega);clear hib hzb hsb hbb;have hw3:IntKind.i64.wrap (n:Int)=n:=by simp only[IntKind.wrap,IntKind.bits,IntKind.signed];simp;omega
 have q1:¬(9223372036854775807:Int)<n:=by omega
 have hg1:(wn.alloc (.cells (Array.replicate n (.int .i64 0)) 3)).heap[wn.heap.size]? =some (.cells (Array.replicate n (.int .i64 0)) 3 (0,0)):=heap_alloc_new _ _;have B1:Below wn.heap.size wn (wn.alloc (.cells (Array.replicate n (.int .i64 0)) 3)):=(Below.refl _ _).alloc (Nat.le_refl _) _;have hxn:(wn.alloc (.cells (Array.replicate n (.int .i64 0)) 3)).cell? a=some (.int .i64 (-1)):=by rw[B1.cell (World.block_lt_of_cell? _ _ HX.out)];exact HX.out
 have hcp:=run_copy_row (P:=Tryz.prog) (wn.alloc (.cells (Array.replicate n (.int .i64 0)) 3)) 24 24 3 3 wn.heap.size 0 n n a 1 cx _ 3 [.int .i64 (-1)] Tryz.underlying24 Xjn hg1
  (by show 1=min 1 n;omega) (fun j v hj=>by
   match j with
   |0=>simp at hj;subst hj;rw[show a.add 0=a by simp[Addr.add]];exact hxn
   |j+1=>simp at hj) (by simp;omega) (fun v hv=>by simp at hv;subst hv;rfl)
 have hrow:(((Array.replicate n (Value.int .i64 0)).toList.take 0++[Value.int .i64 (-1)]++(Array.replicate n (Value.int .i64 0)).toList.drop (0+[Value.int .i64 (-1)].length)).toArray)=(Xlq n 1).toArray:=by simp[Xlq]
 rw[hrow]at hcp;have hg2:=setRow_heap (wn.alloc (.cells (Array.replicate n (.int .i64 0)) 3)) wn.heap.size (Array.replicate n (.int .i64 0)) (Xlq n 1).toArray 3 _ hg1;have B2:=below_setRow (B:=wn.heap.size) B1 (Nat.le_refl _) (g:=wn.heap.size) (Xlq n 1).toArray;have HL:=Lib.hid B.out.size;replace B:=Lib.hid (Yi4 B.out B2 (Nat.le_refl _));have HG:=Lib.hid hg2;clear hg1 B1 hxn hrow hg2 B2
 go_wp2_with fail
 generalize hgg:wn.heap.size=g at*
 generalize(World.setRow (World.alloc wn _) _ _)=w2 at*
 clear hgg hcp hmk
 go_loopw [8] (fun i w1=>∃m:Nat,1≤m∧m≤n∧i= .int .i64 m∧w1.heap[g]? =some (.cells (Xlq n m).toArray 3 (0,0))∧Below w.heap.size w w1) (fun i _=>n - (intOf i).toNat)
 case atStart=>exact⟨1,by omega,h1,rfl,HG.out,B.out⟩
 case round=>
  obtain⟨m,hm1,hmn,rfl,hg0,hb0⟩:=hrel;replace HG:=Lib.hid hg0;replace B:=Lib.hid hb0;clear hg0 hb0;by_cases hlt:m<n
  ·go_wp2_with fail
   have hne:¬n=m:=by omega
   have hcl:(Xlq n m).length=n:=Xxc hmn;obtain⟨k,hk⟩:∃k,k=min m (n - m):=⟨_,rfl⟩;have hkm:k≤m:=by omega
   have hkn:m+k≤n:=by omega
   have hk1:1≤k:=by omega
   obtain⟨cs,hcs⟩:∃cs:List Value,cs=List.replicate k (.int .i64 (-1)):=⟨_,rfl⟩;have hcsl:cs.length=k:=by rw[hcs];simp
   have hsrc:∀j v,cs[j]? =some v→wr.drew.cell? ((⟨g,0,none⟩:Addr).add j)=some v:=by
    intro j v hj;have hjk:j<k:=by have:=(List.getElem?_eq_some_iff.1 hj).1;omega
    have hv:v= .int .i64 (-1):=by rw[hcs,List.getElem?_replicate,if_pos hjk]at hj;injection hj with hj;exact hj.symm
    have e:((⟨g,0,none⟩:Addr).add j)=⟨g,j,none⟩:=by
     unfold Addr.add;split
     ·rename_i h0;subst h0;rfl
     ·simp
    rw[e,hv]
    show wr.cell? ⟨g,j,none⟩=_
    simp only[World.cell?,HG.out];simp[Xxd (n:=n) (show j<m by omega)]
   have h1c:∀v∈cs,v.oneCell'=true:=fun v hv=>by rw[hcs]at hv;have:=List.eq_of_mem_replicate hv;subst this;rfl
   have B':=Lib.hid (show Below w.heap.size w wr.drew from HU B.out);have hkl:=hk;rw[←hcsl]at hkl;have hfit:m+cs.length≤(Xlq n m).length:=by rw[hcsl,hcl];exact hkn
   go_region_law (refine step_copy_splice rfl (.tmp 41) (.tmp 44) 24 24 rfl 3 Tryz.underlying24 Xjn (some ⟨g,m,none⟩) (some ⟨g,0,none⟩) (n - m) (n - m) m n (by simp[Act.eval,Act.put]) (by simp[Act.eval,Act.put]) g m (Xlq n m) 3 HG.out cs hkl (fun _=>⟨rfl,_,rfl,hsrc⟩) hfit h1c w.heap.size w B'.out HL.out ?_;intro w4 hg4 hb4)
   have hs4:=hg4.out;rw[hcs,show splice (Xlq n m) m (List.replicate k (.int .i64 (-1)))=Xlq n (m+k)from Xo5 hkn _ _]at hs4;rw[←hk];have hwk:IntKind.i64.wrap ((m:Int)+(k:Int))=((m+k:Nat):Int):=by simp only[IntKind.wrap,IntKind.bits,IntKind.signed];simp;omega
   clear hg4 hsrc h1c hkl hfit hcs hcsl B' HG B hk;change Exit.inBlock 1 _ Exit.normal (Act.put (Act.put _ (some 46) _) (some 8) _) w4;rw[hwk];simp only[Act.put,List.setIfInBounds_toArray,List.set_cons_succ,List.set_cons_zero]
   go_wp2
   refine⟨⟨m+k,by omega,hkn,by first|rfl|go_num,hs4,hb4⟩,?_⟩;simp[intOf];omega
  ·obtain rfl:m=n:=by omega
   go_wp2_with fail
   go_ret
   exact⟨g,HL.out,rfl,by rw[HG.out];simp[Xlq],B.out⟩
end Go.Proofs.YtjhfcfpkgfpoiaaGreatDoor
namespace Go.Proofs.YtjhfcfpkgfpoiaaGreatDoor
open Go Go.RowKit Dw
set_option maxRecDepth 100000
theorem Xlw(z:Bool)(n:Nat)(h1:1≤n)(h8:n≤8):Xq Tryz.prog 20 [sV z 1 [[.sc (.int .i64 (-1))]],iV .i64 n] (.row false 3 1 (Xj (List.replicate n (-1)))):=by
 intro M w us hM hu;obtain⟨l⟩:=us
 match l,hu with
 |[u0,u1],hu=>
  have e1:=hu.2 1 _ u1 rfl rfl;have e1:=e1.int;have e0:=hu.2 0 _ u0 rfl rfl;cases e0 with|one e0=>
  obtain⟨a,len,cap,rfl,e0',hlen⟩:=Xnd (show XN w _ (.sl z 1 [[.sc (.int .i64 (-1))]]) u0 from e0) (i:=0) (by simp);simp at hlen;subst hlen;cases e0' with
  |sl f hl hcap hz hc hr=>
   have c0:=(hc 0 0 (.sc (.int .i64 (-1))) rfl).2;have r0:=hr 0 0 (.sc (.int .i64 (-1))) rfl;have hf:f 0 0= .int .i64 (-1):=by generalize f 0 0=y at r0;cases r0;rfl
   rw[hf]at c0;have hcell:w.cell? a=some (.int .i64 (-1)):=by rw[←c0];simp[Addr.add]
   rw[e1];refine(Xph a cap n w hcell h1 h8).mono ?_;rintro e w' ⟨g,hg,rfl,hrow,hb⟩;refine⟨_,rfl,hb,⟨List.replicate n (.int .i64 (-1)),⟨by simp[Xj], .inr ⟨g,n,_,by simp[Xj],hg,hrow,by simp[Xj],by unfold maxLen;omega,by simp,by simp[Xj]⟩⟩,?_⟩,by simp⟩;refine⟨by simp[Xj],fun i es he=>?_,fun i j c hc'=>?_⟩
   ·rw[Xj,List.map_replicate,List.getElem?_replicate]at he;split at he
    ·injection he with he;subst he;rfl
    ·cases he
   ·unfold Dw.cellAt at hc';rw[Xj,List.map_replicate,List.getElem?_replicate]at hc';split at hc'
    ·rename_i hi
     match j with
     |0=>
      simp at hc';subst hc';refine⟨.int .i64 (-1),by rw[List.getElem?_replicate,if_pos (by omega)], .sc rfl⟩
     |j+1=>simp at hc'
    ·cases hc'
def Xgt(l:List (Int×Int)):List (Cv×Cv):=l.map fun p=>(.sc (.int .u64 p.1), .sc (.int .i64 p.2))
def Kj(a:Int):List (Int×Int)→Nat→Option (Nat×Int)
 |[],_=>none
 |p::r,i=>if a=p.1 then some (i,p.2)else Kj a r (i+1)
theorem Vz(a:Int)(l:List (Int×Int))(i:Nat):Xbz (.int .u64) (.sc (.int .u64 a)) (Xgt l) i=some ((Kj a l i).map fun q=>(q.1, .sc (.int .i64 q.2))):=by
 induction l generalizing i with
 |nil=>rfl
 |cons p r ih=>
  simp only[Xgt,List.map_cons,Xbz,Xsp,if_true,Kj];by_cases h:a=p.1
  ·simp[h]
  ·simp only[decide_eq_false h,if_neg h];exact ih (i+1)
def HY(a v:Int)(l:List (Int×Int)):List (Int×Int):=match Kj a l 0 with
 |some (i,_)=>l.set i (a,v)
 |none=>l++[(a,v)]
def Hl(a:Int)(l:List (Int×Int)):Int:=((Kj a l 0).map (·.2)).getD (-1)
def KN(es:List Ev)(fr:List Int):List Int→List Int→List (Int×Int)→Bool
 |[],_,_=>true
 |n::r,at_,by_=>
  if(es.getD n.toNat default).pos<at_.getD (es.getD n.toNat default).hart.toNat 0 then false else
  if(es.getD n.toNat default).reads=true∧Hl (es.getD n.toNat default).addr by_≠fr.getD n.toNat 0 then false else
  KN es fr r (at_.set (es.getD n.toNat default).hart.toNat (es.getD n.toNat default).pos) (if(es.getD n.toNat default).writes=true then HY (es.getD n.toNat default).addr n by_ else by_)
def Jd(c:Cz):Bool:=Y3 c&&KN ((Xr c.hs).map Ez.e) c.fr c.od (List.replicate c.hs.length (-1)) []
theorem Xl2{left:List Bool}{n:Int}{l:List Int}(h:Xgm left n l=true):∀k∈l,0≤k∧k<left.length:=by
 induction l generalizing left n with
 |nil=>intro k hk;cases hk
 |cons a r ih=>
  unfold Xgm at h;split at h
  ·cases h
  ·rename_i hn;rw[not_or,not_or]at hn;intro k hk;rcases List.mem_cons.1 hk with rfl|hk
   ·omega
   ·have:=ih h k hk;simpa using this
theorem Xpb{h:Int}{l:List Ez}{i:Nat}{last:Int}{r:List Ez}(hr:Gs h l i last r=true):∀x∈r,x.e.hart=h:=by
 induction r generalizing i last with
 |nil=>intro x hx;cases hx
 |cons y r ih=>
  unfold Gs at hr;rw[Bool.and_eq_true,Bool.and_eq_true,Bool.and_eq_true]at hr;obtain⟨⟨-,h1, -⟩,h2⟩:=hr;intro x hx;rcases List.mem_cons.1 hx with rfl|hx
  ·exact eq_of_beq h1
  ·split at h2
   ·exact ih h2 x hx
   ·split at h2
    ·rw[Bool.and_eq_true]at h2;exact ih h2.2 x hx
    ·exact ih h2 x hx
theorem Xo9{l:List (Bool×List Ez)}{i:Nat}(h:JI l i=true):∀j (hj:j<l.length),Gs ((i+j:Nat):Int) l[j].2 0 (-1) l[j].2=true:=by
 induction l generalizing i with
 |nil=>intro j hj;simp at hj
 |cons p r ih=>
  unfold JI at h;rw[Bool.and_eq_true]at h;intro j hj;cases j with
  |zero=>exact h.1
  |succ j=>
   have:=ih h.2 j (by simpa using hj);simp only[List.getElem_cons_succ];rw[show i+(j+1)=i+1+j by omega];exact this
theorem Xqi{c:Cz}(h:Y3 c=true){x:Ez}(hx:x∈Xr c.hs):0≤x.e.hart∧x.e.hart<c.hs.length:=by
 obtain⟨p,hp,hx⟩:=Xdi hx;obtain⟨j,hj,rfl⟩:=List.getElem_of_mem hp;unfold Y3 at h;simp only[Bool.and_eq_true]at h;have:=Xpb (Xo9 h.2.2.1 j hj) x hx;omega
end Go.Proofs.YtjhfcfpkgfpoiaaGreatDoor
namespace Go.Proofs.YtjhfcfpkgfpoiaaGreatDoor
open Go Go.RowKit Dw
set_option maxRecDepth 100000
attribute [local simp] Xbs Kb Xaf opE KM evO cEV_int cEV_bool cEV_str cEV_nil cEV_fn Dw.look Dw.put Dw.setD Dw.Xhq shI Xho Xhp unE GM X5 Jj Gx Je YJ XA Jf Hn Kq KD JD Kd K3 K0 Xd6 KK GF VD Xbr Xec Vr Gw Xgy Y4 Xf6 Yq Xf3 Xh1 Yw Xfi K9 chunks Dw.unC Xd7 JK YL Vc Vv KW YZ KP Xbw refs YS Vd over Xd5 eqC List.getElem?_cons_zero List.getElem?_cons_succ List.all_cons List.all_nil ty3 D3 ty4 D4 ty9 D9 Xkn Xkv D22 Xkm Xku D23 Xkl Xkt D24 Xib J7 J6 J5 J4 Xk0 ty31 D31 Xkk D38 Xkj Xks D44 Xki Xkr D50 Xia J3 fo57_1 fo57_2 fo57_3 Xkz eq57 Xh9 J2 J1 Xky Xh8 J0 JZ JY Xkx Xh7 JX JW JV JU JT JS JR JQ JP JO KI KH Xkw ty71 Xkq D71 Xkh JN JM bu75 eq75 ty97 D97 HW H3 Xk5 G9 H2 Xkg ty112 HZ D112 HV Xk4 G8 Xk3 G7 H1 Xkf G0 fo231_0 fo231_1 fo231_2 fo231_3 fo231_4 fo231_5 fo231_6 fo231_7 fo231_8 fo231_9 fo231_10 H4 H0 H6 H5 init0 init1 init2 init3 init4 init5 init6 Jz Xb9 Xdm rdL rdG rdO Xbu Zg Ge G4 Dw.del KB XV Xx YP Xex J9 Xe0 Kl erefs_agg_c XJ XT XI XQ inH Gt Gu VT Kt cA cB cV
theorem Xtf(z:Bool)(xs:List (Int×Int))(hn:xs.length≤1000000):Xq Tryz.prog 23 [sV z 2 (KY xs)] (.row false 75 2 (KY xs)):=by
 have h1:xs.length≤maxLen:=by unfold maxLen;omega
 have h2:xs.length*16≤140737488355328:=by omega
 refine Xi (rs:=[.tmp 2]) (Xk _) Tryz.func23 rfl Tryz.ntmps23 rfl (by simp) ?_;refine Wa Xb fun K J=>?_;simp;apply J;clear J K;refine Wa Xb fun K J=>?_;simp[XZ,h1,h2];apply J;clear J K;refine Wp.ret ?_;simp
def YQ(x:Int):Int:=IntKind.i64.wrap (2*x)
theorem Xoy{xs:List Int}{i:Nat}(h:i<xs.length)(f:Int→Int):Xj ((xs.take (i+1)).map f)=Xj ((xs.take i).map f)++[[.sc (.int .i64 (f xs[i]))]]:=by
 rw[List.take_succ_eq_append_getElem h,List.map_append];unfold Xj;rw[List.map_append];rfl
theorem Xox(z:Bool)(xs:List Int)(hn:xs.length≤1000):Xq Tryz.prog 25 [sV z 1 (Xj xs)] (.row (decide (xs.length=0)) 3 1 (Xj (xs.map YQ))):=by
 refine Xi (rs:=[.tmp 2]) (Xk _) Tryz.func25 rfl Tryz.ntmps25 rfl (by simp) ?_;refine Wa Xb fun K J=>?_;simp;apply J;clear J K;refine Wa Xb fun K J=>?_;simp;apply J;clear J K;refine We fun S hS=>?_;refine Wa Xb fun K J=>?_;simp;apply J;clear J K;refine Wp.block ?_;refine Wp.loop (fun k s=>∃i:Nat,i+k=xs.length∧s=⟨[(0,sV z 1 (Xj xs)),(2,sV true 0 []),(3, .one (.own 3)),(4,iV .i64 i)],[(3, .row (decide (i=0)) 3 1 (Xj ((xs.take i).map YQ)))]⟩)
  xs.length (s0:=⟨[(0,sV z 1 (Xj xs)),(2,sV true 0 []),(3, .one (.own 3)),(4,iV .i64 (0:Nat))],[(3, .row true 3 1 [])]⟩) ?_ ⟨0,by simp,by simp[Xj]⟩ fun k s ⟨i,hik,hs⟩=>?_
 ·refine .trans (.adopt (t:=3) (b:=3) rfl rfl 3 1) ?_;apply Gh.of<;>simp
 subst hs;refine We fun S hS=>?_;refine Wa Xb fun K J=>?_;simp[Xf];apply J;clear J K;refine Wp.cond rfl (fun hc=>?_) (fun hc=>?_)
 ·have hi:i<xs.length:=by simpa using hc
  have hw:IntKind.i64.wrap ((i:Int)+1)=(i+1:Nat):=by rw[wrap_small]<;>omega
  have hl:(min i xs.length)+1≤maxLen:=by unfold maxLen;omega
  have hl2:(min i xs.length+1)*8≤140737488355328:=by omega
  refine Wp.skip ?_;refine hS _ ?_;clear hS S;refine We fun S hS=>?_;refine Wp.block ?_;refine Wb Xb fun K J=>?_;simp[hi,Xf,Xg,hl,hl2];apply J;clear J K;refine hS _ ?_;clear hS S;refine Wb Xb fun K J=>?_;simp[hw];apply J;clear J K;refine⟨⟨[(0,sV z 1 (Xj xs)),(2,sV true 0 []),(3, .one (.own 3)),(4,iV .i64 (i+1:Nat))],[(3, .row (decide (i+1=0)) 3 1 (Xj ((xs.take (i+1)).map YQ)))]⟩,k - 1,?_,by omega,i+1,by omega,rfl⟩;rw[Xoy hi];apply Gh.of<;>simp;rfl
 ·have hi:¬i<xs.length:=by simpa using hc
  refine Wp.exit ?_;simp only[XV,Xx,if_true];clear hS S;refine hS _ ?_;clear hS S;refine Wa Xb fun K J=>?_;simp;apply J;clear J K;refine Wp.ret ?_;simp;have:xs.length≤i:=by omega
  refine⟨by rw[←List.length_eq_zero_iff];omega,by rw[List.take_of_length_le (by simpa using this)]⟩
def Ycn(a b c:List Int)(most:Int):Bool:=decide ((a.length:Int)≤most)&&(decide ((b.length:Int)≤most)&&decide ((c.length:Int)≤most))
theorem Xem(z1 z2 z3:Bool)(a b c:List Int)(most:Int):
  Xq Tryz.prog 37 [.agg [.c (.sl z1 1 (Xj a)), .c (.sl z2 1 (Xj b)), .c (.sl z3 1 (Xj c))],iV .i64 most] (.val (bV (Ycn a b c most))):=by
 unfold Ycn;refine Xi (rs:=[.tmp 4]) (Xk _) Tryz.func37 rfl Tryz.ntmps37 rfl (by simp) ?_;by_cases h1:(a.length:Int)≤most
 ·by_cases h2:(b.length:Int)≤most
  ·refine Wa Xb fun K J=>?_;simp;apply J;clear J K;refine Wa Xb fun K J=>?_;simp[Xf,h1,h2];apply J;clear J K;refine Wp.ret ?_;simp[h1,h2]
  ·refine Wa Xb fun K J=>?_;simp;apply J;clear J K;refine Wa Xb fun K J=>?_;simp[Xf,h1,h2];apply J;clear J K;refine Wp.ret ?_;simp[h1,h2]
 ·refine Wa Xb fun K J=>?_;simp;apply J;clear J K;refine Wa Xb fun K J=>?_;simp[Xf,h1];apply J;clear J K;refine Wp.ret ?_;simp[h1]
def gLD:List EV→Option (Prop×YX)
 |[.agg [.c (.sl _z1 1 l1), .c (.sl _z2 1 l2), .c (.sl _z3 1 l3)], .one (.c (.sc (.int .i64 most)))]=>(match unI l1,unI l2,unI l3 with|some a,some b,some c=>some (True, .val (bV (Ycn a b c most)))|_,_,_=>none)
 |_=>none
def sl1:Dw.Spec:=Xn 37 gLD Xao
theorem V8:XF Tryz.prog sl1:=by
 refine Xp ⟨⟨_,Tryz.func37,rfl,rfl⟩⟩ (fun vs p r h hp=>?_) Xb;unfold gLD at h;split at h
 ·split at h
  ·rename_i a b c ha hb hc;simp only[Option.some.injEq,Prod.mk.injEq]at h;obtain⟨rfl,rfl⟩:=h;rw[YK ha,YK hb,YK hc];exact Xem _ _ _ _ _ _ _
  ·cases h
 ·cases h
def Xb0(l:List Ez)(most:Int):Bool:=decide ((l.length:Int)≤most)&&l.all fun x=>Ycn x.e.da x.e.dd x.e.dw 60
theorem Xbx(z:Bool)(l:List Ez)(most:Int)(hn:l.length≤1000000∨most≤1000000):
  Xq Tryz.prog 13 [sV z 14 (Yc l),iV .i64 most] (.val (bV (Xb0 l most))):=by
 generalize hR:Xb0 l most=R;refine Xi (rs:=[.tmp 4]) (Xk _) Tryz.func13 rfl Tryz.ntmps13 rfl (by simp) ?_;by_cases h1:(l.length:Int)≤most
 case neg=>
  have h1':most<(l.length:Int):=by omega
  refine Wa V8 fun K J=>?_;simp;apply J;clear J K;refine We fun S hS=>?_;refine Wa V8 fun K J=>?_;simp[Xe,h1'];apply J;clear J K;refine Wt (by simp) ?_;refine Wa V8 fun K J=>?_;simp;apply J;clear J K;refine Wp.ret ?_;simp;rw[←hR];simp[Xb0,h1]
 have h1':¬most<(l.length:Int):=by omega
 have hn':l.length≤1000000:=by omega
 refine Wa V8 fun K J=>?_;simp;apply J;clear J K;refine We fun S hS=>?_;refine Wa V8 fun K J=>?_;simp[Xe,h1'];apply J;clear J K;refine Wf (by simp) ?_;refine Wp.skip ?_;refine hS _ ?_;clear hS S;refine We fun S hS=>?_;refine Wa V8 fun K J=>?_;simp;apply J;clear J K;refine Wp.block ?_;refine Wp.loop (fun k s=>∃i:Nat,i+k=l.length∧s=⟨[(0,sV z 14 (Yc l)),(1,iV .i64 most),(4,bV false),(5,iV .i64 i)],[]⟩∧(l.drop i).all (fun x=>Ycn x.e.da x.e.dd x.e.dw 60)=R)
  l.length (s0:=⟨[(0,sV z 14 (Yc l)),(1,iV .i64 most),(4,bV false),(5,iV .i64 (0:Nat))],[]⟩) ?_ ⟨0,by simp,rfl,by rw[←hR];simp[Xb0,h1]⟩ fun k s ⟨i,hik,hs,hr⟩=>?_
 ·apply Gh.of<;>simp
 subst hs;refine We fun S hS=>?_;refine Wa V8 fun K J=>?_;simp[Xe];apply J;clear J K;refine Wp.cond rfl (fun hc=>?_) (fun hc=>?_)
 ·have hi:i<l.length:=by simpa using hc
  have hw:IntKind.i64.wrap ((i:Int)+1)=(i+1:Nat):=by rw[wrap_small]<;>omega
  rw[List.drop_eq_getElem_cons hi,List.all_cons]at hr;cases hf:Ycn l[i].e.da l[i].e.dd l[i].e.dw 60
  ·refine Wp.skip ?_;refine hS _ ?_;clear hS S;refine We fun S hS=>?_;refine Wp.block ?_;refine Wa V8 fun K J=>?_;simp[hi,Xe,Xd,Ez.cv,sl1,Xn,gLD,Xa,hf];apply J;clear J K;refine Wt (by simp) ?_;refine Wa V8 fun K J=>?_;simp;apply J;clear J K;refine Wp.ret ?_;simp;rw[←hr,hf];rfl
  ·refine Wp.skip ?_;refine hS _ ?_;clear hS S;refine We fun S hS=>?_;refine Wp.block ?_;refine Wa V8 fun K J=>?_;simp[hi,Xe,Xd,Ez.cv,sl1,Xn,gLD,Xa,hf];apply J;clear J K;refine Wf (by simp) ?_;refine Wp.skip ?_;refine hS _ ?_;clear hS S;refine Wb V8 fun K J=>?_;simp[hw];apply J;clear J K;refine⟨⟨[(0,sV z 14 (Yc l)),(1,iV .i64 most),(4,bV false),(5,iV .i64 (i+1:Nat))],[]⟩,k - 1,?_,by omega,i+1,by omega,rfl,?_⟩
   ·apply Gh.of<;>simp
   rw[←hr,hf];rfl
 ·have hi:¬i<l.length:=by simpa using hc
  refine Wp.exit ?_;simp only[XV,Xx,if_true];clear hS S;refine hS _ ?_;clear hS S;refine Wa V8 fun K J=>?_;simp;apply J;clear J K;refine Wp.ret ?_;simp;rw[←hr,List.drop_eq_nil_of_le (by omega)];rfl
def gLE:List EV→Option (Prop×YX)
 |[.one (.c (.sl _ 14 els)), .one (.c (.sc (.int .i64 most)))]=>(match Xow els with|some l=>some (most≤1000000, .val (bV (Xb0 l most)))|none=>none)
 |_=>none
def sl2:Dw.Spec:=Xn 13 gLE sl1
theorem Jm:XF Tryz.prog sl2:=by
 refine Xp ⟨⟨_,Tryz.func13,rfl,rfl⟩⟩ (fun vs p r h hp=>?_) V8;unfold gLE at h;split at h
 ·split at h
  ·rename_i l hl;simp only[Option.some.injEq,Prod.mk.injEq]at h;obtain⟨rfl,rfl⟩:=h;rw[G6 hl];exact Xbx _ _ _ (.inr hp)
  ·cases h
 ·cases h
def Xie:List (Bool×List Ez)→Nat
 |[]=>0
 |p::r=>p.2.length+Xie r
theorem Xr7{l:List (Bool×List Ez)}{i:Nat}(h:i<l.length):Xie (l.take (i+1))=Xie (l.take i)+l[i].2.length:=by
 rw[List.take_succ_eq_append_getElem h];generalize l.take i=m
 induction m with
 |nil=>simp[Xie]
 |cons a r ih=>simp[Xie]at*;omega
def Xqn(c:Cz):Bool:=((c.hs.take 10).all fun p=>Xb0 p.2 30)&&(decide (c.hs.length≤9)&&(decide (Xie c.hs≤30)&&(decide (c.f.length≤30)&&(decide (c.fr.length≤60)&&decide (c.od.length≤60)))))
set_option maxHeartbeats 2000000 in
theorem Xen(c:Cz):Xq Tryz.prog 5 [Yo c,iV .i64 30] (.val (bV (Xqn c))):=by
 generalize hR:Xqn c=R;unfold Yo;refine Xi (rs:=[.tmp 4]) (Xk _) Tryz.func5 rfl Tryz.ntmps5 rfl (by simp) ?_;refine Wa Jm fun K J=>?_;simp;apply J;clear J K;refine Wa Jm fun K J=>?_;simp;apply J;clear J K;refine We fun S hS=>?_;refine Wa Jm fun K J=>?_;simp;apply J;clear J K;refine Wp.block ?_;refine Wp.loop (fun k s=>∃(i:Nat),i+k=10∧i≤c.hs.length∧(∀p∈c.hs.take i,Xb0 p.2 30=true)∧Xie (c.hs.take i)≤30*i∧s=⟨[(1,iV .i64 30),(2, .one (.ptr 2 0)),(4,bV false),(5,iV .i64 (Xie (c.hs.take i))),(6,iV .i64 i)],[(2, .box (cB c))]⟩)
  10 (s0:=⟨[(1,iV .i64 30),(2, .one (.ptr 2 0)),(4,bV false),(5,iV .i64 (0:Nat)),(6,iV .i64 (0:Nat))],[(2, .box (cB c))]⟩) ?_ ⟨0,by simp,by simp,by simp,by simp[Xie],rfl⟩ fun k s ⟨i,hik,hil,hall,hsum,hs⟩=>?_
 ·apply Gh.of<;>simp
 subst hs;by_cases hi:i<c.hs.length
 ·by_cases h10:(i:Int)<10
  ·refine We fun S hS=>?_;refine Wa Jm fun K J=>?_;simp[hi,h10,Xo];apply J;clear J K;refine Wt (by simp) ?_;refine Wp.skip ?_;refine hS _ ?_;clear hS S;refine We fun S hS=>?_;refine Wp.block ?_;refine We fun S hS=>?_;have hi10:i<10:=by omega
   have hw:IntKind.i64.wrap ((i:Int)+1)=(i+1:Nat):=by rw[wrap_small]<;>omega
   cases hf:Xb0 c.hs[i].2 30
   ·refine Wb Jm fun K J=>?_;simp[hi,Xo,Xz,Xe];apply J;clear J K;refine hS _ ?_;clear hS S;refine Wa Jm fun K J=>?_;simp[hi,Xo,Xz,sl2,Xn,gLE,Ya,hf];apply J;clear J K;refine Wt (by simp) ?_;refine Wa Jm fun K J=>?_;simp;apply J;clear J K;refine Wp.ret ?_;simp;have:c.hs[i]∈c.hs.take 10:=by rw[List.mem_take_iff_getElem];exact⟨i,by omega,rfl⟩
    rw[←hR,Xqn];have:((c.hs.take 10).all fun p=>Xb0 p.2 30)=false:=by rw[List.all_eq_false];exact⟨_,this,by simp[hf]⟩
    rw[this];rfl
   ·have hl30:c.hs[i].2.length≤30:=by
     have:=hf;unfold Xb0 at this;rw[Bool.and_eq_true,decide_eq_true_eq]at this;omega
    have hst:=Xr7 hi;have hws:IntKind.i64.wrap ((Xie (c.hs.take i):Int)+c.hs[i].2.length)=(Xie (c.hs.take (i+1)):Nat):=by rw[wrap_small]<;>omega
    refine Wb Jm fun K J=>?_;simp[hi,Xo,Xz,Xe,hws];apply J;clear J K;refine hS _ ?_;clear hS S;refine Wa Jm fun K J=>?_;simp[hi,Xo,Xz,sl2,Xn,gLE,Ya,hf];apply J;clear J K;refine Wf (by simp) ?_;refine Wp.skip ?_;refine hS _ ?_;clear hS S;refine Wb Jm fun K J=>?_;simp[hw];apply J;clear J K;refine⟨⟨[(1,iV .i64 30),(2, .one (.ptr 2 0)),(4,bV false),(5,iV .i64 (Xie (c.hs.take (i+1)))),(6,iV .i64 (i+1:Nat))],[(2, .box (cB c))]⟩,k - 1,?_,by omega,i+1,by omega,by omega,?_,by omega,rfl⟩
    ·apply Gh.of<;>simp
    ·intro p hp;rw[List.take_succ_eq_append_getElem hi,List.mem_append,List.mem_singleton]at hp;rcases hp with hp|rfl
     ·exact hall p hp
     ·exact hf
  ·refine We fun S hS=>?_;refine Wa Jm fun K J=>?_;simp[hi,h10,Xo];apply J;clear J K;refine Wf (by simp) ?_;refine Wp.exit ?_;simp only[XV,Xx,if_true];have hlen:¬(c.hs.length:Int)≤9:=by omega
   clear hS S;refine hS _ ?_;clear hS S;refine Wa Jm fun K J=>?_;simp[hlen,Xo];apply J;clear J K;refine Wp.ret ?_;simp;rw[←hR,Xqn];have:decide (c.hs.length≤9)=false:=by rw[decide_eq_false_iff_not];omega
   rw[this];simp
 ·obtain rfl:i=c.hs.length:=by omega
  have hlt:¬((c.hs.length:Int)<c.hs.length):=by omega
  refine We fun S hS=>?_;refine Wa Jm fun K J=>?_;simp[hlt,Xo];apply J;clear J K;refine Wf (by simp) ?_;refine Wp.exit ?_;simp only[XV,Xx,if_true];rw[List.take_length]at hall hsum;have hall':((c.hs.take 10).all fun p=>Xb0 p.2 30)=true:=by rw[List.all_eq_true];exact fun p hp=>hall p (List.mem_of_mem_take hp)
  rw[Xqn,hall',Bool.true_and]at hR;by_cases g1:c.hs.length≤9
  case neg=>
   have g1':¬(c.hs.length:Int)≤9:=by omega
   clear hS S;refine hS _ ?_;clear hS S;refine Wa Jm fun K J=>?_;simp[g1',Xo];apply J;clear J K;refine Wp.ret ?_;simp;rw[←hR];simp[g1]
  have g1':(c.hs.length:Int)≤9:=by omega
  by_cases g2:Xie c.hs≤30
  case neg=>
   have g2':¬(Xie c.hs:Int)≤30:=by omega
   clear hS S;refine hS _ ?_;clear hS S;refine Wa Jm fun K J=>?_;simp[g1',g2',Xo];apply J;clear J K;refine Wp.ret ?_;simp;rw[←hR];simp[g2]
  have g2':(Xie c.hs:Int)≤30:=by omega
  by_cases g3:c.f.length≤30
  case neg=>
   have g3':¬(c.f.length:Int)≤30:=by omega
   clear hS S;refine hS _ ?_;clear hS S;refine Wa Jm fun K J=>?_;simp[g1',g2',g3',Xo,XZ];apply J;clear J K;refine Wp.ret ?_;simp;rw[←hR];simp[g3]
  have g3':(c.f.length:Int)≤30:=by omega
  by_cases g4:c.fr.length≤60
  case neg=>
   have g4':¬(c.fr.length:Int)≤60:=by omega
   clear hS S;refine hS _ ?_;clear hS S;refine Wa Jm fun K J=>?_;simp[g1',g2',g3',g4',Xo,XZ,Xf,IntKind.wrap,IntKind.bits,IntKind.signed];apply J;clear J K;refine Wp.ret ?_;simp;rw[←hR];simp[g4]
  have g4':(c.fr.length:Int)≤60:=by omega
  clear hS S;refine hS _ ?_;clear hS S;refine Wa Jm fun K J=>?_;simp[g1',g2',g3',g4',Xo,XZ,Xf,IntKind.wrap,IntKind.bits,IntKind.signed];apply J;clear J K;refine Wp.ret ?_;simp;rw[←hR];simp[g1,g2,g3,g4];omega
end Go.Proofs.YtjhfcfpkgfpoiaaGreatDoor
namespace Go.Proofs.YtjhfcfpkgfpoiaaGreatDoor
open Go Go.RowKit Dw
set_option maxRecDepth 100000
def Xn1:List EV→Option (Prop×YX)
 |[.one (.c (.sl _ 1 els))]=>(match unI els with|some xs=>some (xs.length≤1000, .val (sV (decide (xs.length=0)) 1 (Xj (xs.map YQ))))|none=>none)
 |_=>none
def Yce:List EV→Option (Prop×YX)
 |[v]=>(match X8 v with|some x=>some (x.e.da.length≤1000000∧x.e.dd.length≤1000000∧x.e.dw.length≤1000000, .val (evV {x with z1:=false,z2:=false,z3:=false}))|none=>none)
 |_=>none
def Ycg:List EV→Option (Prop×YX)
 |[.one (.c (.sl _ 2 els))]=>(match unC els with|some xs=>some (xs.length≤1000000, .val (sV false 2 (KY xs)))|none=>none)
 |_=>none
def ss:Dw.Spec:=Xn 25 Xn1 (Xn 24 Yce (Xn 23 Ycg Xao))
theorem Ys:XF Tryz.prog ss:=by
 refine Xp ⟨⟨_,Tryz.func25,rfl,rfl⟩⟩ (fun vs p r h hp=>?_) (Xp ⟨⟨_,Tryz.func24,rfl,rfl⟩⟩ (fun vs p r h hp=>?_) (Xp ⟨⟨_,Tryz.func23,rfl,rfl⟩⟩ (fun vs p r h hp=>?_) Xb))
 ·unfold Xn1 at h;split at h
  ·split at h
   ·rename_i xs hx;simp only[Option.some.injEq,Prod.mk.injEq]at h;obtain⟨rfl,rfl⟩:=h;rw[YK hx];exact KZ (Xox _ _ hp)
   ·cases h
  ·cases h
 ·unfold Yce at h;split at h
  ·split at h
   ·rename_i x hx;simp only[Option.some.injEq,Prod.mk.injEq]at h;obtain⟨rfl,rfl⟩:=h;exact Yy (.cons (Kx hx) .nil) (Xgk x hp.1 hp.2.1 hp.2.2)
   ·cases h
  ·cases h
 ·unfold Ycg at h;split at h
  ·split at h
   ·rename_i xs hx;simp only[Option.some.injEq,Prod.mk.injEq]at h;obtain⟨rfl,rfl⟩:=h;rw[Xbb hx];exact KZ (Xtf _ _ hp)
   ·cases h
  ·cases h
def Xw1(x:Ez)(k:Nat):Ez:=⟨{x.e with pos:=(2*k:Nat),pair:=YQ x.e.pair,da:=x.e.da.map YQ,dd:=x.e.dd.map YQ,dw:=x.e.dw.map YQ},decide (x.e.da.length=0),decide (x.e.dd.length=0),decide (x.e.dw.length=0)⟩
def Xn7(h k:Nat):Ez:=⟨⟨h,(2*k+1:Nat),6,0,0,0,false,false,3,3,0,[],[],[]⟩,true,true,true⟩
def YB(h:Nat):List Ez→Nat→List Ez
 |[],_=>[]
 |x::r,k=>Xw1 x k::Xn7 h k::YB h r (k+1)
def YI:List (Bool×List Ez)→Nat→List (Bool×List Ez)
 |[],_=>[]
 |p::r,h=>(decide (p.2.length=0),YB h p.2 0)::YI r (h+1)
def JG:List Int→List Int
 |[]=>[]
 |w::r=>(if w<0 then w else YQ w)::(-1)::JG r
def Xh2(c:Cz):Cz:=⟨c.f,YI c.hs 0,JG c.fr,c.od.map YQ,false,decide (c.hs.length=0),decide (c.fr.length=0),decide (c.od.length=0)⟩
theorem Xo2(h:Nat)(a b:List Ez)(k:Nat):YB h (a++b) k=YB h a k++YB h b (k+a.length):=by
 induction a generalizing k with
 |nil=>simp[YB]
 |cons x r ih=>simp only[List.cons_append,YB,ih,List.length_cons];rw[show k+1+r.length=k+(r.length+1) by omega]
theorem Xlj{h:Nat}{l:List Ez}{k:Nat}(hk:k<l.length):YB h (l.take (k+1)) 0=YB h (l.take k) 0++[Xw1 l[k] k,Xn7 h k]:=by
 rw[List.take_succ_eq_append_getElem hk,Xo2];simp[YB,Nat.min_eq_left (Nat.le_of_lt hk)]
theorem Xan(h:Nat)(l:List Ez)(k:Nat):(YB h l k).length=2*l.length:=by
 induction l generalizing k with
 |nil=>rfl
 |cons x r ih=>simp only[YB,List.length_cons,ih];omega
theorem Xsf(a b:List (Bool×List Ez))(k:Nat):YI (a++b) k=YI a k++YI b (k+a.length):=by
 induction a generalizing k with
 |nil=>simp[YI]
 |cons x r ih=>simp only[List.cons_append,YI,ih,List.length_cons];rw[show k+1+r.length=k+(r.length+1) by omega]
theorem Xo3{l:List (Bool×List Ez)}{k:Nat}(hk:k<l.length):YI (l.take (k+1)) 0=YI (l.take k) 0++[(decide (l[k].2.length=0),YB k l[k].2 0)]:=by
 rw[List.take_succ_eq_append_getElem hk,Xsf];simp[YI,Nat.min_eq_left (Nat.le_of_lt hk)]
theorem Xcj(l:List (Bool×List Ez))(k:Nat):(YI l k).length=l.length:=by
 induction l generalizing k with
 |nil=>rfl
 |cons x r ih=>simp[YI,ih]
theorem Xsg(a b:List Int):JG (a++b)=JG a++JG b:=by
 induction a with
 |nil=>rfl
 |cons x r ih=>simp[JG,ih]
theorem Xo4{l:List Int}{k:Nat}(hk:k<l.length):JG (l.take (k+1))=JG (l.take k)++[if l[k]<0 then l[k]else YQ l[k], -1]:=by
 rw[List.take_succ_eq_append_getElem hk,Xsg];rfl
theorem Xif(l:List Int):(JG l).length=2*l.length:=by
 induction l with
 |nil=>rfl
 |cons x r ih=>simp only[JG,List.length_cons,ih];omega
theorem Xa1{c:Cz}(h:Xqn c=true):c.hs.length≤9∧Xie c.hs≤30∧c.f.length≤30∧c.fr.length≤60∧c.od.length≤60∧∀p∈c.hs,p.2.length≤30∧∀x∈p.2,x.e.da.length≤60∧x.e.dd.length≤60∧x.e.dw.length≤60:=by
 unfold Xqn at h;simp only[Bool.and_eq_true,decide_eq_true_eq]at h;obtain⟨h1,h2,h3,h4,h5,h6⟩:=h;refine⟨h2,h3,h4,h5,h6,fun p hp=>?_⟩;rw[List.take_of_length_le (by omega),List.all_eq_true]at h1;have:=h1 p hp;unfold Xb0 at this;rw[Bool.and_eq_true,decide_eq_true_eq,List.all_eq_true]at this;refine⟨by omega,fun x hx=>?_⟩;have:=this.2 x hx;unfold Ycn at this;simp only[Bool.and_eq_true,decide_eq_true_eq]at this;omega
end Go.Proofs.YtjhfcfpkgfpoiaaGreatDoor
namespace Go.Proofs.YtjhfcfpkgfpoiaaGreatDoor
open Go Go.RowKit
set_option maxRecDepth 100000
theorem Yim:(Tryz.prog.info? 3).map (fun i=>(i.zero,i.size,i.bytes))=some (some (.int .i64 0),1,8):=by kernel_rfl
def Xz3(da dd dw:List Int)(W:World)(e:Ending)(w':World):Prop:=
 ∃p:Ym7,e= .returned (.agg #[.slice p.A1 da.length p.c1, .slice p.A2 dd.length p.c2, .slice p.A3 dw.length p.c3])∧Below W.heap.size W w'∧Xad w' W.heap.size p.A1 da∧Xad w' W.heap.size p.A2 dd∧(Xad w' W.heap.size p.A3 dw∧(da.length≤p.c1∧p.A1.isSome=true)∧(dd.length≤p.c2∧p.A2.isSome=true)∧(dw.length≤p.c3∧p.A3.isSome=true))
def cv(w:World)(g j:Nat):Value:=(w.cell? ⟨g,j,none⟩).getD undef
theorem Xhk{w:World}{g j:Nat}(h:(w.cell? ⟨g,j,none⟩).isSome=true):w.cell? ⟨g,j,none⟩=some (cv w g j):=by
 unfold cv;cases hc:w.cell? ⟨g,j,none⟩with
 |none=>rw[hc]at h;cases h
 |some v=>rfl
abbrev KU(w:World)(A1 A2 A3:Option Addr)(da dd dw:List Int)(c1 c2 c3:Nat)(w':World):Prop:=
 w'.cell? ⟨w.heap.size,0,none⟩=some (.slice A1 da.length c1)∧w'.cell? ⟨w.heap.size,1,none⟩=some (.slice A2 dd.length c2)∧w'.cell? ⟨w.heap.size,2,none⟩=some (.slice A3 dw.length c3)∧Below w.heap.size w w'∧w.heap.size+1<w'.heap.size∧
 w'.cell? ⟨w.heap.size+1,0,none⟩=some (cv w' (w.heap.size+1) 0)∧w'.cell? ⟨w.heap.size+1,1,none⟩=some (cv w' (w.heap.size+1) 1)∧w'.cell? ⟨w.heap.size+1,2,none⟩=some (cv w' (w.heap.size+1) 2)∧
 w'.frozen? ⟨w.heap.size+1,0,none⟩=false∧w'.frozen? ⟨w.heap.size+1,1,none⟩=false∧w'.frozen? ⟨w.heap.size+1,2,none⟩=false
theorem KU.more{w2:World}{w w1:World}{A1 A2 A3:Option Addr}{da dd dw:List Int}{c1 c2 c3:Nat}(h:KU w A1 A2 A3 da dd dw c1 c2 c3 w1)(g:Below w1.heap.size w1 w2):KU w A1 A2 A3 da dd dw c1 c2 c3 w2:=by
 obtain⟨h1,h2,h3,h4,h5,h6,h7,h8,h9,h10,h11⟩:=h;have k0:∀j,w2.cell? ⟨w.heap.size,j,none⟩=w1.cell? ⟨w.heap.size,j,none⟩:=fun j=>g.cell (p:=⟨_,_,none⟩) (show w.heap.size<w1.heap.size by omega);have k1:∀j,w2.cell? ⟨w.heap.size+1,j,none⟩=w1.cell? ⟨w.heap.size+1,j,none⟩:=fun j=>g.cell (p:=⟨_,_,none⟩) h5;have k2:∀j,w2.frozen? ⟨w.heap.size+1,j,none⟩=w1.frozen? ⟨w.heap.size+1,j,none⟩:=fun j=>g.frozen (p:=⟨_,_,none⟩) h5;exact⟨(k0 _).trans h1,(k0 _).trans h2,(k0 _).trans h3,HT h4 g,Nat.lt_of_lt_of_le h5 g.size,Xhk (by rw[k1,h6];rfl),Xhk (by rw[k1,h7];rfl),Xhk (by rw[k1,h8];rfl),(k2 _).trans h9,(k2 _).trans h10,(k2 _).trans h11⟩
theorem KU.alloc{w w1:World}{A1 A2 A3:Option Addr}{da dd dw:List Int}{c1 c2 c3:Nat}(h:KU w A1 A2 A3 da dd dw c1 c2 c3 w1)(o:Obj):KU w A1 A2 A3 da dd dw c1 c2 c3 (w1.alloc o):=h.more ((Below.refl _ _).alloc (Nat.le_refl _) o)
theorem KU.drew{w w1:World}{A1 A2 A3:Option Addr}{da dd dw:List Int}{c1 c2 c3:Nat}(h:KU w A1 A2 A3 da dd dw c1 c2 c3 w1):KU w A1 A2 A3 da dd dw c1 c2 c3 w1.drew:=h.more (below_drewN (Below.refl _ _) 1)
theorem KU.set{w w1:World}{A1 A2 A3:Option Addr}{da dd dw:List Int}{c1 c2 c3:Nat}(h:KU w A1 A2 A3 da dd dw c1 c2 c3 w1)(j:Nat)(v:Value):KU w A1 A2 A3 da dd dw c1 c2 c3 (w1.setCell ⟨w.heap.size+1,j,none⟩ v):=by
 obtain⟨h1,h2,h3,h4,h5,h6,h7,h8,h9,h10,h11⟩:=h;have k0:∀i,(w1.setCell ⟨w.heap.size+1,j,none⟩ v).cell? ⟨w.heap.size,i,none⟩=w1.cell? ⟨w.heap.size,i,none⟩:=fun i=>World.cell?_setCell_other _ _ _ _ (by intro e;injection e with e;omega);have k1:∀i u,w1.cell? ⟨w.heap.size+1,i,none⟩=some u→((w1.setCell ⟨w.heap.size+1,j,none⟩ v).cell? ⟨w.heap.size+1,i,none⟩).isSome=true:=fun i u hu=>by
  by_cases hij:i=j
  ·subst hij;rw[World.cell?_setCell_same _ _ _ hu];rfl
  ·rw[World.cell?_setCell_other _ _ _ _ (by intro e;injection e with _ e;exact hij e.symm),hu];rfl
 exact⟨(k0 _).trans h1,(k0 _).trans h2,(k0 _).trans h3,h4.setCell (Nat.le_succ _) v,by simpa using h5,Xhk (k1 _ _ h6),Xhk (k1 _ _ h7),Xhk (k1 _ _ h8),by simpa using h9,by simpa using h10,by simpa using h11⟩
theorem KU.base(w:World)(A1 A2 A3:Option Addr)(da dd dw:List Int)(c1 c2 c3:Nat)(t t':TypeId)(x y z:Value):KU w A1 A2 A3 da dd dw c1 c2 c3 ((w.alloc (.cells #[.slice A1 da.length c1, .slice A2 dd.length c2, .slice A3 dw.length c3] t)).alloc (.cells #[x,y,z] t')):=
 ⟨by simp,by simp,by simp,((Below.refl _ _).alloc (Nat.le_refl _) _).alloc (by simp) _,by simp,Xhk (by simp),Xhk (by simp),Xhk (by simp),by simp,by simp,by simp⟩
theorem Ye3{w:World}{g:Nat}{x y z u:Value}(h:w.cell? ⟨g,0,none⟩=some u):(((w.setCell ⟨g,0,none⟩ x).setCell ⟨g,1,none⟩ y).setCell ⟨g,2,none⟩ z).cell? ⟨g,0,none⟩=some x:=by
 rw[World.cell?_setCell_other _ _ _ _ (by simp),World.cell?_setCell_other _ _ _ _ (by simp),World.cell?_setCell_same _ _ _ h]
theorem Ye2{w:World}{g:Nat}{x y z u:Value}(h:w.cell? ⟨g,1,none⟩=some u):(((w.setCell ⟨g,0,none⟩ x).setCell ⟨g,1,none⟩ y).setCell ⟨g,2,none⟩ z).cell? ⟨g,1,none⟩=some y:=by
 rw[World.cell?_setCell_other _ _ _ _ (by simp),World.cell?_setCell_same _ _ _ (by rw[World.cell?_setCell_other _ _ _ _ (by simp)];exact h)]
theorem Ye1{w:World}{g:Nat}{x y z u:Value}(h:w.cell? ⟨g,2,none⟩=some u):(((w.setCell ⟨g,0,none⟩ x).setCell ⟨g,1,none⟩ y).setCell ⟨g,2,none⟩ z).cell? ⟨g,2,none⟩=some z:=by
 rw[World.cell?_setCell_same _ _ _ (by rw[World.cell?_setCell_other _ _ _ _ (by simp),World.cell?_setCell_other _ _ _ _ (by simp)];exact h)]
set_option maxHeartbeats 4000000 in
theorem Xy9(da dd dw:List Int)(A1 A2 A3:Option Addr)(c1 c2 c3:Nat)(w:World)(h1:da.length≤120)(h2:dd.length≤120)(h3:dw.length≤120)
  (i1:Xfz w w.heap.size A1 da) (i2:Xfz w w.heap.size A2 dd) (i3:Xfz w w.heap.size A3 dw):
  Calls Tryz.prog 58 #[.agg #[.slice A1 da.length c1, .slice A2 dd.length c2, .slice A3 dw.length c3]] w (Xz3 da dd dw w):=by
 obtain⟨i,hi,hz,hsz,hby⟩:=info_parts Yim;have I:=Lib.hid (And.intro i1 (And.intro i2 i3));clear i1 i2 i3;have T:=Lib.hid (And.intro hi (And.intro hz (And.intro hsz hby)));clear hi hz hsz hby
 go_enter Tryz.func58,Tryz.ntmps58
 go_wp2_with fail
 go_region_held3 (KU w A1 A2 A3 da dd dw c1 c2 c3)
  ((repeat(first|assumption|with_reducible exact KU.base .. |with_reducible refine KU.drew ?_|with_reducible refine KU.alloc ?_ _|with_reducible refine KU.set ?_ _ _)))
  ((first
   |(refine Jq (by rfl) (.tmp 3) (.tmp 5) 24 (by rfl) 3 i (.int .i64 0) 1 8 Tryz.underlying24 T.out.1 T.out.2.1 T.out.2.2.1 T.out.2.2.2 rfl _ (by rfl) A1 da.length c1 _ (by rfl) (Xfz.src (I.out.1.keep (HP ‹KU w A1 A2 A3 da dd dw c1 c2 c3 _›.2.2.2.1 (Nat.le_refl _)))) (by unfold maxLen;omega) (by omega) ?_;intro P1 d1 w1 hb1 hle1 hg1;have hS1:=KU.more ‹KU w A1 A2 A3 da dd dw c1 c2 c3 _› hb1;have hI1:=(Xg1 hg1).low (lo':=w.heap.size+2) ‹KU w A1 A2 A3 da dd dw c1 c2 c3 _›.2.2.2.2.1;clear hg1)
   |(refine Jq (by rfl) (.tmp 7) (.tmp 9) 24 (by rfl) 3 i (.int .i64 0) 1 8 Tryz.underlying24 T.out.1 T.out.2.1 T.out.2.2.1 T.out.2.2.2 rfl _ (by rfl) A2 dd.length c2 _ (by rfl) (Xfz.src (I.out.2.1.keep (HP ‹KU w A1 A2 A3 da dd dw c1 c2 c3 _›.2.2.2.1 (Nat.le_refl _)))) (by unfold maxLen;omega) (by omega) ?_;intro P2 d2 w2 hb2 hle2 hg2;have hS2:=KU.more ‹KU w A1 A2 A3 da dd dw c1 c2 c3 _› hb2;have hI2:=(Xg1 hg2).low (lo':=w.heap.size+2) ‹KU w A1 A2 A3 da dd dw c1 c2 c3 _›.2.2.2.2.1;clear hg2;have hJ1:=hI1.below (HT (by(repeat(first|with_reducible exact Below.refl _ _|with_reducible refine HU ?_|with_reducible refine Zx ?_ _))) hb2))
   |(refine Jq (by rfl) (.tmp 11) (.tmp 13) 24 (by rfl) 3 i (.int .i64 0) 1 8 Tryz.underlying24 T.out.1 T.out.2.1 T.out.2.2.1 T.out.2.2.2 rfl _ (by rfl) A3 dw.length c3 _ (by rfl) (Xfz.src (I.out.2.2.keep (HP ‹KU w A1 A2 A3 da dd dw c1 c2 c3 _›.2.2.2.1 (Nat.le_refl _)))) (by unfold maxLen;omega) (by omega) ?_;intro P3 d3 w3 hb3 hle3 hg3;have hS3:=KU.more ‹KU w A1 A2 A3 da dd dw c1 c2 c3 _› hb3;have hI3:=(Xg1 hg3).low (lo':=w.heap.size+2) ‹KU w A1 A2 A3 da dd dw c1 c2 c3 _›.2.2.2.2.1;clear hg3;have hK1:=hJ1.below (HT (by(repeat(first|with_reducible exact Below.refl _ _|with_reducible refine HU ?_|with_reducible refine Zx ?_ _))) hb3);have hK2:=hI2.below (HT (by(repeat(first|with_reducible exact Below.refl _ _|with_reducible refine HU ?_|with_reducible refine Zx ?_ _))) hb3))))
 all_goals go_wp2
 all_goals
  have hF:=((hS3.set 0 (.slice P1 da.length d1)).set 1 (.slice P2 dd.length d2)).set 2 (.slice P3 dw.length d3);have hF1:=((hK1.set (g:=w.heap.size+1) (j:=0) (v:= .slice P1 da.length d1) (by omega)).set (g:=w.heap.size+1) (j:=1) (v:= .slice P2 dd.length d2) (by omega)).set (g:=w.heap.size+1) (j:=2) (v:= .slice P3 dw.length d3) (by omega);have hF2:=((hK2.set (g:=w.heap.size+1) (j:=0) (v:= .slice P1 da.length d1) (by omega)).set (g:=w.heap.size+1) (j:=1) (v:= .slice P2 dd.length d2) (by omega)).set (g:=w.heap.size+1) (j:=2) (v:= .slice P3 dw.length d3) (by omega);have hF3:=((hI3.set (g:=w.heap.size+1) (j:=0) (v:= .slice P1 da.length d1) (by omega)).set (g:=w.heap.size+1) (j:=1) (v:= .slice P2 dd.length d2) (by omega)).set (g:=w.heap.size+1) (j:=2) (v:= .slice P3 dw.length d3) (by omega);obtain⟨_,_,_,_,_,q1,q2,q3,_⟩:=hS3;have r0:(((w3.setCell {block:=w.heap.size+1,off:=0} (Value.slice P1 da.length d1)).setCell {block:=w.heap.size+1,off:=1} (Value.slice P2 dd.length d2)).setCell {block:=w.heap.size+1,off:=2} (Value.slice P3 dw.length d3)).cell? ⟨w.heap.size+1,0,none⟩=some (.slice P1 da.length d1):=Ye3 q1;have r1:(((w3.setCell {block:=w.heap.size+1,off:=0} (Value.slice P1 da.length d1)).setCell {block:=w.heap.size+1,off:=1} (Value.slice P2 dd.length d2)).setCell {block:=w.heap.size+1,off:=2} (Value.slice P3 dw.length d3)).cell? ⟨w.heap.size+1,1,none⟩=some (.slice P2 dd.length d2):=Ye2 q2;have r2:(((w3.setCell {block:=w.heap.size+1,off:=0} (Value.slice P1 da.length d1)).setCell {block:=w.heap.size+1,off:=1} (Value.slice P2 dd.length d2)).setCell {block:=w.heap.size+1,off:=2} (Value.slice P3 dw.length d3)).cell? ⟨w.heap.size+1,2,none⟩=some (.slice P3 dw.length d3):=Ye1 q3;exact bodyPost_ret (v:= .agg #[.slice P1 da.length d1, .slice P2 dd.length d2, .slice P3 dw.length d3]) (by simp[results,Tryz.results58,go_sem,r0,r1,r2]) rfl ⟨⟨P1,P2,P3,d1,d2,d3⟩,rfl,hF.2.2.2.1,hF1.low (by omega),hF2.low (by omega),⟨hF3.low (by omega),hle1,hle2,hle3⟩⟩
theorem Yca{α:Type}{l:List α}{k:Nat}(hk:k<l.length)(d:α):l.getD k d=l[k]:=by rw[List.getD_eq_getElem?_getD,List.getElem?_eq_getElem hk];rfl
def Xar(es:List Ev)(od:List Int)(i:Nat):Bool:=
 decide (0≤od.getD i 0∧od.getD i 0<es.length)&&(decide (∀j,j<i→od.getD j 0≠od.getD i 0)&&(es.getD (od.getD i 0).toNat default).mem)
def X4(es:List Ev):Nat:=(es.filter Ev.mem).length
def XU(c:Cd):Bool:=
 VC c.first&&(decide (1≤c.harts.length∧c.harts.length≤8)&&((List.range c.harts.length).all (fun i=>Xkp i (c.harts.getD i []))&&
  (decide (c.from_.length=c.harts.flatten.length)&&((List.range c.harts.flatten.length).all (GK c.first c.from_ c.harts.flatten)&&
   ((List.range c.order.length).all (Xar c.harts.flatten c.order)&&decide (c.order.length=X4 c.harts.flatten))))))
theorem Xgs{es:List Ev}{k:Nat}(hk:k<es.length):X4 (es.take (k+1))=X4 (es.take k)+if(es.getD k default).mem=true then 1 else 0:=by
 unfold X4;rw[List.take_succ_eq_append_getElem hk,List.filter_append,List.length_append,Yca hk]
 congr 1
 cases h:es[k].mem<;>simp[h]
theorem Xc7(es:List Ev)(k:Nat):X4 (es.take k)≤es.length:=by
 unfold X4;exact Nat.le_trans (List.length_filter_le _ _) (List.length_take_le' _ _)
structure Ygm(c:Cd):Prop where
 harts:∀k,k<c.harts.length→Few (c.harts.getD k [])∧(c.harts.getD k []).length≤1000
 n:c.harts.length≤1000
 all:c.harts.flatten.length≤1000
 first:c.first.length≤1000
 from_:c.from_.length≤1000
 order:c.order.length≤1000
end Go.Proofs.YtjhfcfpkgfpoiaaGreatDoor
namespace Go.Proofs.YtjhfcfpkgfpoiaaGreatDoor
open Go Go.RowKit Dw
set_option maxRecDepth 100000
section
section
variable {w:World} {N:Nat→Prop}
theorem Yie{z:Bool}{esz:Nat}{els:List (List Cv)}{u:Value}(h:XN w N (.sl z esz els) u):
  ∃A cap,u= .slice A els.length cap∧∀i j c,Dw.cellAt els i j=some c→∃a v,A=some a∧N a.block∧w.cell? (a.add (i*esz+j))=some v∧XN w N c v:=by
 cases h with
 |nil=>exact⟨none,0,rfl,fun i j c h=>by simp[Dw.cellAt]at h⟩
 | @sl a len cap _ _ us hl hcap hz hc hr=>
  refine⟨some a,cap,by rw[hl],fun i j c h=>?_⟩;obtain⟨h1,h2⟩:=hc i j c h;exact⟨a,us i j,rfl,h1,h2,hr i j c h⟩
theorem Xq5{α:Type}{f:α→List Cv}{l:List α}{i j:Nat}{c:Cv}(hi:i<l.length)(h:(f l[i])[j]? =some c):Dw.cellAt (l.map f) i j=some c:=by
 unfold Dw.cellAt;rw[List.getElem?_map,List.getElem?_eq_getElem hi];exact h
theorem Xmu{B:Nat}(hN:∀g,N g→g<B){z:Bool}{xs:List Int}{u:Value}(h:XN w N (.sl z 1 (Xj xs)) u):∃A c,u= .slice A xs.length c∧Xfz w B A xs:=by
 obtain⟨A,cap,rfl,hc⟩:=Yie h;refine⟨A,cap,by rw[Xf],fun i hi=>?_⟩;obtain⟨a,v,rfl,h1,h2,h3⟩:=hc i 0 (.sc (.int .i64 xs[i])) (Xq5 hi rfl);refine⟨a,rfl,hN _ h1,fun j u hu=>?_⟩
 match j with
 |0=>
  simp only[List.getElem?_cons_zero,Option.some.injEq]at hu;subst hu;cases h3;rw[h2,List.getD_eq_getElem?_getD,List.getElem?_eq_getElem hi];rfl
 |j+1=>simp at hu
def Yx(c:Cz):Cd:=⟨c.f,c.hs.map fun p=>p.2.map Ez.e,c.fr,c.od⟩
end
theorem Ydk{c:Cz}(h:H7 c):Ygm (Yx c):=by
 have hfl:(Yx c).harts.flatten=(Xr c.hs).map Ez.e:=by
  unfold Yx Xr;simp only[List.map_flatten,List.map_map];rfl
 refine⟨fun k hk=>?_,by simpa[Yx]using h.hs,by rw[hfl];simpa using h.all,h.f,h.fr,h.od⟩;have hk':k<c.hs.length:=by simpa[Yx]using hk
 have hg:(Yx c).harts.getD k []=c.hs[k].2.map Ez.e:=by simp[Yx,List.getD_eq_getElem?_getD,List.getElem?_map,List.getElem?_eq_getElem hk']
 rw[hg];refine⟨fun i hi=>?_,?_⟩
 ·rw[List.length_map]at hi;have:(c.hs[k].2.map Ez.e).getD i default=c.hs[k].2[i].e:=by simp[List.getD_eq_getElem?_getD,List.getElem?_map,List.getElem?_eq_getElem hi]
  rw[this];exact(h.ev _ (List.getElem_mem hk') _ (List.getElem_mem hi)).2
 ·rw[List.length_map];have hle:=VM c.hs (k+1);have:=congrArg List.length (Kz hk');rw[List.length_append]at this;have:=h.all;omega
end
theorem Xg2{w:World}{lo:Nat}{M:Nat→Prop}(hM:∀g,lo≤g→M g){A:Option Addr}{xs:List Int}{c:Nat}(h:Xad w lo A xs)(hc:xs.length≤c)(hA:A.isSome=true):
  XN w (fun g=>g<w.heap.size∧M g) (.sl false 1 (Xj xs)) (.slice A xs.length c):=by
 obtain⟨a,rfl⟩:=Option.isSome_iff_exists.1 hA;have at_:∀i j c,Dw.cellAt (Xj xs) i j=some c→∃(hi:i<xs.length),j=0∧c= .sc (.int .i64 xs[i]):=by
  intro i j c hc;unfold Dw.cellAt at hc;rw[Xj,List.getElem?_map]at hc;cases hq:xs[i]? with
  |none=>rw[hq]at hc;cases hc
  |some y=>
   obtain⟨hi,rfl⟩:=List.getElem?_eq_some_iff.1 hq;rw[hq]at hc
   match j with
   |0=>simp at hc;exact⟨hi,rfl,hc.symm⟩
   |j+1=>simp at hc
 refine .sl (fun i _=> .int .i64 (xs.getD i 0)) (Xf xs) hc (fun i es he=>?_) (fun i j c hcc=>?_) (fun i j c hcc=>?_)
 ·rw[Xj,List.getElem?_map]at he;cases hq:xs[i]? with
  |none=>rw[hq]at he;cases he
  |some y=>rw[hq]at he;injection he with he;subst he;rfl
 ·obtain⟨hi,rfl,rfl⟩:=at_ i j c hcc;obtain⟨a',e,hb,hcell⟩:=h.1.at_ hi;injection e with e;subst e;obtain⟨a'',e,hlo⟩:=h.2 (by omega);injection e with e;subst e;exact⟨⟨hb,hM _ hlo⟩,by rw[show i*1+0=i by omega];exact hcell⟩
 ·obtain⟨hi,rfl,rfl⟩:=at_ i j c hcc;have:xs.getD i 0=xs[i]:=by rw[List.getD_eq_getElem?_getD,List.getElem?_eq_getElem hi];rfl
  rw[this];exact .sc rfl
theorem Xvf(z1 z2 z3:Bool)(a b c:List Int)(h1:a.length≤120)(h2:b.length≤120)(h3:c.length≤120):
  Xq Tryz.prog 58 [.agg [.c (.sl z1 1 (Xj a)), .c (.sl z2 1 (Xj b)), .c (.sl z3 1 (Xj c))]] (.val (.agg [.c (.sl false 1 (Xj a)), .c (.sl false 1 (Xj b)), .c (.sl false 1 (Xj c))])):=by
 intro M w us hM hu;obtain⟨l⟩:=us
 match l,hu with
 |[u],hu=>
  have e0:=hu.2 0 _ u rfl rfl;cases e0 with
  | @agg _ us h=>
   obtain⟨l⟩:=us
   match l,h with
   |[u1,u2,u3],h=>
    have hN:∀g,g<w.heap.size∧M g→g<w.heap.size:=fun g h=>h.1;obtain⟨A1,c1,rfl,i1⟩:=Xmu hN (show XN w _ (.sl z1 1 (Xj a)) u1 from h.2 0 _ u1 rfl rfl);obtain⟨A2,c2,rfl,i2⟩:=Xmu hN (show XN w _ (.sl z2 1 (Xj b)) u2 from h.2 1 _ u2 rfl rfl);obtain⟨A3,c3,rfl,i3⟩:=Xmu hN (show XN w _ (.sl z3 1 (Xj c)) u3 from h.2 2 _ u3 rfl rfl);refine(Xy9 a b c A1 A2 A3 c1 c2 c3 w h1 h2 h3 i1 i2 i3).mono ?_;rintro e w' ⟨p,rfl,hb,j1,j2,j3,k1,k2,k3⟩;exact⟨_,rfl,hb, .agg (.cons (Xg2 hM j1 k1.1 k1.2) (.cons (Xg2 hM j2 k2.1 k2.2) (.cons (Xg2 hM j3 k3.1 k3.2) .nil)))⟩
end Go.Proofs.YtjhfcfpkgfpoiaaGreatDoor
namespace Go.Proofs.YtjhfcfpkgfpoiaaGreatDoor
open Go Go.RowKit Dw
set_option maxRecDepth 100000
attribute [local simp] cA cB cV Xbs Kb Xaf opE KM evO cEV_int cEV_bool cEV_str cEV_nil cEV_fn Dw.look Dw.put Dw.setD Dw.Xhq shI Xho Xhp unE GM X5 Jj Gx Je YJ XA Jf Hn Kq KD JD Kd K3 K0 Xd6 KK GF VD Xbr Xec Vr Gw Xgy Y4 Xf6 Yq Xf3 Xh1 Yw Xfi K9 chunks Dw.unC Xd7 JK YL Vc Vv KW YZ KP Xbw refs YS Vd over Xd5 eqC List.getElem?_cons_zero List.getElem?_cons_succ List.all_cons List.all_nil ty3 D3 ty4 D4 ty9 D9 Xkn Xkv D22 Xkm Xku D23 Xkl Xkt D24 Xib J7 J6 J5 J4 Xk0 ty31 D31 Xkk D38 Xkj Xks D44 Xki Xkr D50 Xia J3 fo57_1 fo57_2 fo57_3 Xkz eq57 Xh9 J2 J1 Xky Xh8 J0 JZ JY Xkx Xh7 JX JW JV JU JT JS JR JQ JP JO KI KH Xkw ty71 Xkq D71 Xkh JN JM bu75 eq75 ty97 D97 HW H3 Xk5 G9 H2 Xkg ty112 HZ D112 HV Xk4 G8 Xk3 G7 H1 Xkf G0 fo231_0 fo231_1 fo231_2 fo231_3 fo231_4 fo231_5 fo231_6 fo231_7 fo231_8 fo231_9 fo231_10 H4 H0 H6 H5 init0 init1 init2 init3 init4 init5 init6 Jz Xb9 Xdm rdL rdG rdO Xbu Zg Ge G4 Dw.del KB XV Xx YP Xex J9 Xe0 Kl erefs_agg_c XJ XT XI XQ inH Gt Gu VT Kt
def Ych:List EV→Option (Prop×YX)
 |[.agg [.c (.sl _ 1 l1), .c (.sl _ 1 l2), .c (.sl _ 1 l3)]]=>(match unI l1,unI l2,unI l3 with|some a,some b,some c=>some (a.length≤120∧b.length≤120∧c.length≤120, .val (.agg [.c (.sl false 1 (Xj a)), .c (.sl false 1 (Xj b)), .c (.sl false 1 (Xj c))]))|_,_,_=>none)
 |_=>none
def sy1:Dw.Spec:=Xn 58 Ych Xao
theorem YR:XF Tryz.prog sy1:=by
 refine Xp ⟨⟨_,Tryz.func58,rfl,rfl⟩⟩ (fun vs p r h hp=>?_) Xb;unfold Ych at h;split at h
 ·split at h
  ·rename_i a b c ha hb hc;simp only[Option.some.injEq,Prod.mk.injEq]at h;obtain⟨rfl,rfl⟩:=h;rw[YK ha,YK hb,YK hc];exact Xvf _ _ _ _ _ _ hp.1 hp.2.1 hp.2.2
  ·cases h
 ·cases h
def fzE(x:Ez):Ez:={x with z1:=false,z2:=false,z3:=false}
def Jk(hs:List (Bool×List Ez)):List Ez:=(Xr hs).map fzE
theorem Xux(hs:List (Bool×List Ez)):(Jk hs).map Ez.e=(Xr hs).map Ez.e:=by simp[Jk,fzE,Function.comp_def]
def flU(hs:List (Bool×List Ez))(i j:Nat):List Ez:=(Xr (hs.take i)++(hs.getD i (true,[])).2.take j).map fzE
def flZ(hs:List (Bool×List Ez))(i j:Nat):Bool:=decide ((flU hs i j).length=0)
theorem Xmf{hs:List (Bool×List Ez)}{i:Nat}(hi:i<hs.length):hs.getD i (true,[])=hs[i]:=by rw[List.getD_eq_getElem?_getD,List.getElem?_eq_getElem hi];rfl
theorem Xn4{hs:List (Bool×List Ez)}{i j:Nat}(hi:i<hs.length)(hj:j<hs[i].2.length):Yc (flU hs i (j+1))=Yc (flU hs i j)++[(fzE hs[i].2[j]).cv]:=by
 unfold flU;rw[Xmf hi,List.take_succ_eq_append_getElem hj,←List.append_assoc,List.map_append];unfold Yc;rw[List.map_append];rfl
theorem Xuy{hs:List (Bool×List Ez)}{i j:Nat}(hi:i<hs.length)(hj:j=hs[i].2.length):flU hs i j=flU hs (i+1) 0:=by
 unfold flU;rw[Xmf hi,hj,List.take_length,←Kz hi,List.take_zero,List.append_nil]
theorem Xuz(hs:List (Bool×List Ez)):flU hs hs.length 0=Jk hs:=by
 unfold flU Jk;rw[List.take_length,List.take_zero,List.append_nil]
theorem Ycl(hs:List (Bool×List Ez)):flU hs 0 0=[]:=by simp[flU,Xr]
theorem Yfp{hs:List (Bool×List Ez)}{i j:Nat}(hi:i<hs.length)(hj:j≤hs[i].2.length):(flU hs i j).length≤(Xr hs).length:=by
 unfold flU;rw[Xmf hi];have:=VM hs (i+1);have h2:=congrArg List.length (Kz hi);simp at h2⊢;omega
theorem Xyw{hs:List (Bool×List Ez)}{i j:Nat}(hi:i<hs.length)(hj:j<hs[i].2.length):flZ hs i (j+1)=false:=by
 have:=congrArg List.length (Xn4 hi hj);rw[List.length_append,Xe,Xe]at this;unfold flZ;rw[decide_eq_false_iff_not];simp at this;omega
set_option maxHeartbeats 16000000 in
theorem Xe7(c:Cz)(hc0:H7 c):Xq Tryz.prog 28 [Yo c] (.row (decide ((Xr c.hs).length=0)) 67 14 (Yc (Jk c.hs))):=by
 have b2:=hc0.hs;have b3:=hc0.all;have bev:∀p∈c.hs,∀x∈p.2,GL x.e:=fun p hp x hx=>(hc0.ev p hp x hx).2;have hz0:decide ((Xr c.hs).length=0)=flZ c.hs c.hs.length 0:=by unfold flZ;rw[Xuz,Jk,List.length_map]
 rw[hz0,←Xuz];unfold Yo;refine Xi (rs:=[.tmp 2]) (Xk _) Tryz.func28 rfl Tryz.ntmps28 rfl (by simp) ?_
 repeat(first|(refine We fun S hS=>?_)|(refine Wp.block ?_)|(refine Wp.skip ?_)|(refine hS _ ?_;clear hS S)|(clear hS S;refine hS _ ?_;clear hS S)|(clear hS S;clear hS S;refine hS _ ?_;clear hS S))
 first|refine Wa YR fun K J=>?_|refine Wb YR fun K J=>?_|refine Wc YR [] fun K J=>?_|refine Wd YR [] fun K J=>?_
 simp;apply J;clear J K;refine hS _ ?_;clear hS S;refine Wp.frzBox (b:=1) (cs:=c.cv) rfl rfl ?_;change Wp _ _ _ _ (⟨[(0,Yo c),(1,cA c),(2,sV true 0 [])],[]⟩:St);refine Wa YR fun K J=>?_;simp;apply J;clear J K;refine We fun S hS=>?_;refine Wa YR fun K J=>?_;simp;apply J;clear J K;refine Wp.block ?_;refine Wp.loop (fun k s=>∃i:Nat,i+k=c.hs.length∧s=⟨[(1,cA c),(2,sV true 0 []),(3, .one (.own 3)),(4,iV .i64 i)],[(3, .row (flZ c.hs i 0) 67 14 (Yc (flU c.hs i 0)))]⟩)
  c.hs.length (s0:=⟨[(1,cA c),(2,sV true 0 []),(3, .one (.own 3)),(4,iV .i64 (0:Nat))],[(3, .row true 67 14 [])]⟩) ?_ ⟨0,by simp,by rw[Ycl];rfl⟩ fun kk s ⟨i,hik,hs⟩=>?_
 ·refine .trans (.adopt (t:=3) (b:=3) rfl rfl 67 14) ?_;apply Gh.of<;>simp
 subst hs;refine We fun S hS=>?_;refine Wa YR fun K J=>?_;simp[Xo];apply J;clear J K;refine Wp.cond rfl (fun hc=>?_) (fun hc=>?_)
 ·have hi:i<c.hs.length:=by simpa using hc
  have hwi:IntKind.i64.wrap ((i:Int)+1)=(i+1:Nat):=by rw[wrap_small]<;>omega
  have hrl:c.hs[i].2.length≤1000:=by
   have:=VM c.hs (i+1);have h2:=congrArg List.length (Kz hi);rw[List.length_append]at h2;omega
  refine Wp.skip ?_;refine hS _ ?_;clear hS S;refine We fun S hS=>?_;refine Wp.block ?_;refine Wa YR fun K J=>?_;simp;apply J;clear J K;refine Wp.block ?_;refine Wp.loop (fun k s=>∃j:Nat,j+k=c.hs[i].2.length∧s=⟨[(1,cA c),(2,sV true 0 []),(3, .one (.own 3)),(4,iV .i64 i),(5,iV .i64 j)],[(3, .row (flZ c.hs i j) 67 14 (Yc (flU c.hs i j)))]⟩)
   c.hs[i].2.length (s0:=⟨[(1,cA c),(2,sV true 0 []),(3, .one (.own 3)),(4,iV .i64 i),(5,iV .i64 (0:Nat))],[(3, .row (flZ c.hs i 0) 67 14 (Yc (flU c.hs i 0)))]⟩) ?_ ⟨0,by simp,rfl⟩ fun k s ⟨j,hjk,hs⟩=>?_
  ·apply Gh.of<;>simp
  subst hs;refine We fun S hS=>?_;refine Wa YR fun K J=>?_;simp[hi,Xo,Xz,Xe];apply J;clear J K;refine Wp.cond rfl (fun hc=>?_) (fun hc=>?_)
  ·have hj:j<c.hs[i].2.length:=by simpa using hc
   have hwj:IntKind.i64.wrap ((j:Int)+1)=(j+1:Nat):=by rw[wrap_small]<;>omega
   obtain⟨q1,q2,q3⟩:=bev _ (List.getElem_mem hi) _ (List.getElem_mem hj);have hlm:=Yfp hi (Nat.le_of_lt hj);have hl1:(flU c.hs i j).length+1≤maxLen:=by unfold maxLen;omega
   have hl2:((flU c.hs i j).length+1)*152≤140737488355328:=by omega
   repeat(first|(refine We fun S hS=>?_)|(refine Wp.block ?_)|(refine Wp.skip ?_)|(refine hS _ ?_;clear hS S)|(clear hS S;refine hS _ ?_;clear hS S)|(clear hS S;clear hS S;refine hS _ ?_;clear hS S))
   first|refine Wa YR fun K J=>?_|refine Wb YR fun K J=>?_|refine Wc YR [] fun K J=>?_|refine Wd YR [] fun K J=>?_
   simp[hi,hj,Xo,Xz,Xe,Xd,Ez.cv];apply J;clear J K
   repeat(first|(refine We fun S hS=>?_)|(refine Wp.block ?_)|(refine Wp.skip ?_)|(refine hS _ ?_;clear hS S)|(clear hS S;refine hS _ ?_;clear hS S)|(clear hS S;clear hS S;refine hS _ ?_;clear hS S))
   first|refine Wa YR fun K J=>?_|refine Wb YR fun K J=>?_|refine Wc YR [] fun K J=>?_|refine Wd YR [] fun K J=>?_
   simp[sy1,Xn,Ych,Xa,q1,q2,q3];apply J;clear J K
   repeat(first|(refine We fun S hS=>?_)|(refine Wp.block ?_)|(refine Wp.skip ?_)|(refine hS _ ?_;clear hS S)|(clear hS S;refine hS _ ?_;clear hS S)|(clear hS S;clear hS S;refine hS _ ?_;clear hS S))
   first|refine Wa YR fun K J=>?_|refine Wb YR fun K J=>?_|refine Wc YR [] fun K J=>?_|refine Wd YR [] fun K J=>?_
   simp[hl1,hl2,Xe];apply J;clear J K
   repeat(first|(refine We fun S hS=>?_)|(refine Wp.block ?_)|(refine Wp.skip ?_)|(refine hS _ ?_;clear hS S)|(clear hS S;refine hS _ ?_;clear hS S)|(clear hS S;clear hS S;refine hS _ ?_;clear hS S))
   first|refine Wa YR fun K J=>?_|refine Wb YR fun K J=>?_|refine Wc YR [] fun K J=>?_|refine Wd YR [] fun K J=>?_
   simp[hwj];apply J;clear J K;refine⟨⟨[(1,cA c),(2,sV true 0 []),(3, .one (.own 3)),(4,iV .i64 i),(5,iV .i64 (j+1:Nat))],[(3, .row (flZ c.hs i (j+1)) 67 14 (Yc (flU c.hs i (j+1))))]⟩,k - 1,?_,by omega,j+1,by omega,rfl⟩;rw[Xn4 hi hj,Xyw hi hj];apply Gh.of<;>simp[Ez.cv,fzE]
  ·have hj:¬j<c.hs[i].2.length:=by simpa using hc
   have hj0:j=c.hs[i].2.length:=by omega
   have e1:flZ c.hs i j=flZ c.hs (i+1) 0:=by unfold flZ;rw[Xuy hi hj0]
   refine Wp.exit ?_;simp only[XV,Xx,if_true];rw[Xuy hi hj0,e1];clear hc hj hjk hj0 e1;clear hS S;refine hS _ ?_;clear hS S;refine Wb YR fun K J=>?_;simp[hwi];apply J;clear J K;refine⟨⟨[(1,cA c),(2,sV true 0 []),(3, .one (.own 3)),(4,iV .i64 (i+1:Nat))],[(3, .row (flZ c.hs (i+1) 0) 67 14 (Yc (flU c.hs (i+1) 0)))]⟩,kk - 1,?_,by omega,i+1,by omega,rfl⟩;apply Gh.of<;>simp
 ·have hi:¬i<c.hs.length:=by simpa using hc
  obtain rfl:i=c.hs.length:=by omega
  refine Wp.exit ?_;simp only[XV,Xx,if_true];clear hS S;refine hS _ ?_;clear hS S;refine Wa YR fun K J=>?_;simp;apply J;clear J K;refine Wp.ret ?_;simp
end Go.Proofs.YtjhfcfpkgfpoiaaGreatDoor
