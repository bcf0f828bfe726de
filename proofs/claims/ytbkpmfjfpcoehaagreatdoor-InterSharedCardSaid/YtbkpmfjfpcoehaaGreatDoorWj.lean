/- What is computed, as data, and laws of it. No condition. -/
import Derived.Deep.AppendLies
import Derived.Deep.RegionLaw
import Derived.Laws.CopyOwn
import Derived.Laws.MakeOwn
import Derived.OwnWalk
import Derived.Test.YtbkpmfjfpcoehaaGreatDoorWi
set_option maxHeartbeats 16000000
namespace Go.Proofs.YtbkpmfjfpcoehaaGreatDoor
open Go Go.RowKit
set_option maxRecDepth 100000
section
section
variable {P:Program} {w:World}
def Src(w:World)(A:Option Addr)(m size:Nat)(news:List Value):Prop:=
 news.length=m*size∧(0<m→∃ad,A=some ad∧∀(j:Nat) (u:Value),news[j]? =some u→w.cell? (ad.add j)=some u)∧∀u∈news,u.oneCell'=true
theorem Hy{w0 w1:World}(h:Below w0.heap.size w0 w1)(o:Obj):Below w0.heap.size w0 (w1.alloc o):=h.alloc h.size o
theorem GY{w0 w1 w2:World}(h:Below w0.heap.size w0 w1)(g:Below w1.heap.size w1 w2):Below w0.heap.size w0 w2:=h.trans (g.mono h.size)
theorem GZ{B:Nat}{w0 w1:World}(h:Below B w0 w1):Below B w0 w1.drew:=below_drewN h 1
theorem PE.src{B:Nat}{A:Option Addr}{xs:List Int}(h:PE w B A xs):Src w A xs.length 1 (xs.map (.int .i64)):=by
 refine⟨by simp,fun h0=>?_,fun u hu=>?_⟩
 ·obtain⟨a,rfl,hab,hc⟩:=h.at_ h0;refine⟨a,rfl,fun j u hj=>?_⟩;have hj':j<xs.length:=by
   have:=(ah.1 hj).1;simpa using this
  obtain⟨a',e,_,hc'⟩:=h.at_ hj';injection e with e;subst e;rw[hc'];rw[an,aa hj']at hj;simp only[bt,ab]at hj;rw[←hj,ac,aa hj'];rfl
 ·obtain⟨x,_,rfl⟩:=cy.1 hu;rfl
theorem Z1(t ty e:TypeId)(i:TypeInfo)(z:Value)(size bytes:Nat)(ht:P.underlying t=some (.slice e))(hi:P.info? e=some i)(hz:i.zero=some z)
  (hsize:i.size=size) (hby:i.bytes=bytes) (hzs:z.cells.size=size)
  (g:Nat) (A:Option Addr) (m c:Nat) (news:List Value) (hs:Src w A m size news) (h63:m≤maxLen) (hbytes:m*bytes≤140737488355328):
  ∃A' c' w',(Builtin.append_ #[t,t] ty #[.slice (some ⟨g,0,none⟩) 0 0, .slice A m c]).run P w= .ok (.slice A' m c') w'∧Below w.heap.size w w'∧(m≤c'∧A'.isSome=true)∧
   (0<m→∃ad,A'=some ad∧ad.block<w'.heap.size∧w.heap.size≤ad.block∧∀(j:Nat) (u:Value),news[j]? =some u→w'.cell? (ad.add j)=some u):=by
 obtain⟨hl,hr,h1⟩:=hs;by_cases hm:m=0
 ·subst hm;obtain rfl:news=[]:=cn (by simpa using hl);refine⟨some ⟨g,0,none⟩,0,w,?_,bg _ _,⟨ak _,rfl⟩,fun h=>absurd h (by omega)⟩;cases A<;>simp[Builtin.append_,kg ht,sizeOf,typeInfo,hi,Builtin.lenOf,Builtin.firstCells,storeCells,loadCells,loadCellsFrom]
 ·obtain⟨ad,rfl,hc⟩:=hr (by omega);subst hsize;subst hby;have hmm:m≤9223372036854775807:=by simp only[maxLen]at h63;omega
  have hr:=run_append_grow (P:=P) w t ty e i z ht hi hz ⟨g,0,none⟩ 0 0 [] (by simp) (by intro j u hj;simp at hj) ad m c news hl hc (by omega) (by omega) (growslice_fits (by omega) (by simpa using hbytes));have hge:=grownCap_ge w (0+m) 0 e;rw[bf]at hr;rw[bf]at hge;refine⟨_,_,_,hr,?_,⟨hge,rfl⟩,fun _=>⟨_,rfl,by simp,ak _,fun j u hj=>?_⟩⟩
  ·exact(below_drewN (bg _ _) 1).alloc (ak _) _
  ·have hj':=(ah.1 hj).1;have:((⟨w.heap.size,0,none⟩:Addr).add j)=⟨w.heap.size,j,none⟩:=by
    unfold Addr.add;split
    ·rename_i h;subst h;rfl
    ·simp
   rw[this,show(⟨w.heap.size,j,none⟩:Addr)=⟨w.drew.heap.size,j,none⟩from rfl,cell_of_row _ _ _ _ _ _ (cu w.drew _)];rw[fq (by simpa using hj')];simpa using hj
theorem KU{ops:Array Oper}{o:Oper}{a:Act}{K:Act→World→Prop}{Q:Exit→Act→World→Prop}{E:Prop}(hgd:o.guard=none)(s x:Operand)(t:TypeId)
  (ho:o.op= .call {callee:= .builtin .append,args:=#[s,x],argTypes:=#[t,t]})
  (e:TypeId) (i:TypeInfo) (z:Value) (size bytes:Nat) (ht:P.underlying t=some (.slice e)) (hi:P.info? e=some i) (hz:i.zero=some z)
  (hsize:i.size=size) (hby:i.bytes=bytes) (hzs:z.cells.size=size) (g:Nat) (hs:a.eval s= .slice (some ⟨g,0,none⟩) 0 0)
  (A:Option Addr) (m c:Nat) (news:List Value) (hx:a.eval x= .slice A m c) (hsrc:Src w A m size news) (h63:m≤maxLen) (hbytes:m*bytes≤140737488355328)
  (h:∀A' c' w',Below w.heap.size w w'→(m≤c'∧A'.isSome=true)→(0<m→∃ad,A'=some ad∧ad.block<w'.heap.size∧w.heap.size≤ad.block∧∀(j:Nat) (u:Value),news[j]? =some u→w'.cell? (ad.add j)=some u)→K (a.put o.dst (.slice A' m c')) w'):
  if Region.wanted o (yielded ops a.tmps)=true then Oper.wp P o a w K Q else E:=by
 have hw:Region.wanted o (yielded ops a.tmps)=true:=by simp[Region.wanted,hgd]
 rw[if_pos hw];obtain⟨A',c',w',hr,h2,h3,h5⟩:=Z1 (P:=P) (w:=w) t o.type e i z size bytes ht hi hz hsize hby hzs g A m c news hsrc h63 hbytes;unfold Oper.wp execOp;simp only[ho,resolve,invoke,builtin,ag,am,ae,List.map_toArray,ft,List.map_nil,hs,hx,hr];exact h A' c' w' h2 h3 h5
def Zm(w:World)(lo:Nat)(A:Option Addr)(xs:List Int):Prop:=PE w w.heap.size A xs∧(0<xs.length→∃ad,A=some ad∧lo≤ad.block)
theorem Rt{lo:Nat}{A':Option Addr}{xs:List Int}(h:0<xs.length→∃ad,A'=some ad∧ad.block<w.heap.size∧lo≤ad.block∧∀(j:Nat) (u:Value),(xs.map (Value.int .i64))[j]? =some u→w.cell? (ad.add j)=some u):Zm w lo A' xs:=by
 refine⟨fun i hi=>?_,fun h0=>by obtain⟨ad,e,_,hl,_⟩:=h h0;exact⟨ad,e,hl⟩⟩;obtain⟨ad,e,hb,_,hc⟩:=h (by omega);refine⟨ad,e,hb,fun j u hj=>?_⟩;have:j=0:=by
  have:=(ah.1 hj).1;simpa using this
 subst this;simp only[cj,ab]at hj;have:=hc i (.int .i64 (xs.getD i 0)) (by rw[an,ac,aa hi];rfl);rw[←hj];simpa using this
theorem Zm.below{lo:Nat}{A:Option Addr}{xs:List Int}{w1:World}(h:Zm w lo A xs)(b:Below w.heap.size w w1):Zm w1 lo A xs:=⟨S1 h.1 b,h.2⟩
theorem Zm.low{lo lo':Nat}{A:Option Addr}{xs:List Int}(h:Zm w lo A xs)(l:lo'≤lo):Zm w lo' A xs:=⟨h.1,fun h0=>by obtain⟨a,e,g⟩:=h.2 h0;exact⟨a,e,bd l g⟩⟩
theorem Zm.set{lo g j:Nat}{A:Option Addr}{xs:List Int}{v:Value}(h:Zm w lo A xs)(hg:g<lo):Zm (w.setCell ⟨g,j,none⟩ v) lo A xs:=by
 refine⟨fun i hi=>?_,h.2⟩;obtain⟨a,e,hb,hc⟩:=h.1 i hi;obtain⟨a',e',hl⟩:=h.2 (by omega);rw[e]at e';injection e' with e';subst e';refine⟨a,e,by simpa using hb,fun j' u hu=>?_⟩;rw[eb]
 ·exact hc j' u hu
 ·intro q;have:(⟨g,j,none⟩:Addr).block=a.block:=by rw[q,add_block]
  simp at this;omega
end
end
theorem Ri(z:Value)(n:Nat):madeCells #[z] n=Array.replicate n z:=by
 apply Array.ext
 ·simp[madeCells]
 ·intro i h1 h2;simp[madeCells,Nat.mod_one]
theorem Tq{P:Program}{w:World}(t e:TypeId)(i:TypeInfo)(z:Value)(bytes:Nat)(ht:P.underlying t=some (.slice e))(hi:P.info? e=some i)(hz:i.zero=some z)(hs:i.size=1)(hb:i.bytes=bytes)(hc:z.cells= #[z])
  (n:Nat) (hn:n≤100000) (hbb:bytes≤1000):(Instr.makeSlice t (.int .i64 n) (.int .i64 n)).run P w= .ok (.slice (some ⟨w.heap.size,0,none⟩) n n) (w.alloc (.cells (Array.replicate n z) e)):=by
 have h1:(i.bytes:Int)*(n:Int)≤281474976710656:=by
  rw[hb];have:((bytes*n:Nat):Int)≤(1000*100000:Nat):=by exact_mod_cast Nat.mul_le_mul hbb hn
  rw[Int.natCast_mul]at this;omega
 rw[run_makeSlice w t e i z ht hi hz .i64 .i64 n n (by omega) (jz _) (by simp only[au,hs];omega) h1 (by omega)];simp only[au,hs,Nat.mul_one,hc,Ri]
open Dw in
theorem SH(n:Nat)(hn:n≤8)(w:World):Calls Tryz.prog 61 #[.int .u64 1, .int .u64 n] w fun e w'=>e= .returned (.tuple #[.int .u64 0, .int .u64 n])∧Below w.heap.size w w':=by
 refine(NW n hn (fun _=>True) w #[.int .u64 1, .int .u64 n] (fun _ _=>trivial) (.cons (.one (.sc rfl)) (.cons (.one (.sc rfl)) .nil))).mono ?_;rintro e w' ⟨u,rfl,hb,hr⟩;refine⟨?_,hb⟩;have hr:XY w' _ noB (.tup [iV .u64 0,iV .u64 n]) u:=hr;cases hr with
 | @tup _ us hl h=>
  obtain⟨l⟩:=us
  match l,hl with
  |[x0,x1],_=>
   have h0:=(h 0 _ x0 rfl rfl).int;have h1:=(h 1 _ x1 rfl rfl).int;rw[h0,h1]
theorem Od:(Tryz.prog.info? 3).map (fun i=>(i.zero,i.size,i.bytes))=some (some (.int .i64 0),1,8):=by kernel_rfl
theorem Ee:(Tryz.prog.info? 3).map (·.size)=some 1:=by kernel_rfl
def bC(n:Nat)(W:World)(e:Ending)(w':World):Prop:=∃g,W.heap.size≤g∧e= .returned (.slice (some ⟨g,0,none⟩) n n)∧w'.heap[g]? =some (.cells (List.replicate n (.int .i64 (-1))).toArray 3 (0,0))∧Below W.heap.size W w'
def Fb(n m:Nat):List Value:=List.replicate m (.int .i64 (-1))++List.replicate (n - m) (.int .i64 0)
theorem Nm{n m:Nat}(h:m≤n):(Fb n m).length=n:=by simp[Fb];omega
theorem Nn{n m j:Nat}(h:j<m):(Fb n m)[j]? =some (.int .i64 (-1)):=by
 unfold Fb;rw[bu (by simpa using h)];simp[h]
theorem La{n m k:Nat}(_h:m+k≤n)(x y:Value):splice (List.replicate m x++List.replicate (n - m) y) m (List.replicate k x)=List.replicate (m+k) x++List.replicate (n - (m+k)) y:=by
 unfold splice;rw[fj];rw[List.take_append_of_le_length (by simp),bp (by simp),List.drop_append,cg (by simp)];rw[fj,show m+k - m=k by omega,List.drop_replicate,←fg,List.replicate_append_replicate,lb,show n - m - k=n - (m+k) by omega]
theorem Lo(a:Addr)(cx n:Nat)(w:World)(hx:w.cell? a=some (.int .i64 (-1)))(h1:1≤n)(h8:n≤8):
  Calls Tryz.prog 33 #[.slice (some a) 1 cx, .int .i64 n] w (bC n w):=by
 have HX:=Lib.hid hx;clear hx
 go_enter Tryz.func33,Tryz.ntmps33
 have hw1:IntKind.u64.wrap 1=1:=by decide
 have hw2:IntKind.u64.wrap (n:Int)=n:=by simp only[IntKind.wrap,IntKind.bits,IntKind.signed];simp;omega
 go_wp2_with fail
 with_reducible refine(SH n h8 _).mono ?_
 rintro r wn ⟨rfl,hb⟩;have B:=Lib.hid hb;replace HX:=Lib.hid (show wn.cell? a=some (.int .i64 (-1))from by rw[hb.cell (World.block_lt_of_cell? _ _ HX.out)];exact HX.out);clear hb;obtain⟨ib,hib,hzb,hsb,hbb⟩:=info_parts Od;have hmk:=Tq (P:=Tryz.prog) (w:=wn) 24 3 ib (.int .i64 0) 8 Tryz.underlying24 hib hzb hsb hbb rfl n (by omega) (by omega);clear hib hzb hsb hbb;have hw3:IntKind.i64.wrap (n:Int)=n:=by simp only[IntKind.wrap,IntKind.bits,IntKind.signed];simp;omega
 have q1:¬(9223372036854775807:Int)<n:=by omega
 have hg1:(wn.alloc (.cells (Array.replicate n (.int .i64 0)) 3)).heap[wn.heap.size]? =some (.cells (Array.replicate n (.int .i64 0)) 3 (0,0)):=cu _ _;have B1:Below wn.heap.size wn (wn.alloc (.cells (Array.replicate n (.int .i64 0)) 3)):=(bg _ _).alloc (ak _) _;have hxn:(wn.alloc (.cells (Array.replicate n (.int .i64 0)) 3)).cell? a=some (.int .i64 (-1)):=by rw[B1.cell (World.block_lt_of_cell? _ _ HX.out)];exact HX.out
 have hcp:=run_copy_row (P:=Tryz.prog) (wn.alloc (.cells (Array.replicate n (.int .i64 0)) 3)) 24 24 3 3 wn.heap.size 0 n n a 1 cx _ 3 [.int .i64 (-1)] Tryz.underlying24 Ee hg1
  (by show 1=min 1 n;omega) (fun j v hj=>by
   match j with
   |0=>simp at hj;subst hj;rw[show a.add 0=a by simp[Addr.add]];exact hxn
   |j+1=>simp at hj) (by simp;omega) (fun v hv=>by simp at hv;subst hv;rfl)
 have hrow:(((Array.replicate n (Value.int .i64 0)).toList.take 0++[Value.int .i64 (-1)]++(Array.replicate n (Value.int .i64 0)).toList.drop (0+[Value.int .i64 (-1)].length)).toArray)=(Fb n 1).toArray:=by simp[Fb]
 rw[hrow]at hcp;have hg2:=setRow_heap (wn.alloc (.cells (Array.replicate n (.int .i64 0)) 3)) wn.heap.size (Array.replicate n (.int .i64 0)) (Fb n 1).toArray 3 _ hg1;have B2:=below_setRow (B:=wn.heap.size) B1 (ak _) (g:=wn.heap.size) (Fb n 1).toArray;have HL:=Lib.hid B.out.size;replace B:=Lib.hid (mW B.out B2 (ak _));have HG:=Lib.hid hg2;clear hg1 B1 hxn hrow hg2 B2
 go_wp2_with fail
 generalize hgg:wn.heap.size=g at*
 generalize(World.setRow (World.alloc wn _) _ _)=w2 at*
 clear hgg hcp hmk
 go_loopw [8] (fun i w1=>∃m:Nat,1≤m∧m≤n∧i= .int .i64 m∧w1.heap[g]? =some (.cells (Fb n m).toArray 3 (0,0))∧Below w.heap.size w w1) (fun i _=>n - (intOf i).toNat)
 case atStart=>exact⟨1,by omega,h1,rfl,HG.out,B.out⟩
 case round=>
  obtain⟨m,hm1,hmn,rfl,hg0,hb0⟩:=hrel;replace HG:=Lib.hid hg0;replace B:=Lib.hid hb0;clear hg0 hb0;by_cases hlt:m<n
  ·go_wp2_with fail
   have hne:¬n=m:=by omega
   have hcl:(Fb n m).length=n:=Nm hmn;obtain⟨k,hk⟩:∃k,k=min m (n - m):=⟨_,rfl⟩;have hkm:k≤m:=by omega
   have hkn:m+k≤n:=by omega
   have hk1:1≤k:=by omega
   obtain⟨cs,hcs⟩:∃cs:List Value,cs=List.replicate k (.int .i64 (-1)):=⟨_,rfl⟩;have hcsl:cs.length=k:=by rw[hcs];simp
   have hsrc:∀j v,cs[j]? =some v→wr.drew.cell? ((⟨g,0,none⟩:Addr).add j)=some v:=by
    intro j v hj;have hjk:j<k:=by have:=(ah.1 hj).1;omega
    have hv:v= .int .i64 (-1):=by rw[hcs,gb,if_pos hjk]at hj;injection hj with hj;exact hj.symm
    have e:((⟨g,0,none⟩:Addr).add j)=⟨g,j,none⟩:=by
     unfold Addr.add;split
     ·rename_i h0;subst h0;rfl
     ·simp
    rw[e,hv]
    show wr.cell? ⟨g,j,none⟩=_
    simp only[World.cell?,HG.out];simp[Nn (n:=n) (show j<m by omega)]
   have h1c:∀v∈cs,v.oneCell'=true:=fun v hv=>by rw[hcs]at hv;have:=List.eq_of_mem_replicate hv;subst this;rfl
   have B':=Lib.hid (show Below w.heap.size w wr.drew from GZ B.out);have hkl:=hk;rw[←hcsl]at hkl;have hfit:m+cs.length≤(Fb n m).length:=by rw[hcsl,hcl];exact hkn
   go_region_law (refine step_copy_splice rfl (.tmp 41) (.tmp 44) 24 24 rfl 3 Tryz.underlying24 Ee (some ⟨g,m,none⟩) (some ⟨g,0,none⟩) (n - m) (n - m) m n (by simp[Act.eval,Act.put]) (by simp[Act.eval,Act.put]) g m (Fb n m) 3 HG.out cs hkl (fun _=>⟨rfl,_,rfl,hsrc⟩) hfit h1c w.heap.size w B'.out HL.out ?_;intro w4 hg4 hb4)
   have hs4:=hg4.out;rw[hcs,show splice (Fb n m) m (List.replicate k (.int .i64 (-1)))=Fb n (m+k)from La hkn _ _]at hs4;rw[←hk];have hwk:IntKind.i64.wrap ((m:Int)+(k:Int))=((m+k:Nat):Int):=by simp only[IntKind.wrap,IntKind.bits,IntKind.signed];simp;omega
   clear hg4 hsrc h1c hkl hfit hcs hcsl B' HG B hk;change Exit.inBlock 1 _ Exit.normal (Act.put (Act.put _ (some 46) _) (some 8) _) w4;rw[hwk];simp only[Act.put,List.setIfInBounds_toArray,List.set_cons_succ,ja]
   go_wp2
   refine⟨⟨m+k,by omega,hkn,by first|rfl|go_num,hs4,hb4⟩,?_⟩;simp[intOf];omega
  ·obtain rfl:m=n:=by omega
   go_wp2_with fail
   go_ret
   exact⟨g,HL.out,rfl,by rw[HG.out];simp[Fb],B.out⟩
end Go.Proofs.YtbkpmfjfpcoehaaGreatDoor
namespace Go.Proofs.YtbkpmfjfpcoehaaGreatDoor
open Go Go.RowKit Dw
set_option maxRecDepth 100000
theorem Fi(z:Bool)(n:Nat)(h1:1≤n)(h8:n≤8):Xq Tryz.prog 33 [sV z 1 [[.sc (.int .i64 (-1))]],iV .i64 n] (.row false 3 1 (Xj (List.replicate n (-1)))):=by
 intro M w us hM hu;obtain⟨l⟩:=us
 match l,hu with
 |[u0,u1],hu=>
  have e1:=hu.2 1 _ u1 rfl rfl;have e1:=e1.int;have e0:=hu.2 0 _ u0 rfl rfl;cases e0 with|one e0=>
  obtain⟨a,len,cap,rfl,e0',hlen⟩:=Ib (show XH w _ (.sl z 1 [[.sc (.int .i64 (-1))]]) u0 from e0) (i:=0) (by simp);simp at hlen;subst hlen;cases e0' with
  |sl f hl hcap hz hc hr=>
   have c0:=(hc 0 0 (.sc (.int .i64 (-1))) rfl).2;have r0:=hr 0 0 (.sc (.int .i64 (-1))) rfl;have hf:f 0 0= .int .i64 (-1):=by generalize f 0 0=y at r0;cases r0;rfl
   rw[hf]at c0;have hcell:w.cell? a=some (.int .i64 (-1)):=by rw[←c0];simp[Addr.add]
   rw[e1];refine(Lo a cap n w hcell h1 h8).mono ?_;rintro e w' ⟨g,hg,rfl,hrow,hb⟩;refine⟨_,rfl,hb,⟨List.replicate n (.int .i64 (-1)),⟨by simp[Xj], .inr ⟨g,n,_,by simp[Xj],hg,hrow,by simp[Xj],by unfold maxLen;omega,by simp,by simp[Xj]⟩⟩,?_⟩,by simp⟩;refine⟨by simp[Xj],fun i es he=>?_,fun i j c hc'=>?_⟩
   ·rw[Xj,List.map_replicate,gb]at he;split at he
    ·injection he with he;subst he;rfl
    ·cases he
   ·unfold Dw.cellAt at hc';rw[Xj,List.map_replicate,gb]at hc';split at hc'
    ·rename_i hi
     match j with
     |0=>
      simp at hc';subst hc';refine⟨.int .i64 (-1),by rw[gb,if_pos (by omega)], .sc rfl⟩
     |j+1=>simp at hc'
    ·cases hc'
def Rg(l:List (Int×Int)):List (Cv×Cv):=l.map fun p=>(.sc (.int .u64 p.1), .sc (.int .i64 p.2))
def Kp(a:Int):List (Int×Int)→Nat→Option (Nat×Int)
 |[],_=>none
 |p::r,i=>if a=p.1 then some (i,p.2)else Kp a r (i+1)
theorem JJ(a:Int)(l:List (Int×Int))(i:Nat):ZE (.int .u64) (.sc (.int .u64 a)) (Rg l) i=some ((Kp a l i).map fun q=>(q.1, .sc (.int .i64 q.2))):=by
 induction l generalizing i with
 |nil=>rfl
 |cons p r ih=>
  simp only[Rg,ft,ZE,To,if_true,Kp];by_cases h:a=p.1
  ·simp[h]
  ·simp only[bk h,if_neg h];exact ih (i+1)
def QZ(a v:Int)(l:List (Int×Int)):List (Int×Int):=match Kp a l 0 with
 |some (i,_)=>l.set i (a,v)
 |none=>l++[(a,v)]
def Gp(a:Int)(l:List (Int×Int)):Int:=((Kp a l 0).map (·.2)).getD (-1)
def Jd(es:List Ev)(fr:List Int):List Int→List Int→List (Int×Int)→Bool
 |[],_,_=>true
 |n::r,at_,by_=>
  if(es.getD n.toNat default).pos<at_.getD (es.getD n.toNat default).hart.toNat 0 then false else
  if(es.getD n.toNat default).reads=true∧Gp (es.getD n.toNat default).addr by_≠fr.getD n.toNat 0 then false else
  Jd es fr r (at_.set (es.getD n.toNat default).hart.toNat (es.getD n.toNat default).pos) (if(es.getD n.toNat default).writes=true then QZ (es.getD n.toNat default).addr n by_ else by_)
def Y9(c:Cz):Bool:=YC c&&Jd ((Xh c.hs).map Ez.e) c.fr c.od (List.replicate c.hs.length (-1)) []
theorem Fp{left:List Bool}{n:Int}{l:List Int}(h:P5 left n l=true):∀k∈l,0≤k∧k<left.length:=by
 induction l generalizing left n with
 |nil=>intro k hk;cases hk
 |cons a r ih=>
  unfold P5 at h;split at h
  ·cases h
  ·rename_i hn;rw[not_or,not_or]at hn;intro k hk;rcases av.1 hk with rfl|hk
   ·omega
   ·have:=ih h k hk;simpa using this
theorem Li{h:Int}{l:List Ez}{i:Nat}{last:Int}{r:List Ez}(hr:VF h l i last r=true):∀x∈r,x.e.hart=h:=by
 induction r generalizing i last with
 |nil=>intro x hx;cases hx
 |cons y r ih=>
  unfold VF at hr;rw[aj,aj,aj]at hr;obtain⟨⟨-,h1, -⟩,h2⟩:=hr;intro x hx;rcases av.1 hx with rfl|hx
  ·exact eq_of_beq h1
  ·split at h2
   ·exact ih h2 x hx
   ·split at h2
    ·rw[aj]at h2;exact ih h2.2 x hx
    ·exact ih h2 x hx
theorem Lg{l:List (Bool×List Ez)}{i:Nat}(h:Jk l i=true):∀j (hj:j<l.length),VF ((i+j:Nat):Int) l[j].2 0 (-1) l[j].2=true:=by
 induction l generalizing i with
 |nil=>intro j hj;simp at hj
 |cons p r ih=>
  unfold Jk at h;rw[aj]at h;intro j hj;cases j with
  |zero=>exact h.1
  |succ j=>
   have:=ih h.2 j (by simpa using hj);simp only[List.getElem_cons_succ];rw[show i+(j+1)=i+1+j by omega];exact this
theorem L6{c:Cz}(h:YC c=true){x:Ez}(hx:x∈Xh c.hs):0≤x.e.hart∧x.e.hart<c.hs.length:=by
 obtain⟨p,hp,hx⟩:=Ue hx;obtain⟨j,hj,rfl⟩:=be hp;unfold YC at h;simp only[aj]at h;have:=Li (Lg h.2.2.1 j hj) x hx;omega
end Go.Proofs.YtbkpmfjfpcoehaaGreatDoor
namespace Go.Proofs.YtbkpmfjfpcoehaaGreatDoor
open Go Go.RowKit Dw
set_option maxRecDepth 100000
theorem TT(z:Bool)(xs:List (Int×Int))(hn:xs.length≤1000000):Xq Tryz.prog 26 [sV z 2 (Y1 xs)] (.row false 70 2 (Y1 xs)):=by
 have h1:xs.length≤maxLen:=by unfold maxLen;omega
 have h2:xs.length*16≤140737488355328:=by omega
 refine Xk (rs:=[.tmp 2]) (Xl _) Tryz.func26 rfl Tryz.ntmps26 rfl (by simp) ?_;refine Wa Xb fun K J=>?_;simp;apply J;clear J K;refine Wa Xb fun K J=>?_;simp[XD,h1,h2];apply J;clear J K;refine Wp.ret ?_;simp
def cU(x:Int):Int:=IntKind.i64.wrap (2*x)
def WF(a b c:List Int)(most:Int):Bool:=decide ((a.length:Int)≤most)&&(decide ((b.length:Int)≤most)&&decide ((c.length:Int)≤most))
theorem UO(z1 z2 z3:Bool)(a b c:List Int)(most:Int):
  Xq Tryz.prog 43 [.agg [.c (.sl z1 1 (Xj a)), .c (.sl z2 1 (Xj b)), .c (.sl z3 1 (Xj c))],iV .i64 most] (.val (bV (WF a b c most))):=by
 unfold WF;refine Xk (rs:=[.tmp 4]) (Xl _) Tryz.func43 rfl Tryz.ntmps43 rfl (by simp) ?_;by_cases h1:(a.length:Int)≤most
 ·by_cases h2:(b.length:Int)≤most
  ·refine Wa Xb fun K J=>?_;simp;apply J;clear J K;refine Wa Xb fun K J=>?_;simp[Xg,h1,h2];apply J;clear J K;refine Wp.ret ?_;simp[h1,h2]
  ·refine Wa Xb fun K J=>?_;simp;apply J;clear J K;refine Wa Xb fun K J=>?_;simp[Xg,h1,h2];apply J;clear J K;refine Wp.ret ?_;simp[h1,h2]
 ·refine Wa Xb fun K J=>?_;simp;apply J;clear J K;refine Wa Xb fun K J=>?_;simp[Xg,h1];apply J;clear J K;refine Wp.ret ?_;simp[h1]
def gLD:List EV→Option (Prop×Yw)
 |[.agg [.c (.sl _z1 1 l1), .c (.sl _z2 1 l2), .c (.sl _z3 1 l3)], .one (.c (.sc (.int .i64 most)))]=>(match unI l1,unI l2,unI l3 with|some a,some b,some c=>some (True, .val (bV (WF a b c most)))|_,_,_=>none)
 |_=>none
def sl1:Dw.Spec:=Xo 43 gLD HH
theorem Vk:XA Tryz.prog sl1:=by
 refine Xp ⟨⟨_,Tryz.func43,rfl,rfl⟩⟩ (fun vs p r h hp=>?_) Xb;unfold gLD at h;split at h
 ·split at h
  ·rename_i a b c ha hb hc;simp only[ab,af]at h;obtain⟨rfl,rfl⟩:=h;rw[Yz ha,Yz hb,Yz hc];exact UO _ _ _ _ _ _ _
  ·cases h
 ·cases h
def Z8(l:List Ez)(most:Int):Bool:=decide ((l.length:Int)≤most)&&l.all fun x=>WF x.e.da x.e.dd x.e.dw 60
theorem Z5(z:Bool)(l:List Ez)(most:Int)(hn:l.length≤1000000∨most≤1000000):
  Xq Tryz.prog 14 [sV z 14 (XS l),iV .i64 most] (.val (bV (Z8 l most))):=by
 generalize hR:Z8 l most=R;refine Xk (rs:=[.tmp 4]) (Xl _) Tryz.func14 rfl Tryz.ntmps14 rfl (by simp) ?_;by_cases h1:(l.length:Int)≤most
 case neg=>
  have h1':most<(l.length:Int):=by omega
  refine Wa Vk fun K J=>?_;simp;apply J;clear J K;refine We fun S Y=>?_;refine Wa Vk fun K J=>?_;simp[Xe,h1'];apply J;clear J K;refine Wt (by simp) ?_;refine Wa Vk fun K J=>?_;simp;apply J;clear J K;refine Wp.ret ?_;simp;rw[←hR];simp[Z8,h1]
 have h1':¬most<(l.length:Int):=by omega
 have hn':l.length≤1000000:=by omega
 refine Wa Vk fun K J=>?_;simp;apply J;clear J K;refine We fun S Y=>?_;refine Wa Vk fun K J=>?_;simp[Xe,h1'];apply J;clear J K;refine Wf (by simp) ?_;refine Wp.skip ?_;apply Y;clear Y S;refine We fun S Y=>?_;refine Wa Vk fun K J=>?_;simp;apply J;clear J K;refine Wp.block ?_;refine Wp.loop (fun k s=>∃i:Nat,i+k=l.length∧s=⟨[(0,sV z 14 (XS l)),(1,iV .i64 most),(4,bV false),(5,iV .i64 i)],[]⟩∧(l.drop i).all (fun x=>WF x.e.da x.e.dd x.e.dw 60)=R)
  l.length (s0:=⟨[(0,sV z 14 (XS l)),(1,iV .i64 most),(4,bV false),(5,iV .i64 (0:Nat))],[]⟩) ?_ ⟨0,by simp,rfl,by rw[←hR];simp[Z8,h1]⟩ fun k s ⟨i,hik,hs,hr⟩=>?_
 ·apply Go1<;>simp
 subst hs;refine We fun S Y=>?_;refine Wa Vk fun K J=>?_;simp[Xe];apply J;clear J K;refine Wp.cond rfl (fun hc=>?_) (fun hc=>?_)
 ·have hi:i<l.length:=by simpa using hc
  have hw:IntKind.i64.wrap ((i:Int)+1)=(i+1:Nat):=by rw[wrap_small]<;>omega
  rw[bj hi,List.all_cons]at hr;cases hf:WF l[i].e.da l[i].e.dd l[i].e.dw 60
  ·refine Wp.skip ?_;apply Y;clear Y S;refine We fun S Y=>?_;refine Wp.block ?_;refine Wa Vk fun K J=>?_;simp[hi,Xe,Xd,Ez.cv,sl1,Xo,gLD,Xa,hf];apply J;clear J K;refine Wt (by simp) ?_;refine Wa Vk fun K J=>?_;simp;apply J;clear J K;refine Wp.ret ?_;simp;rw[←hr,hf];rfl
  ·refine Wp.skip ?_;apply Y;clear Y S;refine We fun S Y=>?_;refine Wp.block ?_;refine Wa Vk fun K J=>?_;simp[hi,Xe,Xd,Ez.cv,sl1,Xo,gLD,Xa,hf];apply J;clear J K;refine Wf (by simp) ?_;refine Wp.skip ?_;apply Y;clear Y S;refine Wb Vk fun K J=>?_;simp[hw];apply J;clear J K;refine⟨⟨[(0,sV z 14 (XS l)),(1,iV .i64 most),(4,bV false),(5,iV .i64 (i+1:Nat))],[]⟩,k - 1,?_,by omega,i+1,by omega,rfl,?_⟩
   ·apply Go1<;>simp
   rw[←hr,hf];rfl
 ·have hi:¬i<l.length:=by simpa using hc
  refine Wp.exit ?_;simp only[XW,XG,if_true];clear Y S;apply Y;clear Y S;refine Wa Vk fun K J=>?_;simp;apply J;clear J K;refine Wp.ret ?_;simp;rw[←hr,cg (by omega)];rfl
def gLE:List EV→Option (Prop×Yw)
 |[.one (.c (.sl _ 14 els)), .one (.c (.sc (.int .i64 most)))]=>(match F9 els with|some l=>some (most≤1000000, .val (bV (Z8 l most)))|none=>none)
 |_=>none
def sl2:Dw.Spec:=Xo 14 gLE sl1
theorem KQ:XA Tryz.prog sl2:=by
 refine Xp ⟨⟨_,Tryz.func14,rfl,rfl⟩⟩ (fun vs p r h hp=>?_) Vk;unfold gLE at h;split at h
 ·split at h
  ·rename_i l hl;simp only[ab,af]at h;obtain⟨rfl,rfl⟩:=h;rw[VC hl];exact Z5 _ _ _ (.inr hp)
  ·cases h
 ·cases h
def Bh:List (Bool×List Ez)→Nat
 |[]=>0
 |p::r=>p.2.length+Bh r
theorem M6{l:List (Bool×List Ez)}{i:Nat}(h:i<l.length):Bh (l.take (i+1))=Bh (l.take i)+l[i].2.length:=by
 rw[ax h];generalize l.take i=m
 induction m with
 |nil=>simp[Bh]
 |cons a r ih=>simp[Bh]at*;omega
def DP(c:Cz):Bool:=((c.hs.take 10).all fun p=>Z8 p.2 30)&&(decide (c.hs.length≤9)&&(decide (Bh c.hs≤30)&&(decide (c.f.length≤30)&&(decide (c.fr.length≤60)&&decide (c.od.length≤60)))))
theorem UP(c:Cz):Xq Tryz.prog 5 [X9 c,iV .i64 30] (.val (bV (DP c))):=by
 generalize hR:DP c=R;unfold X9;refine Xk (rs:=[.tmp 4]) (Xl _) Tryz.func5 rfl Tryz.ntmps5 rfl (by simp) ?_;refine Wa KQ fun K J=>?_;simp;apply J;clear J K;refine Wa KQ fun K J=>?_;simp;apply J;clear J K;refine We fun S Y=>?_;refine Wa KQ fun K J=>?_;simp;apply J;clear J K;refine Wp.block ?_;refine Wp.loop (fun k s=>∃(i:Nat),i+k=10∧i≤c.hs.length∧(∀p∈c.hs.take i,Z8 p.2 30=true)∧Bh (c.hs.take i)≤30*i∧s=⟨[(1,iV .i64 30),(2, .one (.ptr 2 0)),(4,bV false),(5,iV .i64 (Bh (c.hs.take i))),(6,iV .i64 i)],[(2, .box (cB c))]⟩)
  10 (s0:=⟨[(1,iV .i64 30),(2, .one (.ptr 2 0)),(4,bV false),(5,iV .i64 (0:Nat)),(6,iV .i64 (0:Nat))],[(2, .box (cB c))]⟩) ?_ ⟨0,by simp,by simp,by simp,by simp[Bh],rfl⟩ fun k s ⟨i,hik,hil,hall,hsum,hs⟩=>?_
 ·apply Go1<;>simp
 subst hs;by_cases hi:i<c.hs.length
 ·by_cases h10:(i:Int)<10
  ·refine We fun S Y=>?_;refine Wa KQ fun K J=>?_;simp[hi,h10,Xm];apply J;clear J K;refine Wt (by simp) ?_;refine Wp.skip ?_;apply Y;clear Y S;refine We fun S Y=>?_;refine Wp.block ?_;refine We fun S Y=>?_;have hi10:i<10:=by omega
   have hw:IntKind.i64.wrap ((i:Int)+1)=(i+1:Nat):=by rw[wrap_small]<;>omega
   cases hf:Z8 c.hs[i].2 30
   ·refine Wb KQ fun K J=>?_;simp[hi,Xm,Xs,Xe];apply J;clear J K;apply Y;clear Y S;refine Wa KQ fun K J=>?_;simp[hi,Xm,Xs,sl2,Xo,gLE,X4,hf];apply J;clear J K;refine Wt (by simp) ?_;refine Wa KQ fun K J=>?_;simp;apply J;clear J K;refine Wp.ret ?_;simp;have:c.hs[i]∈c.hs.take 10:=by rw[List.mem_take_iff_getElem];exact⟨i,by omega,rfl⟩
    rw[←hR,DP];have:((c.hs.take 10).all fun p=>Z8 p.2 30)=false:=by rw[List.all_eq_false];exact⟨_,this,by simp[hf]⟩
    rw[this];rfl
   ·have hl30:c.hs[i].2.length≤30:=by
     have:=hf;unfold Z8 at this;rw[aj,al]at this;omega
    have hst:=M6 hi;have hws:IntKind.i64.wrap ((Bh (c.hs.take i):Int)+c.hs[i].2.length)=(Bh (c.hs.take (i+1)):Nat):=by rw[wrap_small]<;>omega
    refine Wb KQ fun K J=>?_;simp[hi,Xm,Xs,Xe,hws];apply J;clear J K;apply Y;clear Y S;refine Wa KQ fun K J=>?_;simp[hi,Xm,Xs,sl2,Xo,gLE,X4,hf];apply J;clear J K;refine Wf (by simp) ?_;refine Wp.skip ?_;apply Y;clear Y S;refine Wb KQ fun K J=>?_;simp[hw];apply J;clear J K;refine⟨⟨[(1,iV .i64 30),(2, .one (.ptr 2 0)),(4,bV false),(5,iV .i64 (Bh (c.hs.take (i+1)))),(6,iV .i64 (i+1:Nat))],[(2, .box (cB c))]⟩,k - 1,?_,by omega,i+1,by omega,by omega,?_,by omega,rfl⟩
    ·apply Go1<;>simp
    ·intro p hp;rw[ax hi,co,dm]at hp;rcases hp with hp|rfl
     ·exact hall p hp
     ·exact hf
  ·refine We fun S Y=>?_;refine Wa KQ fun K J=>?_;simp[hi,h10,Xm];apply J;clear J K;refine Wf (by simp) ?_;refine Wp.exit ?_;simp only[XW,XG,if_true];have hlen:¬(c.hs.length:Int)≤9:=by omega
   clear Y S;apply Y;clear Y S;refine Wa KQ fun K J=>?_;simp[hlen,Xm];apply J;clear J K;refine Wp.ret ?_;simp;rw[←hR,DP];have:decide (c.hs.length≤9)=false:=by rw[decide_eq_false_iff_not];omega
   rw[this];simp
 ·obtain rfl:i=c.hs.length:=by omega
  have hlt:¬((c.hs.length:Int)<c.hs.length):=by omega
  refine We fun S Y=>?_;refine Wa KQ fun K J=>?_;simp[hlt,Xm];apply J;clear J K;refine Wf (by simp) ?_;refine Wp.exit ?_;simp only[XW,XG,if_true];rw[jj]at hall hsum;have hall':((c.hs.take 10).all fun p=>Z8 p.2 30)=true:=by rw[ao];exact fun p hp=>hall p (jf hp)
  rw[DP,hall',ce]at hR;by_cases g1:c.hs.length≤9
  case neg=>
   have g1':¬(c.hs.length:Int)≤9:=by omega
   clear Y S;apply Y;clear Y S;refine Wa KQ fun K J=>?_;simp[g1',Xm];apply J;clear J K;refine Wp.ret ?_;simp;rw[←hR];simp[g1]
  have g1':(c.hs.length:Int)≤9:=by omega
  by_cases g2:Bh c.hs≤30
  case neg=>
   have g2':¬(Bh c.hs:Int)≤30:=by omega
   clear Y S;apply Y;clear Y S;refine Wa KQ fun K J=>?_;simp[g1',g2',Xm];apply J;clear J K;refine Wp.ret ?_;simp;rw[←hR];simp[g2]
  have g2':(Bh c.hs:Int)≤30:=by omega
  by_cases g3:c.f.length≤30
  case neg=>
   have g3':¬(c.f.length:Int)≤30:=by omega
   clear Y S;apply Y;clear Y S;refine Wa KQ fun K J=>?_;simp[g1',g2',g3',Xm,XD];apply J;clear J K;refine Wp.ret ?_;simp;rw[←hR];simp[g3]
  have g3':(c.f.length:Int)≤30:=by omega
  by_cases g4:c.fr.length≤60
  case neg=>
   have g4':¬(c.fr.length:Int)≤60:=by omega
   clear Y S;apply Y;clear Y S;refine Wa KQ fun K J=>?_;simp[g1',g2',g3',g4',Xm,XD,Xg,IntKind.wrap,IntKind.bits,IntKind.signed];apply J;clear J K;refine Wp.ret ?_;simp;rw[←hR];simp[g4]
  have g4':(c.fr.length:Int)≤60:=by omega
  clear Y S;apply Y;clear Y S;refine Wa KQ fun K J=>?_;simp[g1',g2',g3',g4',Xm,XD,Xg,IntKind.wrap,IntKind.bits,IntKind.signed];apply J;clear J K;refine Wp.ret ?_;simp;rw[←hR];simp[g1,g2,g3,g4];omega
end Go.Proofs.YtbkpmfjfpcoehaaGreatDoor
namespace Go.Proofs.YtbkpmfjfpcoehaaGreatDoor
open Go Go.RowKit Dw
set_option maxRecDepth 100000
def qW:List EV→Option (Prop×Yw)
 |[.one (.c (.sl _ 1 els))]=>(match unI els with|some xs=>some (xs.length≤1000, .val (sV (decide (xs.length=0)) 1 (Xj (xs.map cU))))|none=>none)
 |_=>none
def S9:List EV→Option (Prop×Yw)
 |[v]=>(match X2 v with|some x=>some (x.e.da.length≤1000000∧x.e.dd.length≤1000000∧x.e.dw.length≤1000000, .val (evV {x with z1:=false,z2:=false,z3:=false}))|none=>none)
 |_=>none
def Wh:List EV→Option (Prop×Yw)
 |[.one (.c (.sl _ 2 els))]=>(match unC els with|some xs=>some (xs.length≤1000000, .val (sV false 2 (Y1 xs)))|none=>none)
 |_=>none
theorem Mb{c:Cz}(h:DP c=true):c.hs.length≤9∧Bh c.hs≤30∧c.f.length≤30∧c.fr.length≤60∧c.od.length≤60∧∀p∈c.hs,p.2.length≤30∧∀x∈p.2,x.e.da.length≤60∧x.e.dd.length≤60∧x.e.dw.length≤60:=by
 unfold DP at h;simp only[aj,al]at h;obtain⟨h1,h2,h3,h4,h5,h6⟩:=h;refine⟨h2,h3,h4,h5,h6,fun p hp=>?_⟩;rw[bp (by omega),ao]at h1;have:=h1 p hp;unfold Z8 at this;rw[aj,al,ao]at this;refine⟨by omega,fun x hx=>?_⟩;have:=this.2 x hx;unfold WF at this;simp only[aj,al]at this;omega
end Go.Proofs.YtbkpmfjfpcoehaaGreatDoor
namespace Go.Proofs.YtbkpmfjfpcoehaaGreatDoor
open Go Go.RowKit
set_option maxRecDepth 100000
theorem lX:(Tryz.prog.info? 3).map (fun i=>(i.zero,i.size,i.bytes))=some (some (.int .i64 0),1,8):=by kernel_rfl
def Ck(da dd dw:List Int)(W:World)(e:Ending)(w':World):Prop:=
 ∃p:tU,e= .returned (.agg #[.slice p.A1 da.length p.c1, .slice p.A2 dd.length p.c2, .slice p.A3 dw.length p.c3])∧Below W.heap.size W w'∧Zm w' W.heap.size p.A1 da∧Zm w' W.heap.size p.A2 dd∧(Zm w' W.heap.size p.A3 dw∧(da.length≤p.c1∧p.A1.isSome=true)∧(dd.length≤p.c2∧p.A2.isSome=true)∧(dw.length≤p.c3∧p.A3.isSome=true))
def cv(w:World)(g j:Nat):Value:=(w.cell? ⟨g,j,none⟩).getD undef
theorem RQ{w:World}{g j:Nat}(h:(w.cell? ⟨g,j,none⟩).isSome=true):w.cell? ⟨g,j,none⟩=some (cv w g j):=by
 unfold cv;cases hc:w.cell? ⟨g,j,none⟩with
 |none=>rw[hc]at h;cases h
 |some v=>rfl
abbrev KA(w:World)(A1 A2 A3:Option Addr)(da dd dw:List Int)(c1 c2 c3:Nat)(w':World):Prop:=
 w'.cell? ⟨w.heap.size,0,none⟩=some (.slice A1 da.length c1)∧w'.cell? ⟨w.heap.size,1,none⟩=some (.slice A2 dd.length c2)∧w'.cell? ⟨w.heap.size,2,none⟩=some (.slice A3 dw.length c3)∧Below w.heap.size w w'∧w.heap.size+1<w'.heap.size∧
 w'.cell? ⟨w.heap.size+1,0,none⟩=some (cv w' (w.heap.size+1) 0)∧w'.cell? ⟨w.heap.size+1,1,none⟩=some (cv w' (w.heap.size+1) 1)∧w'.cell? ⟨w.heap.size+1,2,none⟩=some (cv w' (w.heap.size+1) 2)∧
 w'.frozen? ⟨w.heap.size+1,0,none⟩=false∧w'.frozen? ⟨w.heap.size+1,1,none⟩=false∧w'.frozen? ⟨w.heap.size+1,2,none⟩=false
theorem KA.more{w2:World}{w w1:World}{A1 A2 A3:Option Addr}{da dd dw:List Int}{c1 c2 c3:Nat}(h:KA w A1 A2 A3 da dd dw c1 c2 c3 w1)(g:Below w1.heap.size w1 w2):KA w A1 A2 A3 da dd dw c1 c2 c3 w2:=by
 obtain⟨h1,h2,h3,h4,h5,h6,h7,h8,h9,h10,h11⟩:=h;have k0:∀j,w2.cell? ⟨w.heap.size,j,none⟩=w1.cell? ⟨w.heap.size,j,none⟩:=fun j=>g.cell (p:=⟨_,_,none⟩) (show w.heap.size<w1.heap.size by omega);have k1:∀j,w2.cell? ⟨w.heap.size+1,j,none⟩=w1.cell? ⟨w.heap.size+1,j,none⟩:=fun j=>g.cell (p:=⟨_,_,none⟩) h5;have k2:∀j,w2.frozen? ⟨w.heap.size+1,j,none⟩=w1.frozen? ⟨w.heap.size+1,j,none⟩:=fun j=>g.frozen (p:=⟨_,_,none⟩) h5;exact⟨(k0 _).trans h1,(k0 _).trans h2,(k0 _).trans h3,GY h4 g,bq h5 g.size,RQ (by rw[k1,h6];rfl),RQ (by rw[k1,h7];rfl),RQ (by rw[k1,h8];rfl),(k2 _).trans h9,(k2 _).trans h10,(k2 _).trans h11⟩
theorem KA.alloc{w w1:World}{A1 A2 A3:Option Addr}{da dd dw:List Int}{c1 c2 c3:Nat}(h:KA w A1 A2 A3 da dd dw c1 c2 c3 w1)(o:Obj):KA w A1 A2 A3 da dd dw c1 c2 c3 (w1.alloc o):=h.more ((bg _ _).alloc (ak _) o)
theorem KA.drew{w w1:World}{A1 A2 A3:Option Addr}{da dd dw:List Int}{c1 c2 c3:Nat}(h:KA w A1 A2 A3 da dd dw c1 c2 c3 w1):KA w A1 A2 A3 da dd dw c1 c2 c3 w1.drew:=h.more (below_drewN (bg _ _) 1)
theorem KA.set{w w1:World}{A1 A2 A3:Option Addr}{da dd dw:List Int}{c1 c2 c3:Nat}(h:KA w A1 A2 A3 da dd dw c1 c2 c3 w1)(j:Nat)(v:Value):KA w A1 A2 A3 da dd dw c1 c2 c3 (w1.setCell ⟨w.heap.size+1,j,none⟩ v):=by
 obtain⟨h1,h2,h3,h4,h5,h6,h7,h8,h9,h10,h11⟩:=h;have k0:∀i,(w1.setCell ⟨w.heap.size+1,j,none⟩ v).cell? ⟨w.heap.size,i,none⟩=w1.cell? ⟨w.heap.size,i,none⟩:=fun i=>eb _ _ _ _ (by intro e;injection e with e;omega);have k1:∀i u,w1.cell? ⟨w.heap.size+1,i,none⟩=some u→((w1.setCell ⟨w.heap.size+1,j,none⟩ v).cell? ⟨w.heap.size+1,i,none⟩).isSome=true:=fun i u hu=>by
  by_cases hij:i=j
  ·subst hij;rw[jk _ _ _ hu];rfl
  ·rw[eb _ _ _ _ (by intro e;injection e with _ e;exact hij e.symm),hu];rfl
 exact⟨(k0 _).trans h1,(k0 _).trans h2,(k0 _).trans h3,h4.setCell (Nat.le_succ _) v,by simpa using h5,RQ (k1 _ _ h6),RQ (k1 _ _ h7),RQ (k1 _ _ h8),by simpa using h9,by simpa using h10,by simpa using h11⟩
theorem KA.base(w:World)(A1 A2 A3:Option Addr)(da dd dw:List Int)(c1 c2 c3:Nat)(t t':TypeId)(x y z:Value):KA w A1 A2 A3 da dd dw c1 c2 c3 ((w.alloc (.cells #[.slice A1 da.length c1, .slice A2 dd.length c2, .slice A3 dw.length c3] t)).alloc (.cells #[x,y,z] t')):=
 ⟨by simp,by simp,by simp,((bg _ _).alloc (ak _) _).alloc (by simp) _,by simp,RQ (by simp),RQ (by simp),RQ (by simp),by simp,by simp,by simp⟩
theorem dE{w:World}{g:Nat}{x y z u:Value}(h:w.cell? ⟨g,0,none⟩=some u):(((w.setCell ⟨g,0,none⟩ x).setCell ⟨g,1,none⟩ y).setCell ⟨g,2,none⟩ z).cell? ⟨g,0,none⟩=some x:=by
 rw[eb _ _ _ _ (by simp),eb _ _ _ _ (by simp),jk _ _ _ h]
theorem dD{w:World}{g:Nat}{x y z u:Value}(h:w.cell? ⟨g,1,none⟩=some u):(((w.setCell ⟨g,0,none⟩ x).setCell ⟨g,1,none⟩ y).setCell ⟨g,2,none⟩ z).cell? ⟨g,1,none⟩=some y:=by
 rw[eb _ _ _ _ (by simp),jk _ _ _ (by rw[eb _ _ _ _ (by simp)];exact h)]
theorem dC{w:World}{g:Nat}{x y z u:Value}(h:w.cell? ⟨g,2,none⟩=some u):(((w.setCell ⟨g,0,none⟩ x).setCell ⟨g,1,none⟩ y).setCell ⟨g,2,none⟩ z).cell? ⟨g,2,none⟩=some z:=by
 rw[jk _ _ _ (by rw[eb _ _ _ _ (by simp),eb _ _ _ _ (by simp)];exact h)]
theorem OH(da dd dw:List Int)(A1 A2 A3:Option Addr)(c1 c2 c3:Nat)(w:World)(h1:da.length≤120)(h2:dd.length≤120)(h3:dw.length≤120)
  (i1:PE w w.heap.size A1 da) (i2:PE w w.heap.size A2 dd) (i3:PE w w.heap.size A3 dw):
  Calls Tryz.prog 45 #[.agg #[.slice A1 da.length c1, .slice A2 dd.length c2, .slice A3 dw.length c3]] w (Ck da dd dw w):=by
 obtain⟨i,hi,hz,hsz,hby⟩:=info_parts lX;have I:=Lib.hid (And.intro i1 (And.intro i2 i3));clear i1 i2 i3;have T:=Lib.hid (And.intro hi (And.intro hz (And.intro hsz hby)));clear hi hz hsz hby
 go_enter Tryz.func45,Tryz.ntmps45
 go_wp2_with fail
 go_region_held3 (KA w A1 A2 A3 da dd dw c1 c2 c3)
  ((repeat(first|assumption|with_reducible exact KA.base .. |with_reducible refine KA.drew ?_|with_reducible refine KA.alloc ?_ _|with_reducible refine KA.set ?_ _ _)))
  ((first
   |(refine KU (by rfl) (.tmp 3) (.tmp 5) 24 (by rfl) 3 i (.int .i64 0) 1 8 Tryz.underlying24 T.out.1 T.out.2.1 T.out.2.2.1 T.out.2.2.2 rfl _ (by rfl) A1 da.length c1 _ (by rfl) (PE.src (I.out.1.keep (GU ‹KA w A1 A2 A3 da dd dw c1 c2 c3 _›.2.2.2.1 (ak _)))) (by unfold maxLen;omega) (by omega) ?_;intro P1 d1 w1 hb1 hle1 hg1;have hS1:=KA.more ‹KA w A1 A2 A3 da dd dw c1 c2 c3 _› hb1;have hI1:=(Rt hg1).low (lo':=w.heap.size+2) ‹KA w A1 A2 A3 da dd dw c1 c2 c3 _›.2.2.2.2.1;clear hg1)
   |(refine KU (by rfl) (.tmp 7) (.tmp 9) 24 (by rfl) 3 i (.int .i64 0) 1 8 Tryz.underlying24 T.out.1 T.out.2.1 T.out.2.2.1 T.out.2.2.2 rfl _ (by rfl) A2 dd.length c2 _ (by rfl) (PE.src (I.out.2.1.keep (GU ‹KA w A1 A2 A3 da dd dw c1 c2 c3 _›.2.2.2.1 (ak _)))) (by unfold maxLen;omega) (by omega) ?_;intro P2 d2 w2 hb2 hle2 hg2;have hS2:=KA.more ‹KA w A1 A2 A3 da dd dw c1 c2 c3 _› hb2;have hI2:=(Rt hg2).low (lo':=w.heap.size+2) ‹KA w A1 A2 A3 da dd dw c1 c2 c3 _›.2.2.2.2.1;clear hg2;have hJ1:=hI1.below (GY (by(repeat(first|with_reducible exact bg _ _|with_reducible refine GZ ?_|with_reducible refine Hy ?_ _))) hb2))
   |(refine KU (by rfl) (.tmp 11) (.tmp 13) 24 (by rfl) 3 i (.int .i64 0) 1 8 Tryz.underlying24 T.out.1 T.out.2.1 T.out.2.2.1 T.out.2.2.2 rfl _ (by rfl) A3 dw.length c3 _ (by rfl) (PE.src (I.out.2.2.keep (GU ‹KA w A1 A2 A3 da dd dw c1 c2 c3 _›.2.2.2.1 (ak _)))) (by unfold maxLen;omega) (by omega) ?_;intro P3 d3 w3 hb3 hle3 hg3;have hS3:=KA.more ‹KA w A1 A2 A3 da dd dw c1 c2 c3 _› hb3;have hI3:=(Rt hg3).low (lo':=w.heap.size+2) ‹KA w A1 A2 A3 da dd dw c1 c2 c3 _›.2.2.2.2.1;clear hg3;have hK1:=hJ1.below (GY (by(repeat(first|with_reducible exact bg _ _|with_reducible refine GZ ?_|with_reducible refine Hy ?_ _))) hb3);have hK2:=hI2.below (GY (by(repeat(first|with_reducible exact bg _ _|with_reducible refine GZ ?_|with_reducible refine Hy ?_ _))) hb3))))
 all_goals go_wp2
 all_goals
  have hF:=((hS3.set 0 (.slice P1 da.length d1)).set 1 (.slice P2 dd.length d2)).set 2 (.slice P3 dw.length d3);have hF1:=((hK1.set (g:=w.heap.size+1) (j:=0) (v:= .slice P1 da.length d1) (by omega)).set (g:=w.heap.size+1) (j:=1) (v:= .slice P2 dd.length d2) (by omega)).set (g:=w.heap.size+1) (j:=2) (v:= .slice P3 dw.length d3) (by omega);have hF2:=((hK2.set (g:=w.heap.size+1) (j:=0) (v:= .slice P1 da.length d1) (by omega)).set (g:=w.heap.size+1) (j:=1) (v:= .slice P2 dd.length d2) (by omega)).set (g:=w.heap.size+1) (j:=2) (v:= .slice P3 dw.length d3) (by omega);have hF3:=((hI3.set (g:=w.heap.size+1) (j:=0) (v:= .slice P1 da.length d1) (by omega)).set (g:=w.heap.size+1) (j:=1) (v:= .slice P2 dd.length d2) (by omega)).set (g:=w.heap.size+1) (j:=2) (v:= .slice P3 dw.length d3) (by omega);obtain⟨_,_,_,_,_,q1,q2,q3,_⟩:=hS3;have r0:(((w3.setCell {block:=w.heap.size+1,off:=0} (Value.slice P1 da.length d1)).setCell {block:=w.heap.size+1,off:=1} (Value.slice P2 dd.length d2)).setCell {block:=w.heap.size+1,off:=2} (Value.slice P3 dw.length d3)).cell? ⟨w.heap.size+1,0,none⟩=some (.slice P1 da.length d1):=dE q1;have r1:(((w3.setCell {block:=w.heap.size+1,off:=0} (Value.slice P1 da.length d1)).setCell {block:=w.heap.size+1,off:=1} (Value.slice P2 dd.length d2)).setCell {block:=w.heap.size+1,off:=2} (Value.slice P3 dw.length d3)).cell? ⟨w.heap.size+1,1,none⟩=some (.slice P2 dd.length d2):=dD q2;have r2:(((w3.setCell {block:=w.heap.size+1,off:=0} (Value.slice P1 da.length d1)).setCell {block:=w.heap.size+1,off:=1} (Value.slice P2 dd.length d2)).setCell {block:=w.heap.size+1,off:=2} (Value.slice P3 dw.length d3)).cell? ⟨w.heap.size+1,2,none⟩=some (.slice P3 dw.length d3):=dC q3;exact bodyPost_ret (v:= .agg #[.slice P1 da.length d1, .slice P2 dd.length d2, .slice P3 dw.length d3]) (by simp[results,go_sem,r0,r1,r2]) rfl ⟨⟨P1,P2,P3,d1,d2,d3⟩,rfl,hF.2.2.2.1,hF1.low (by omega),hF2.low (by omega),⟨hF3.low (by omega),hle1,hle2,hle3⟩⟩
theorem S7{α:Type}{l:List α}{k:Nat}(hk:k<l.length)(d:α):l.getD k d=l[k]:=by rw[ac,aa hk];rfl
def G2(es:List Ev)(od:List Int)(i:Nat):Bool:=
 decide (0≤od.getD i 0∧od.getD i 0<es.length)&&(decide (∀j,j<i→od.getD j 0≠od.getD i 0)&&(es.getD (od.getD i 0).toNat default).mem)
def X0(es:List Ev):Nat:=(es.filter Ev.mem).length
def XV(c:Cd):Bool:=
 KI c.first&&(decide (1≤c.harts.length∧c.harts.length≤8)&&((List.range c.harts.length).all (fun i=>Z2 i (c.harts.getD i []))&&
  (decide (c.from_.length=c.harts.flatten.length)&&((List.range c.harts.flatten.length).all (Ve c.first c.from_ c.harts.flatten)&&
   ((List.range c.order.length).all (G2 c.harts.flatten c.order)&&decide (c.order.length=X0 c.harts.flatten))))))
theorem Rf{es:List Ev}{k:Nat}(hk:k<es.length):X0 (es.take (k+1))=X0 (es.take k)+if(es.getD k default).mem=true then 1 else 0:=by
 unfold X0;rw[ax hk,gk,az,S7 hk]
 congr 1
 cases h:es[k].mem<;>simp[h]
theorem Q3(es:List Ev)(k:Nat):X0 (es.take k)≤es.length:=by
 unfold X0;exact bd (gm _ _) (List.length_take_le' _ _)
structure gM(c:Cd):Prop where
 harts:∀k,k<c.harts.length→Few (c.harts.getD k [])∧(c.harts.getD k []).length≤1000
 n:c.harts.length≤1000
 all:c.harts.flatten.length≤1000
 first:c.first.length≤1000
 from_:c.from_.length≤1000
 order:c.order.length≤1000
end Go.Proofs.YtbkpmfjfpcoehaaGreatDoor
namespace Go.Proofs.YtbkpmfjfpcoehaaGreatDoor
open Go Go.RowKit Dw
set_option maxRecDepth 100000
section
section
variable {w:World} {N:Nat→Prop}
theorem lG{z:Bool}{esz:Nat}{els:List (List Cv)}{u:Value}(h:XH w N (.sl z esz els) u):
  ∃A cap,u= .slice A els.length cap∧∀i j c,Dw.cellAt els i j=some c→∃a v,A=some a∧N a.block∧w.cell? (a.add (i*esz+j))=some v∧XH w N c v:=by
 cases h with
 |nil=>exact⟨none,0,rfl,fun i j c h=>by simp[Dw.cellAt]at h⟩
 | @sl a len cap _ _ us hl hcap hz hc hr=>
  refine⟨some a,cap,by rw[hl],fun i j c h=>?_⟩;obtain⟨h1,h2⟩:=hc i j c h;exact⟨a,us i j,rfl,h1,h2,hr i j c h⟩
theorem Mv{α:Type}{f:α→List Cv}{l:List α}{i j:Nat}{c:Cv}(hi:i<l.length)(h:(f l[i])[j]? =some c):Dw.cellAt (l.map f) i j=some c:=by
 unfold Dw.cellAt;rw[an,aa hi];exact h
theorem FP{B:Nat}(hN:∀g,N g→g<B){z:Bool}{xs:List Int}{u:Value}(h:XH w N (.sl z 1 (Xj xs)) u):∃A c,u= .slice A xs.length c∧PE w B A xs:=by
 obtain⟨A,cap,rfl,hc⟩:=lG h;refine⟨A,cap,by rw[Xg],fun i hi=>?_⟩;obtain⟨a,v,rfl,h1,h2,h3⟩:=hc i 0 (.sc (.int .i64 xs[i])) (Mv hi rfl);refine⟨a,rfl,hN _ h1,fun j u hu=>?_⟩
 match j with
 |0=>
  simp only[cj,ab]at hu;subst hu;cases h3;rw[h2,ac,aa hi];rfl
 |j+1=>simp at hu
def Yr(c:Cz):Cd:=⟨c.f,c.hs.map fun p=>p.2.map Ez.e,c.fr,c.od⟩
end
theorem gC{c:Cz}(h:GI c):gM (Yr c):=by
 have hfl:(Yr c).harts.flatten=(Xh c.hs).map Ez.e:=by
  unfold Yr Xh;simp only[gz,fu];rfl
 refine⟨fun k hk=>?_,by simpa[Yr]using h.hs,by rw[hfl];simpa using h.all,h.f,h.fr,h.od⟩;have hk':k<c.hs.length:=by simpa[Yr]using hk
 have hg:(Yr c).harts.getD k []=c.hs[k].2.map Ez.e:=by simp[Yr,aa hk']
 rw[hg];refine⟨fun i hi=>?_,?_⟩
 ·rw[ai]at hi;have:(c.hs[k].2.map Ez.e).getD i default=c.hs[k].2[i].e:=by simp[aa hi]
  rw[this];exact(h.ev _ (ba hk') _ (ba hi)).2
 ·rw[ai];have hle:=Jb c.hs (k+1);have:=ee List.length (Yy hk');rw[az]at this;have:=h.all;omega
end
theorem Ru{w:World}{lo:Nat}{M:Nat→Prop}(hM:∀g,lo≤g→M g){A:Option Addr}{xs:List Int}{c:Nat}(h:Zm w lo A xs)(hc:xs.length≤c)(hA:A.isSome=true):
  XH w (fun g=>g<w.heap.size∧M g) (.sl false 1 (Xj xs)) (.slice A xs.length c):=by
 obtain⟨a,rfl⟩:=Option.isSome_iff_exists.1 hA;have at_:∀i j c,Dw.cellAt (Xj xs) i j=some c→∃(hi:i<xs.length),j=0∧c= .sc (.int .i64 xs[i]):=by
  intro i j c hc;unfold Dw.cellAt at hc;rw[Xj,an]at hc;cases hq:xs[i]? with
  |none=>rw[hq]at hc;cases hc
  |some y=>
   obtain⟨hi,rfl⟩:=ah.1 hq;rw[hq]at hc
   match j with
   |0=>simp at hc;exact⟨hi,rfl,hc.symm⟩
   |j+1=>simp at hc
 refine .sl (fun i _=> .int .i64 (xs.getD i 0)) (Xg xs) hc (fun i es he=>?_) (fun i j c hcc=>?_) (fun i j c hcc=>?_)
 ·rw[Xj,an]at he;cases hq:xs[i]? with
  |none=>rw[hq]at he;cases he
  |some y=>rw[hq]at he;injection he with he;subst he;rfl
 ·obtain⟨hi,rfl,rfl⟩:=at_ i j c hcc;obtain⟨a',e,hb,hcell⟩:=h.1.at_ hi;injection e with e;subst e;obtain⟨a'',e,hlo⟩:=h.2 (by omega);injection e with e;subst e;exact⟨⟨hb,hM _ hlo⟩,by rw[show i*1+0=i by omega];exact hcell⟩
 ·obtain⟨hi,rfl,rfl⟩:=at_ i j c hcc;have:xs.getD i 0=xs[i]:=by rw[ac,aa hi];rfl
  rw[this];exact .sc rfl
theorem Da(z1 z2 z3:Bool)(a b c:List Int)(h1:a.length≤120)(h2:b.length≤120)(h3:c.length≤120):
  Xq Tryz.prog 45 [.agg [.c (.sl z1 1 (Xj a)), .c (.sl z2 1 (Xj b)), .c (.sl z3 1 (Xj c))]] (.val (.agg [.c (.sl false 1 (Xj a)), .c (.sl false 1 (Xj b)), .c (.sl false 1 (Xj c))])):=by
 intro M w us hM hu;obtain⟨l⟩:=us
 match l,hu with
 |[u],hu=>
  have e0:=hu.2 0 _ u rfl rfl;cases e0 with
  | @agg _ us h=>
   obtain⟨l⟩:=us
   match l,h with
   |[u1,u2,u3],h=>
    have hN:∀g,g<w.heap.size∧M g→g<w.heap.size:=fun g h=>h.1;obtain⟨A1,c1,rfl,i1⟩:=FP hN (show XH w _ (.sl z1 1 (Xj a)) u1 from h.2 0 _ u1 rfl rfl);obtain⟨A2,c2,rfl,i2⟩:=FP hN (show XH w _ (.sl z2 1 (Xj b)) u2 from h.2 1 _ u2 rfl rfl);obtain⟨A3,c3,rfl,i3⟩:=FP hN (show XH w _ (.sl z3 1 (Xj c)) u3 from h.2 2 _ u3 rfl rfl);refine(OH a b c A1 A2 A3 c1 c2 c3 w h1 h2 h3 i1 i2 i3).mono ?_;rintro e w' ⟨p,rfl,hb,j1,j2,j3,k1,k2,k3⟩;exact⟨_,rfl,hb, .agg (.cons (Ru hM j1 k1.1 k1.2) (.cons (Ru hM j2 k2.1 k2.2) (.cons (Ru hM j3 k3.1 k3.2) .nil)))⟩
end Go.Proofs.YtbkpmfjfpcoehaaGreatDoor
namespace Go.Proofs.YtbkpmfjfpcoehaaGreatDoor
open Go Go.RowKit Dw
set_option maxRecDepth 100000
def Wi:List EV→Option (Prop×Yw)
 |[.agg [.c (.sl _ 1 l1), .c (.sl _ 1 l2), .c (.sl _ 1 l3)]]=>(match unI l1,unI l2,unI l3 with|some a,some b,some c=>some (a.length≤120∧b.length≤120∧c.length≤120, .val (.agg [.c (.sl false 1 (Xj a)), .c (.sl false 1 (Xj b)), .c (.sl false 1 (Xj c))]))|_,_,_=>none)
 |_=>none
def sy1:Dw.Spec:=Xo 45 Wi HH
theorem YD:XA Tryz.prog sy1:=by
 refine Xp ⟨⟨_,Tryz.func45,rfl,rfl⟩⟩ (fun vs p r h hp=>?_) Xb;unfold Wi at h;split at h
 ·split at h
  ·rename_i a b c ha hb hc;simp only[ab,af]at h;obtain⟨rfl,rfl⟩:=h;rw[Yz ha,Yz hb,Yz hc];exact Da _ _ _ _ _ _ hp.1 hp.2.1 hp.2.2
  ·cases h
 ·cases h
def fzE(x:Ez):Ez:={x with z1:=false,z2:=false,z3:=false}
def KM(hs:List (Bool×List Ez)):List Ez:=(Xh hs).map fzE
theorem AO(hs:List (Bool×List Ez)):(KM hs).map Ez.e=(Xh hs).map Ez.e:=by simp[KM,fzE,Function.comp_def]
def flU(hs:List (Bool×List Ez))(i j:Nat):List Ez:=(Xh (hs.take i)++(hs.getD i (true,[])).2.take j).map fzE
def flZ(hs:List (Bool×List Ez))(i j:Nat):Bool:=decide ((flU hs i j).length=0)
theorem Fz{hs:List (Bool×List Ez)}{i:Nat}(hi:i<hs.length):hs.getD i (true,[])=hs[i]:=by rw[ac,aa hi];rfl
theorem IM{hs:List (Bool×List Ez)}{i j:Nat}(hi:i<hs.length)(hj:j<hs[i].2.length):XS (flU hs i (j+1))=XS (flU hs i j)++[(fzE hs[i].2[j]).cv]:=by
 unfold flU;rw[Fz hi,ax hj,←fg,dx];unfold XS;rw[dx];rfl
theorem AQ{hs:List (Bool×List Ez)}{i j:Nat}(hi:i<hs.length)(hj:j=hs[i].2.length):flU hs i j=flU hs (i+1) 0:=by
 unfold flU;rw[Fz hi,hj,jj,←Yy hi,List.take_zero,ez]
theorem AR(hs:List (Bool×List Ez)):flU hs hs.length 0=KM hs:=by
 unfold flU KM;rw[jj,List.take_zero,ez]
theorem WD(hs:List (Bool×List Ez)):flU hs 0 0=[]:=by simp[flU,Xh]
theorem fE{hs:List (Bool×List Ez)}{i j:Nat}(hi:i<hs.length)(hj:j≤hs[i].2.length):(flU hs i j).length≤(Xh hs).length:=by
 unfold flU;rw[Fz hi];have:=Jb hs (i+1);have h2:=ee List.length (Yy hi);simp at h2⊢;omega
theorem qo{hs:List (Bool×List Ez)}{i j:Nat}(hi:i<hs.length)(hj:j<hs[i].2.length):flZ hs i (j+1)=false:=by
 have:=ee List.length (IM hi hj);rw[az,Xe,Xe]at this;unfold flZ;rw[decide_eq_false_iff_not];simp at this;omega
theorem U8(c:Cz)(hc0:GI c):Xq Tryz.prog 17 [X9 c] (.row (decide ((Xh c.hs).length=0)) 38 14 (XS (KM c.hs))):=by
 have b2:=hc0.hs;have b3:=hc0.all;have bev:∀p∈c.hs,∀x∈p.2,VR x.e:=fun p hp x hx=>(hc0.ev p hp x hx).2;have hz0:decide ((Xh c.hs).length=0)=flZ c.hs c.hs.length 0:=by unfold flZ;rw[AR,KM,ai]
 rw[hz0,←AR];unfold X9;refine Xk (rs:=[.tmp 2]) (Xl _) Tryz.func17 rfl Tryz.ntmps17 rfl (by simp) ?_;refine We fun S Y=>?_
 first|refine Wa YD fun K J=>?_|refine Wb YD fun K J=>?_|refine Wc YD [] fun K J=>?_|refine Wd YD [] fun K J=>?_
 simp;apply J;clear J K;apply Y;clear Y S;refine Wp.frzBox (b:=1) (cs:=c.cv) rfl rfl ?_;change Wp _ _ _ _ (⟨[(0,X9 c),(1,cA c),(2,sV true 0 [])],[]⟩:St);refine Wa YD fun K J=>?_;simp;apply J;clear J K;refine We fun S Y=>?_;refine Wa YD fun K J=>?_;simp;apply J;clear J K;refine Wp.block ?_;refine Wp.loop (fun k s=>∃i:Nat,i+k=c.hs.length∧s=⟨[(1,cA c),(2,sV true 0 []),(3, .one (.own 3)),(4,iV .i64 i)],[(3, .row (flZ c.hs i 0) 38 14 (XS (flU c.hs i 0)))]⟩)
  c.hs.length (s0:=⟨[(1,cA c),(2,sV true 0 []),(3, .one (.own 3)),(4,iV .i64 (0:Nat))],[(3, .row true 38 14 [])]⟩) ?_ ⟨0,by simp,by rw[WD];rfl⟩ fun kk s ⟨i,hik,hs⟩=>?_
 ·refine .trans (.adopt (t:=3) (b:=3) rfl rfl 38 14) ?_;apply Go1<;>simp
 subst hs;refine We fun S Y=>?_;refine Wa YD fun K J=>?_;simp[Xm];apply J;clear J K;refine Wp.cond rfl (fun hc=>?_) (fun hc=>?_)
 ·have hi:i<c.hs.length:=by simpa using hc
  have hwi:IntKind.i64.wrap ((i:Int)+1)=(i+1:Nat):=by rw[wrap_small]<;>omega
  have hrl:c.hs[i].2.length≤1000:=by
   have:=Jb c.hs (i+1);have h2:=ee List.length (Yy hi);rw[az]at h2;omega
  refine Wp.skip ?_;apply Y;clear Y S;refine We fun S Y=>?_;refine Wp.block ?_;refine Wa YD fun K J=>?_;simp;apply J;clear J K;refine Wp.block ?_;refine Wp.loop (fun k s=>∃j:Nat,j+k=c.hs[i].2.length∧s=⟨[(1,cA c),(2,sV true 0 []),(3, .one (.own 3)),(4,iV .i64 i),(5,iV .i64 j)],[(3, .row (flZ c.hs i j) 38 14 (XS (flU c.hs i j)))]⟩)
   c.hs[i].2.length (s0:=⟨[(1,cA c),(2,sV true 0 []),(3, .one (.own 3)),(4,iV .i64 i),(5,iV .i64 (0:Nat))],[(3, .row (flZ c.hs i 0) 38 14 (XS (flU c.hs i 0)))]⟩) ?_ ⟨0,by simp,rfl⟩ fun k s ⟨j,hjk,hs⟩=>?_
  ·apply Go1<;>simp
  subst hs;refine We fun S Y=>?_;refine Wa YD fun K J=>?_;simp[hi,Xm,Xs,Xe];apply J;clear J K;refine Wp.cond rfl (fun hc=>?_) (fun hc=>?_)
  ·have hj:j<c.hs[i].2.length:=by simpa using hc
   have hwj:IntKind.i64.wrap ((j:Int)+1)=(j+1:Nat):=by rw[wrap_small]<;>omega
   obtain⟨q1,q2,q3⟩:=bev _ (ba hi) _ (ba hj);have hlm:=fE hi (fx hj);have hl1:(flU c.hs i j).length+1≤maxLen:=by unfold maxLen;omega
   have hl2:((flU c.hs i j).length+1)*152≤140737488355328:=by omega
   refine Wp.skip ?_;apply Y;clear Y S;refine We fun S Y=>?_;refine Wp.block ?_;refine We fun S Y=>?_
   first|refine Wa YD fun K J=>?_|refine Wb YD fun K J=>?_|refine Wc YD [] fun K J=>?_|refine Wd YD [] fun K J=>?_
   simp[hi,hj,Xm,Xs,Xe,Xd,Ez.cv];apply J;clear J K;apply Y;clear Y S;refine We fun S Y=>?_
   first|refine Wa YD fun K J=>?_|refine Wb YD fun K J=>?_|refine Wc YD [] fun K J=>?_|refine Wd YD [] fun K J=>?_
   simp[sy1,Xo,Wi,Xa,q1,q2,q3];apply J;clear J K;apply Y;clear Y S
   first|refine Wa YD fun K J=>?_|refine Wb YD fun K J=>?_|refine Wc YD [] fun K J=>?_|refine Wd YD [] fun K J=>?_
   simp[hl1,hl2,Xe];apply J;clear J K;apply Y;clear Y S
   first|refine Wa YD fun K J=>?_|refine Wb YD fun K J=>?_|refine Wc YD [] fun K J=>?_|refine Wd YD [] fun K J=>?_
   simp[hwj];apply J;clear J K;refine⟨⟨[(1,cA c),(2,sV true 0 []),(3, .one (.own 3)),(4,iV .i64 i),(5,iV .i64 (j+1:Nat))],[(3, .row (flZ c.hs i (j+1)) 38 14 (XS (flU c.hs i (j+1))))]⟩,k - 1,?_,by omega,j+1,by omega,rfl⟩;rw[IM hi hj,qo hi hj];apply Go1<;>simp[Ez.cv,fzE]
  ·have hj:¬j<c.hs[i].2.length:=by simpa using hc
   have hj0:j=c.hs[i].2.length:=by omega
   have e1:flZ c.hs i j=flZ c.hs (i+1) 0:=by unfold flZ;rw[AQ hi hj0]
   refine Wp.exit ?_;simp only[XW,XG,if_true];rw[AQ hi hj0,e1];clear hc hj hjk hj0 e1;clear Y S;apply Y;clear Y S;refine Wb YD fun K J=>?_;simp[hwi];apply J;clear J K;refine⟨⟨[(1,cA c),(2,sV true 0 []),(3, .one (.own 3)),(4,iV .i64 (i+1:Nat))],[(3, .row (flZ c.hs (i+1) 0) 38 14 (XS (flU c.hs (i+1) 0)))]⟩,kk - 1,?_,by omega,i+1,by omega,rfl⟩;apply Go1<;>simp
 ·have hi:¬i<c.hs.length:=by simpa using hc
  obtain rfl:i=c.hs.length:=by omega
  refine Wp.exit ?_;simp only[XW,XG,if_true];clear Y S;apply Y;clear Y S;refine Wa YD fun K J=>?_;simp;apply J;clear J K;refine Wp.ret ?_;simp
def Vd:List EV→Option (Prop×Yw)
 |[.one (.c (.sl _ 2 els))]=>(match unC els with|some xs=>some (xs.length≤1000000, .val (bV (KI xs)))|none=>none)
 |_=>none
def Ek:List EV→Option (Prop×Yw)
 |[.one (.c (.sc (.int .i64 h))), .one (.c (.sl _ 14 els))]=>(match F9 els with|some l=>some (l.length≤1000∧∀x∈l,VR x.e, .val (iV .i64 (Mc (Z2 h (l.map Ez.e)))))|none=>none)
 |_=>none
def Gw:List EV→Option (Prop×Yw)
 |[v]=>(match Kn v with|some c=>some (GI c, .val (sV (decide ((Xh c.hs).length=0)) 14 (XS (KM c.hs))))|none=>none)
 |_=>none
def H6:List EV→Option (Prop×Yw)
 |[v, .one (.c (.sl _ 14 els)), .one (.c (.sc (.int .i64 n)))]=>(match Kn v,F9 els with
  |some c,some l=>some (0≤n∧n<l.length∧c.fr.length=l.length∧l.length≤1000∧c.f.length≤1000000, .val (bV (Ve c.f c.fr (l.map Ez.e) n.toNat)))
  |_,_=>none)
 |_=>none
def sm2:Dw.Spec:=Xo 15 Vd (Xo 16 Ek (Xo 17 Gw (Xo 18 H6 (Xo 9 (Kb Ev.mem) HH))))
theorem XB:XA Tryz.prog sm2:=by
 refine Xp ⟨⟨_,Tryz.func15,rfl,rfl⟩⟩ (fun vs p r h hp=>?_) (Xp ⟨⟨_,Tryz.func16,rfl,rfl⟩⟩ (fun vs p r h hp=>?_) (Xp ⟨⟨_,Tryz.func17,rfl,rfl⟩⟩ (fun vs p r h hp=>?_) (Xp ⟨⟨_,Tryz.func18,rfl,rfl⟩⟩ (fun vs p r h hp=>?_) (Xp ⟨⟨_,Tryz.func9,rfl,rfl⟩⟩ (ZB HM) Xb))))
 ·unfold Vd at h;split at h
  ·split at h
   ·rename_i xs hx;simp only[ab,af]at h;obtain⟨rfl,rfl⟩:=h;rw[G6 hx];exact Fk _ _ hp
   ·cases h
  ·cases h
 ·unfold Ek at h;split at h
  ·split at h
   ·rename_i l hl;simp only[ab,af]at h;obtain⟨rfl,rfl⟩:=h;rw[VC hl];exact Ts _ _ _ hp.1 hp.2
   ·cases h
  ·cases h
 ·unfold Gw at h;split at h
  ·split at h
   ·rename_i c hc;simp only[ab,af]at h;obtain⟨rfl,rfl⟩:=h;rw[Yf hc];exact KC (U8 c hp)
   ·cases h
  ·cases h
 ·unfold H6 at h;split at h
  ·split at h
   ·rename_i n _ _ c l hc hl;simp only[ab,af]at h;obtain⟨rfl,rfl⟩:=h;obtain⟨h1,h2,h3,h4,h5⟩:=hp;obtain⟨n,rfl⟩:∃m:Nat,n=m:=⟨n.toNat,by omega⟩;rw[Yf hc,VC hl];exact Lm _ _ _ _ (by omega) h3 h4 h5
   ·cases h
  ·cases h
def HI(n:Nat)(od:List Int):List Bool:=(List.range n).map fun k:Nat=>decide ((k:Int)∈od)
theorem Tl(n:Nat)(od:List Int):(HI n od).length=n:=by simp[HI]
theorem Nb{n:Nat}{od:List Int}{i:Nat}(h:i<(HI n od).length):(HI n od)[i]=decide ((i:Int)∈od):=by simp[HI]
theorem Tj(n:Nat):HI n []=List.replicate n false:=by
 unfold HI;apply jw (by simp);intro i h1 h2;simp
theorem Ti{n:Nat}{od:List Int}{i:Nat}(hi:i<od.length)(h0:0≤od[i]):(HI n (od.take i)).set (od[i]).toNat true=HI n (od.take (i+1)):=by
 unfold HI;apply jw (by simp);intro k h1 h2;rw[List.getElem_set];simp only[List.getElem_map,List.getElem_range,ax hi,co,dm];by_cases hk:(od[i]).toNat=k
 ·rw[if_pos hk,eq_comm,al];exact .inr (by omega)
 ·rw[if_neg hk];have:¬(k:Int)=od[i]:=by omega
  simp[this]
theorem Bn{od:List Int}{i:Nat}(hi:i<od.length):od[i]∈od.take i↔∃j,j<i∧od.getD j 0=od.getD i 0:=by
 rw[List.mem_take_iff_getElem];constructor
 ·rintro⟨j,hj,e⟩;exact⟨j,by omega,by rw[UA (by omega),UA hi];exact e⟩
 ·rintro⟨j,hj,e⟩;rw[UA (by omega),UA hi]at e;exact⟨j,by omega,e⟩
theorem Fj(c:Cz)(hc:GI c):Xq Tryz.prog 6 [X9 c] (.val (iV .i64 (Yh (XV (Yr c))))):=by
 have b1:=hc.f;have b2:=hc.hs;have b3:=hc.all;have b4:=hc.fr;have b5:=hc.od;have b6:=hc.ev;have bok:=eq_true hc;have b1':c.f.length≤1000000:=by omega
 obtain⟨R,hR⟩:∃R,Yh (XV (Yr c))=R:=⟨_,rfl⟩;rw[hR];obtain⟨es,hes⟩:∃es,(Xh c.hs).map Ez.e=es:=⟨_,rfl⟩;have hfl:(Yr c).harts.flatten=es:=by rw[←hes];unfold Xh Yr;simp only[gz,fu];rfl
 have hel:es.length=(Xh c.hs).length:=by rw[←hes,ai]
 have hFl:(KM c.hs).map Ez.e=es:=by rw[AO,hes]
 have hFn:(KM c.hs).length=es.length:=by rw[←hFl,ai]
 have hck:XV (Yr c)=(KI c.f&&(decide (1≤c.hs.length∧c.hs.length≤8)&&((List.range c.hs.length).all (fun i=>Z2 i ((c.hs.map fun p=>p.2.map Ez.e).getD i []))&&(decide (c.fr.length=es.length)&&((List.range es.length).all (Ve c.f c.fr es)&&((List.range c.od.length).all (G2 es c.od)&&decide (c.od.length=X0 es))))))):=by
  unfold XV;rw[hfl];simp only[Yr,ai];rfl
 have hgr:∀i (h:i<c.hs.length),(c.hs.map fun p=>p.2.map Ez.e).getD i []=c.hs[i].2.map Ez.e:=fun i h=>by simp[aa h]
 have no:XV (Yr c)=false→(2:Int)=R:=fun h=>by rw[←hR,h];rfl
 unfold X9;refine Xk (rs:=[.tmp 2]) (Xl _) Tryz.func6 rfl Tryz.ntmps6 rfl (by simp) ?_;refine We fun S Y=>?_
 first|refine Wa XB fun K J=>?_|refine Wb XB fun K J=>?_|refine Wc XB [] fun K J=>?_|refine Wd XB [] fun K J=>?_
 simp;apply J;clear J K;apply Y;clear Y S;refine Wp.frzBox (b:=1) (cs:=c.cv) rfl rfl ?_;change Wp _ _ _ _ (⟨[(0,X9 c),(1,cA c),(2,iV .i64 0)],[]⟩:St);cases e1:KI c.f
 ·refine We fun S Y=>?_;refine Wa XB fun K J=>?_;simp[sm2,Xo,Vd,Ya,b1',e1];apply J;clear J K;refine Wt (by simp) ?_;refine Wa XB fun K J=>?_;simp;apply J;clear J K;refine Wp.ret ?_;simp;exact no (by rw[hck,e1];rfl)
 by_cases g1:(c.hs.length:Int)<1
 ·refine We fun S Y=>?_;refine Wa XB fun K J=>?_;simp[sm2,Xo,Vd,Ya,Xm,b1',e1,g1];apply J;clear J K;refine Wt (by simp) ?_;refine Wa XB fun K J=>?_;simp;apply J;clear J K;refine Wp.ret ?_;simp;exact no (by rw[hck,bk (fun q=>by omega)];simp)
 by_cases g2:8<(c.hs.length:Int)
 ·refine We fun S Y=>?_;refine Wa XB fun K J=>?_;simp[sm2,Xo,Vd,Ya,Xm,b1',e1,g1,g2];apply J;clear J K;refine Wt (by simp) ?_;refine Wa XB fun K J=>?_;simp;apply J;clear J K;refine Wp.ret ?_;simp;exact no (by rw[hck,bk (fun q=>by omega)];simp)
 rw[e1,ck (by omega:1≤c.hs.length∧c.hs.length≤8),ce,ce]at hck;refine We fun S Y=>?_;refine Wa XB fun K J=>?_;simp[sm2,Xo,Vd,Ya,Xm,b1',e1,g1,g2];apply J;clear J K;refine Wf (by simp) ?_;refine Wp.skip ?_;apply Y;clear Y S;refine Wa XB fun K J=>?_;simp;apply J;clear J K;refine We fun S Y=>?_;refine Wa XB fun K J=>?_;simp;apply J;clear J K;refine Wp.block ?_;refine Wp.loop (fun k s=>∃i:Nat,i+k=c.hs.length∧(∀j,j<i→Z2 (j:Nat) ((c.hs.map fun p=>p.2.map Ez.e).getD j [])=true)∧s=⟨[(1,cA c),(3,iV .i64 (Xh (c.hs.take i)).length),(4,iV .i64 i)],[]⟩)
  c.hs.length (s0:=⟨[(1,cA c),(3,iV .i64 (0:Nat)),(4,iV .i64 (0:Nat))],[]⟩) ?_ ⟨0,by simp,by simp,by simp[Xh]⟩ fun k s ⟨i,hik,hr,hs⟩=>?_
 ·apply Go1<;>simp
 subst hs;by_cases hi:i<c.hs.length
 ·have hw:IntKind.i64.wrap ((i:Int)+1)=(i+1:Nat):=by rw[wrap_small]<;>omega
  have hle:=Jb c.hs (i+1);have hst:=ee List.length (Yy hi);rw[az]at hst;have hrl:c.hs[i].2.length≤1000:=by omega
  have hws:IntKind.i64.wrap (((Xh (c.hs.take i)).length:Int)+c.hs[i].2.length)=((Xh (c.hs.take (i+1))).length:Nat):=by rw[wrap_small]<;>omega
  have hbig:(4096<((Xh (c.hs.take (i+1))).length:Int))=False:=bh (by omega);have hbig':(4096<(Xh (c.hs.take (i+1))).length)=False:=bh (by omega);have hev:=eq_true (fun x hx=>(b6 _ (ba hi) x hx).2:∀x∈c.hs[i].2,VR x.e);cases er:Z2 (i:Nat) (c.hs[i].2.map Ez.e)
  ·refine We fun S Y=>?_;refine Wa XB fun K J=>?_;simp[Xm,hi];apply J;clear J K;refine Wt (by simp) ?_;refine Wp.skip ?_;apply Y;clear Y S;refine We fun S Y=>?_;refine Wp.block ?_;refine Wa XB fun K J=>?_;simp[Xm,Xs,Xe,hi,hws];apply J;clear J K;refine Wa XB fun K J=>?_;simp[sm2,Xo,Ek,X4,Xm,Xs,hi,hrl,hbig,hev,er,Mc];apply J;clear J K;refine Wt (by simp) ?_;refine Wa XB fun K J=>?_;simp;apply J;clear J K;refine Wp.ret ?_;simp;refine no ?_;rw[hck,all_false hi (by rw[hgr i hi];exact er)];rfl
  ·repeat(first|((first|refine Wa XB fun K J=>?_|refine Wb XB fun K J=>?_|refine Wc XB [] fun K J=>?_|refine Wd XB [] fun K J=>?_);simp[sm2,Xo,Ek,X4,Xm,Xs,Xe,hi,hrl,hws,hbig,hev,er,Mc,hw];first|done|(with_reducible refine J _ ?_;clear J K)|(apply And.intro;(·kernel_rfl);with_reducible refine J _ ?_;clear J K))|refine We fun S Y=>?_|refine Wp.block ?_|refine Wp.skip ?_|(apply Wt;· (simp;done))|(apply Wf;· (simp;done))|(apply Y;clear Y S)|(clear Y S;apply Y;clear Y S))
   refine⟨⟨[(1,cA c),(3,iV .i64 (Xh (c.hs.take (i+1))).length),(4,iV .i64 (i+1:Nat))],[]⟩,k - 1,?_,by omega,i+1,by omega,YR hr (by rw[hgr i hi];exact er),rfl⟩;apply Go1<;>simp
 obtain rfl:i=c.hs.length:=by omega
 rw[all_true hr,ce]at hck;refine We fun S Y=>?_;refine Wa XB fun K J=>?_;simp[Xm];apply J;clear J K;refine Wf (by simp) ?_;refine Wp.exit ?_;simp only[XW,XG,if_true]
 try rw[jj]
 rw[←hel];clear hr hik;by_cases hf:c.fr.length=es.length
 case neg=>
  have qf:((c.fr.length:Int)=es.length)=False:=bh (by omega);have qf':=bh hf;clear Y S;apply Y;clear Y S;refine Wa XB fun K J=>?_;simp[sm2,Xo,Gw,Xu,bok];apply J;clear J K;refine We fun S Y=>?_;refine Wa XB fun K J=>?_;simp[Xg,qf];apply J;clear J K;refine Wt (by simp) ?_;refine Wa XB fun K J=>?_;simp;apply J;clear J K;refine Wp.ret ?_;simp;exact no (by rw[hck,bk hf];rfl)
 have qf:((c.fr.length:Int)=es.length)=True:=eq_true (by omega);rw[ck hf,ce]at hck;clear Y S;apply Y;clear Y S;refine Wa XB fun K J=>?_;simp[sm2,Xo,Gw,Xu,bok];apply J;clear J K;refine We fun S Y=>?_;refine Wa XB fun K J=>?_;simp[Xg,hf];apply J;clear J K;refine Wf (by simp) ?_;refine Wp.skip ?_;apply Y;clear Y S;refine Wa XB fun K J=>?_;simp;apply J;clear J K;refine We fun S Y=>?_;refine Wa XB fun K J=>?_;simp;apply J;clear J K;refine Wp.block ?_;obtain⟨zz,hzz⟩:∃z,decide ((Xh c.hs).length=0)=z:=⟨_,rfl⟩;refine Wp.loop (fun k s=>∃i:Nat,i+k=es.length∧(∀j,j<i→Ve c.f c.fr es j=true)∧s=⟨[(1,cA c),(3,iV .i64 es.length),(5,sV zz 14 (XS (KM c.hs))),(6,iV .i64 (X0 (es.take i))),(7,iV .i64 i)],[]⟩)
  es.length (s0:=⟨[(1,cA c),(3,iV .i64 es.length),(5,sV zz 14 (XS (KM c.hs))),(6,iV .i64 (0:Nat)),(7,iV .i64 (0:Nat))],[]⟩) ?_ ⟨0,by simp,by simp,by simp[X0]⟩ fun k s ⟨i,hik,hr,hs⟩=>?_
 ·rw[←hzz];apply Go1<;>simp
 subst hs;by_cases hi:i<es.length
 ·have hw:IntKind.i64.wrap ((i:Int)+1)=(i+1:Nat):=by rw[wrap_small]<;>omega
  have hiF:i<(KM c.hs).length:=by omega
  have hfF:c.fr.length=(KM c.hs).length:=by omega
  have hlF:(KM c.hs).length≤1000:=by omega
  obtain⟨x,hx⟩:∃x,(KM c.hs)[i]=x:=⟨_,rfl⟩;have hgx:es.getD i default=x.e:=by rw[←hFl,RB hiF,hx]
  have hms:=Rf hi;have hml:=Q3 es i;have hml2:=Q3 es (i+1);rw[hgx]at hms;cases ef:Ve c.f c.fr es i
  ·refine We fun S Y=>?_;refine Wa XB fun K J=>?_;simp[hi];apply J;clear J K;refine Wt (by simp) ?_;refine Wp.skip ?_;apply Y;clear Y S;refine We fun S Y=>?_;refine Wp.block ?_;refine We fun S Y=>?_;refine Wa XB fun K J=>?_;simp[sm2,Xo,H6,X4,Xu,hiF,hfF,hlF,b1',hFl,ef];apply J;clear J K;refine Wt (by simp) ?_;refine Wa XB fun K J=>?_;simp;apply J;clear J K;refine Wp.ret ?_;simp;exact no (by rw[hck,all_false hi ef];rfl)
  cases em:x.e.mem
  ·rw[em]at hms;have hms:X0 (es.take (i+1))=X0 (es.take i):=by simpa using hms
   repeat(first|((first|refine Wa XB fun K J=>?_|refine Wb XB fun K J=>?_|refine Wc XB [] fun K J=>?_|refine Wd XB [] fun K J=>?_);simp[sm2,Xo,H6,Kb,X4,Xu,X2,unS,Xa,Ev.eta',Xe,Xd,hi,hiF,hfF,hlF,b1',hFl,ef,Ez.cv,hx,em,hw];first|done|(with_reducible refine J _ ?_;clear J K)|(apply And.intro;(·kernel_rfl);with_reducible refine J _ ?_;clear J K))|refine We fun S Y=>?_|refine Wp.block ?_|refine Wp.skip ?_|(apply Wt;· (simp;done))|(apply Wf;· (simp;done))|(apply Y;clear Y S)|(clear Y S;apply Y;clear Y S))
   refine⟨⟨[(1,cA c),(3,iV .i64 es.length),(5,sV zz 14 (XS (KM c.hs))),(6,iV .i64 (X0 (es.take (i+1)))),(7,iV .i64 (i+1:Nat))],[]⟩,k - 1,?_,by omega,i+1,by omega,YR hr ef,rfl⟩;rw[hms];apply Go1<;>simp
  ·rw[em,if_pos rfl]at hms;have hwc:IntKind.i64.wrap ((X0 (es.take i):Int)+1)=(X0 (es.take (i+1)):Nat):=by rw[wrap_small]<;>omega
   repeat(first|((first|refine Wa XB fun K J=>?_|refine Wb XB fun K J=>?_|refine Wc XB [] fun K J=>?_|refine Wd XB [] fun K J=>?_);simp[sm2,Xo,H6,Kb,X4,Xu,X2,unS,Xa,Ev.eta',Xe,Xd,hi,hiF,hfF,hlF,b1',hFl,ef,Ez.cv,hx,em,hwc,hw];first|done|(with_reducible refine J _ ?_;clear J K)|(apply And.intro;(·kernel_rfl);with_reducible refine J _ ?_;clear J K))|refine We fun S Y=>?_|refine Wp.block ?_|refine Wp.skip ?_|(apply Wt;· (simp;done))|(apply Wf;· (simp;done))|(apply Y;clear Y S)|(clear Y S;apply Y;clear Y S))
   refine⟨⟨[(1,cA c),(3,iV .i64 es.length),(5,sV zz 14 (XS (KM c.hs))),(6,iV .i64 (X0 (es.take (i+1)))),(7,iV .i64 (i+1:Nat))],[]⟩,k - 1,?_,by omega,i+1,by omega,YR hr ef,rfl⟩;apply Go1<;>simp
 obtain rfl:i=es.length:=by omega
 rw[all_true hr,ce]at hck;refine We fun S Y=>?_;refine Wa XB fun K J=>?_;simp;apply J;clear J K;refine Wf (by simp) ?_;refine Wp.exit ?_;simp only[XW,XG,if_true]
 try rw[jj]
 clear hr hik;have hb1:(es.length:Int)≤1000000:=by omega
 have hb2:(es.length:Int)≤281474976710656:=by omega
 clear Y S;apply Y;clear Y S;refine Wa XB fun K J=>?_;simp[hb1,hb2,Pw];apply J;clear J K;refine We fun S Y=>?_;refine Wa XB fun K J=>?_;simp;apply J;clear J K;refine Wp.block ?_;refine Wp.loop (fun k s=>∃i:Nat,i+k=c.od.length∧(∀j,j<i→G2 es c.od j=true)∧s=⟨[(1,cA c),(3,iV .i64 es.length),(5,sV zz 14 (XS (KM c.hs))),(6,iV .i64 (X0 es)),(8, .one (.own 79)),(9,iV .i64 i)],[(79, .row false 4 1 (Ku (HI es.length (c.od.take i))))]⟩)
  c.od.length (s0:=⟨[(1,cA c),(3,iV .i64 es.length),(5,sV zz 14 (XS (KM c.hs))),(6,iV .i64 (X0 es)),(8, .one (.own 79)),(9,iV .i64 (0:Nat))],[(79, .row false 4 1 (Ku (List.replicate es.length false)))]⟩) ?_ ⟨0,by simp,by simp,by rw[List.take_zero,Tj]⟩ fun k s ⟨i,hik,hr,hs⟩=>?_
 ·apply Go1<;>simp
 subst hs;by_cases hi:i<c.od.length
 ·have hw:IntKind.i64.wrap ((i:Int)+1)=(i+1:Nat):=by rw[wrap_small]<;>omega
  have bad:G2 es c.od i=false→XV (Yr c)=false:=fun q=>by rw[hck,all_false hi q];rfl
  unfold G2 at bad;rw[UA hi]at bad;by_cases q1:c.od[i]<0
  ·repeat(first|((first|refine Wa XB fun K J=>?_|refine Wb XB fun K J=>?_|refine Wc XB [] fun K J=>?_|refine Wd XB [] fun K J=>?_);simp[Xg,Xf,hi,q1];first|done|(with_reducible refine J _ ?_;clear J K)|(apply And.intro;(·kernel_rfl);with_reducible refine J _ ?_;clear J K))|refine We fun S Y=>?_|refine Wp.block ?_|refine Wp.skip ?_|(apply Wt;· (simp;done))|(apply Wf;· (simp[sm2,Xo,Vd,Ek,Gw,H6,Kb,Ya,X4,Xu,X2,unS,Xa,Ev.eta',Xm,Xs,Xe,Xd,Xg,Xf,XD,hi,q1];done))|(apply Y;clear Y S)|(clear Y S;apply Y;clear Y S))
   refine Wp.ret ?_;simp;exact no (bad (by rw[bk (fun q=>by omega)];rfl))
  by_cases q2:(es.length:Int)≤c.od[i]
  ·repeat(first|((first|refine Wa XB fun K J=>?_|refine Wb XB fun K J=>?_|refine Wc XB [] fun K J=>?_|refine Wd XB [] fun K J=>?_);simp[Xg,Xf,hi,q1,q2];first|done|(with_reducible refine J _ ?_;clear J K)|(apply And.intro;(·kernel_rfl);with_reducible refine J _ ?_;clear J K))|refine We fun S Y=>?_|refine Wp.block ?_|refine Wp.skip ?_|(apply Wt;· (simp;done))|(apply Wf;· (simp[sm2,Xo,Vd,Ek,Gw,H6,Kb,Ya,X4,Xu,X2,unS,Xa,Ev.eta',Xm,Xs,Xe,Xd,Xg,Xf,XD,hi,q1,q2];done))|(apply Y;clear Y S)|(clear Y S;apply Y;clear Y S))
   refine Wp.ret ?_;simp;exact no (bad (by rw[bk (fun q=>by omega)];rfl))
  have p0:0≤c.od[i]:=by omega
  have p1:c.od[i]<(es.length:Int):=by omega
  have p2:(c.od[i]).toNat<es.length:=by omega
  have p3:(c.od[i]).toNat<(KM c.hs).length:=by omega
  have p4:c.od[i]<((KM c.hs).length:Int):=by omega
  have hsl:=Tl es.length (c.od.take i);have p5:(c.od[i]).toNat<(HI es.length (c.od.take i)).length:=by omega
  have hsv:(HI es.length (c.od.take i))[(c.od[i]).toNat]=decide (c.od[i]∈c.od.take i):=by rw[Nb p5,jm p0]
  rw[ck (⟨p0,p1⟩:0≤c.od[i]∧c.od[i]<(es.length:Int)),ce]at bad;by_cases q3:c.od[i]∈c.od.take i
  ·rw[ck q3]at hsv
   repeat(first|((first|refine Wa XB fun K J=>?_|refine Wb XB fun K J=>?_|refine Wc XB [] fun K J=>?_|refine Wd XB [] fun K J=>?_);simp[Xg,Xf,hi,q1,q2,p0,p1,p2,hsl,Y2,Ye,hsv];first|done|(with_reducible refine J _ ?_;clear J K)|(apply And.intro;(·kernel_rfl);with_reducible refine J _ ?_;clear J K))|refine We fun S Y=>?_|refine Wp.block ?_|refine Wp.skip ?_|(apply Wt;· (simp;done))|(apply Wf;· (simp[sm2,Xo,Vd,Ek,Gw,H6,Kb,Ya,X4,Xu,X2,unS,Xa,Ev.eta',Xm,Xs,Xe,Xd,Xg,Xf,XD,hi,q1,q2,p0,p1,p2,p3,p4,p5,hsl,Y2,Ye,hsv];done))|(apply Y;clear Y S)|(clear Y S;apply Y;clear Y S))
   refine Wp.ret ?_;simp;obtain⟨j,hj,he⟩:=(Bn hi).1 q3;rw[UA hi]at he;exact no (bad (by rw[bk (fun q=>q j hj he)];rfl))
  rw[bk q3]at hsv;have hall:∀j,j<i→c.od.getD j 0≠c.od[i]:=fun j hj he=>q3 ((Bn hi).2 ⟨j,hj,by rw[UA hi];exact he⟩);rw[ck hall,ce]at bad;obtain⟨x,hx⟩:∃x,(KM c.hs)[(c.od[i]).toNat]=x:=⟨_,rfl⟩;have hgx:es.getD (c.od[i]).toNat default=x.e:=by rw[←hFl,RB p3,hx]
  rw[hgx]at bad;cases em:x.e.mem
  ·repeat(first|((first|refine Wa XB fun K J=>?_|refine Wb XB fun K J=>?_|refine Wc XB [] fun K J=>?_|refine Wd XB [] fun K J=>?_);simp[sm2,Xo,Kb,X2,unS,Xa,Ev.eta',Xe,Xd,Xg,Xf,hi,q1,q2,p0,p1,p2,p3,p4,hsl,Y2,Ye,hsv,Ez.cv,hx,em];first|done|(with_reducible refine J _ ?_;clear J K)|(apply And.intro;(·kernel_rfl);with_reducible refine J _ ?_;clear J K))|refine We fun S Y=>?_|refine Wp.block ?_|refine Wp.skip ?_|(apply Wt;· (simp;done))|(apply Wf;· (simp[sm2,Xo,Vd,Ek,Gw,H6,Kb,Ya,X4,Xu,X2,unS,Xa,Ev.eta',Xm,Xs,Xe,Xd,Xg,Xf,XD,hi,q1,q2,p0,p1,p2,p3,p4,p5,hsl,Y2,Ye,hsv,Ez.cv,hx,em];done))|(apply Y;clear Y S)|(clear Y S;apply Y;clear Y S))
   refine Wp.ret ?_;simp;exact no (bad em)
  ·have hok:G2 es c.od i=true:=by
    unfold G2;rw[UA hi,ck (⟨p0,p1⟩:0≤c.od[i]∧c.od[i]<(es.length:Int)),ck hall,hgx,em];rfl
   repeat(first|((first|refine Wa XB fun K J=>?_|refine Wb XB fun K J=>?_|refine Wc XB [] fun K J=>?_|refine Wd XB [] fun K J=>?_);simp[sm2,Xo,Kb,X2,unS,Xa,Ev.eta',Xe,Xd,Xg,Xf,hi,q1,q2,p0,p1,p2,p3,p4,hsl,Y2,Ye,hsv,Ez.cv,hx,em,ZH,hw];first|done|(with_reducible refine J _ ?_;clear J K)|(apply And.intro;(·kernel_rfl);with_reducible refine J _ ?_;clear J K))|refine We fun S Y=>?_|refine Wp.block ?_|refine Wp.skip ?_|(apply Wt;· (simp;done))|(apply Wf;· (simp;done))|(apply Y;clear Y S)|(clear Y S;apply Y;clear Y S))
   refine⟨⟨[(1,cA c),(3,iV .i64 es.length),(5,sV zz 14 (XS (KM c.hs))),(6,iV .i64 (X0 es)),(8, .one (.own 79)),(9,iV .i64 (i+1:Nat))],[(79, .row false 4 1 (Ku (HI es.length (c.od.take (i+1)))))]⟩,k - 1,?_,by omega,i+1,by omega,YR hr hok,rfl⟩;rw[←Ti hi p0];apply Go1<;>simp
 obtain rfl:i=c.od.length:=by omega
 rw[all_true hr,ce]at hck;refine We fun S Y=>?_;refine Wa XB fun K J=>?_;simp[Xg];apply J;clear J K;refine Wf (by simp) ?_;refine Wp.exit ?_;simp only[XW,XG,if_true];by_cases hm:c.od.length=X0 es
 ·have qm:((c.od.length:Int)=X0 es)=True:=eq_true (by omega);clear Y S;apply Y;clear Y S;refine We fun S Y=>?_;refine Wa XB fun K J=>?_;simp[Xg,hm];apply J;clear J K;refine Wf (by simp) ?_;refine Wp.skip ?_;apply Y;clear Y S;refine Wa XB fun K J=>?_;simp;apply J;clear J K;refine Wp.ret ?_;simp;rw[←hR,hck,ck hm];rfl
 ·have qm:((c.od.length:Int)=X0 es)=False:=bh (by omega);have qm':=bh hm;clear Y S;apply Y;clear Y S;refine We fun S Y=>?_;refine Wa XB fun K J=>?_;simp[Xg,qm];apply J;clear J K;refine Wt (by simp) ?_;refine Wa XB fun K J=>?_;simp;apply J;clear J K;refine Wp.ret ?_;simp;exact no (by rw[hck,bk hm])
end Go.Proofs.YtbkpmfjfpcoehaaGreatDoor
namespace Go.Proofs.YtbkpmfjfpcoehaaGreatDoor
open Go Go.RowKit Dw
set_option maxRecDepth 100000
def Vc:List EV→Option (Prop×Yw)
 |[v]=>(match Kn v with|some c=>some (GI c, .val (iV .i64 (Yh (XV (Yr c)))))|none=>none)
 |_=>none
def sj:Dw.Spec:=Xo 6 Vc sy1
theorem V9:XA Tryz.prog sj:=by
 refine Xp ⟨⟨_,Tryz.func6,rfl,rfl⟩⟩ (fun vs p r h hp=>?_) YD;unfold Vc at h;split at h
 ·split at h
  ·rename_i c hc;simp only[ab,af]at h;obtain⟨rfl,rfl⟩:=h;rw[Yf hc];exact Fj c hp
  ·cases h
 ·cases h
end Go.Proofs.YtbkpmfjfpcoehaaGreatDoor
