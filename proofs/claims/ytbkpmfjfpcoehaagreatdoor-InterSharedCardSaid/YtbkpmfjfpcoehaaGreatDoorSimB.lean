/- A machine that runs closed calls of the program by the kernel: append, maps, conversions, iterators; one operation of the machine, its states. No condition. -/
import Derived.Calls
import Derived.Laws.LoneSync
import Derived.Lib.Bytealg
import Derived.RangeFuncRecord
import Derived.Test.YtbkpmfjfpcoehaaGreatDoorSimA
namespace Go.Proofs.YtbkpmfjfpcoehaaGreatDoor.Sim
open Go Go.RowKit
noncomputable section
section
variable {P:Program} {T:Tab} {μ:Mu} {B:Nat} {A:Xx} {w:World}
def GD(el:TypeId)(size:Nat)(zero:Value)(base:Option Addr)(sLen sCap n:Nat)(x:Value):Sem Value:=do
 if sLen+n≤sCap then
  let new←Builtin.firstCells size n x
  if let some a:=base then storeCells (a.add (sLen*size)) new.toList
  pure (.slice base (sLen+n) sCap)
 else
  let newCap←choose (.appendCap (sLen+n) sCap el)
  let old←Builtin.firstCells size sLen (.slice base sLen sCap)
  let new←Builtin.firstCells size n x
  let r←newRow el (old++new++Builtin.zeroCells zero.cells (newCap - (sLen+n)))
  pure (.slice (some r) (sLen+n) newCap)
theorem AC(m:Nat):∀(r c:Nat),c<m→Builtin.growBy m r c≤2*m+192:=by
 intro r
 induction r with
 |zero=>intro c h;simp[Builtin.growBy];omega
 |succ r ih=>
  intro c h;simp only[Builtin.growBy];rw[if_neg (by omega)];by_cases h2:c+(c+768) / 4<m
  ·exact ih _ h2
  ·cases r with
   |zero=>simp only[Builtin.growBy];omega
   |succ r=>simp only[Builtin.growBy];rw[if_pos (by omega)];omega
theorem nextslicecap_le{m c:Nat}(h:c<m):Builtin.nextslicecap m c≤2*m+192:=by
 unfold Builtin.nextslicecap;split
 ·omega
 ·split
  ·omega
  ·exact AC m 4 c h
def LY:Value→Option Nat
 | .slice _ n _=>some n
 | .string ⟨⟨l⟩⟩=>some l.length
 |_=>none
theorem QD{x:Value}{n:Nat}(h:LY x=some n)(w:World):(Builtin.lenOf x).run P w= .ok n w:=by
 unfold LY at h;split at h
 ·injection h with h;subst h;rfl
 ·injection h with h;subst h;rfl
 ·cases h
theorem run_append(C:YN P T){st xt el:TypeId}{ti tx te:TI}(hst:T.ty.get st=some ti)(hd:ti.desc= .slice el)(hxt:T.ty.get xt=some tx)(hnx:∀k,tx.desc≠ .int k)(hel:T.ty.get el=some te)
  {base:Option Addr} {sLen sCap n:Nat} {x:Value} (hn:LY x=some n) (hb:(2*(sLen+n)+192)*te.bytes≤2^40) (hm:sLen+n≤2^40) (w:World) (rt:TypeId):
  (Builtin.append_ #[st,xt] rt #[.slice base sLen sCap,x]).run P w=(GD el te.size te.zero base sLen sCap n x).run P w:=by
 have hu:=fun w=>C.underlying hst w;have hux:=fun w=>C.underlying hxt w;have hz:((match tx.desc with| .int _=>true|_=>false):Bool)=false:=by
  split
  ·rename_i k hk;exact absurd hk (hnx k)
  ·rfl
 obtain⟨_,info,i0,_,i3,_⟩:=C.ty el te hel;have i1:∀w,(typeInfo el).run P w= .ok info w:=fun w=>by simp[Go.typeInfo,i0]
 have i2:∀w,(zeroValue el).run P w= .ok te.zero w:=fun w=>C.zeroValue hel w;simp only[Builtin.append_,GD];simp only[eo,cj,fb,ag,hu,hd,ae,C.sizeOf hel,hux,am,de,dg,QD hn];by_cases hroom:sLen+n≤sCap
 ·simp only[hroom,if_true,Bool.not_false];cases base<;>rfl
 ·have hcap:sCap<sLen+n:=by omega
  have hns:=nextslicecap_le hcap;have hmul:Builtin.nextslicecap (sLen+n) sCap*te.bytes≤2^40:=bd (cr _ hns) hb;have c2:¬(Builtin.nextslicecap (sLen+n) sCap*te.bytes>2^48):=by
   have:(2:Nat)^40≤2^48:=Nat.pow_le_pow_right (by omega) (by omega);omega
  have c1:¬(((sLen+n:Nat):Int)>IntKind.i64.max∧(False∨te.bytes=0)):=by
   simp only[IntKind.max,IntKind.signed,IntKind.bits,if_true];omega
  simp only[hroom,dg,i1,ae,i3,ag,Sem.run_ite,Bool.not_false,if_true];rw[if_neg c1,if_neg c2];simp only[i2,run_askRoom,ae]
end
def Pu(l:List UInt8):List Value:=List.rec (motive:=fun _=>List Value) [] (fun b _ r=> .int .u8 (.ofNat b.toNat)::r) l
theorem Zf(l:List UInt8):Pu l=l.map fun b=> .int .u8 b.toNat:=by
 induction l with
 |nil=>rfl
 |cons b l ih=>show _::Pu l=_;rw[ih];rfl
def Rc(A:Xx)(esz:Nat)(x:Value):Option (Nat×List Value):=
 match x with
 | .slice none 0 0=>some (0,[])
 | .slice (some ⟨b,off,none⟩) n _=>(match n with|0=>some (0,[])|_+1=>(match JQ A b off (Nat.mul n esz)with|some ys=>some (n,ys)|none=>none))
 | .string ⟨⟨l⟩⟩=>(match esz with|1=>some (len l,Pu l)|_=>none)
 |_=>none
section
variable {P:Program} {T:Tab} {μ:Mu} {B:Nat} {A:Xx} {w:World}
theorem Ht(R:Yi μ B A w.heap){esz:Nat}{x x':Value}(hx:XI μ x x'){n:Nat}{ys:List Value}(h:Rc A esz x=some (n,ys)):
  LY x'=some n∧ys.length=n*esz∧∃zs:Array Value,(Builtin.firstCells esz n x').run P w= .ok zs w∧XF μ ys zs.toList:=by
 unfold Rc at h;split at h
 ·injection h with h;injection h with h1 h2;subst h1;subst h2;cases hx;exact⟨rfl,by simp,#[],rfl, .nil⟩
 ·rename_i b off n' cap;split at h
  ·injection h with h;injection h with h1 h2;subst h1;subst h2;have:∃a c,x'= .slice (some a) 0 c:=by cases hx<;>exact⟨_,_,rfl⟩
   obtain⟨a,c,rfl⟩:=this;exact⟨rfl,by simp,#[],by simp[Builtin.firstCells,loadCells,loadCellsFrom], .nil⟩
  ·rename_i k;split at h
   ·rename_i ys' hl;injection h with h;injection h with h1 h2;subst h1;subst h2;have key:∀(e:Ent) (c:Nat),μ b=some e→x'= .slice (some ⟨e.blk,e.dl+off,none⟩) (k+1) c→LY x'=some (k+1)∧ys'.length=(k+1)*esz∧∃zs:Array Value,(Builtin.firstCells esz (k+1) x').run P w= .ok zs w∧XF μ ys' zs.toList:=by
     intro e c he hx';subst hx';obtain⟨zs,h1,h2,h3⟩:=Kh P R he hl;exact⟨rfl,h3,zs,h1,h2⟩
    cases hx with
    |slice he hg=>exact key _ _ he rfl
    |gslice he hg hl' hc hs=>exact key _ _ he rfl
   ·cases h
 ·rename_i l;split at h
  ·injection h with h;injection h with h1 h2;subst h1;subst h2;cases hx;refine⟨by simp[LY],by simp[Zf],(l.map fun b=>Value.int .u8 b.toNat).toArray,?_,?_⟩
   ·simp only[Builtin.firstCells,am]
    congr 1
    apply fz;simp[ZU]
   ·rw[Zf];refine⟨by simp,fun i x y hx hy=>?_⟩;have hx:(l.map fun b=>Value.int .u8 b.toNat)[i]? =some x:=hx;have hy:(l.map fun b=>Value.int .u8 b.toNat)[i]? =some y:=by simpa using hy
    rw[hx]at hy;injection hy with hy;subst hy;rw[an]at hx;cases hb:l[i]? with
    |none=>rw[hb]at hx;cases hx
    |some c=>rw[hb]at hx;injection hx with hx;subst hx;exact .int _ _
  ·cases h
 ·cases h
def P9(T:Tab)(A:Xx)(ats:List TypeId)(s x:Value):Option (Value×Xx):=
 match ats with
 |[st,xt]=>
  match T.ty.get st,T.ty.get xt with
  |some ti,some tx=>
   match ti.desc,(match tx.desc with| .slice _=>true| .string=>true|_=>false)with
   | .slice el,true=>
    match T.ty.get el with
    |some te=>
     match te.size,Rc A te.size x with
     |_+1,some (n,ys)=>
      match s with
      | .slice none 0 0=>
       match Nat.ble (Nat.mul (Nat.add (Nat.mul 2 n) 192) te.bytes) 1000000000,Nat.ble n 1000000000 with
       |true,true=>
        (match n with
         |0=>some (s,A)
         |_+1=>(match PA A te.size ys with|some A'=>some (.slice (some ⟨A.next,0,none⟩) n n,A')|none=>none))
       |_,_=>none
      | .slice (some ⟨b,off,none⟩) l c=>
       match Nat.ble l c,Nat.ble (Nat.mul (Nat.add (Nat.mul 2 (Nat.add l n)) 192) te.bytes) 1000000000,Nat.ble (Nat.add l n) 1000000000 with
       |true,true,true=>
        (match n with
         |0=>some (s,A)
         |_+1=>
          match A.heap.get b with
          |some (.cells _ (.fixed _))=>
           (match Nat.ble (Nat.add l n) c with
            |true=>(match Hh A b (Nat.add off (Nat.mul l te.size)) ys with|some A'=>some (.slice (some ⟨b,off,none⟩) (Nat.add l n) c,A')|none=>none)
            |false=>
             match JQ A b off (Nat.mul l te.size)with
             |some old=>(match PA A te.size (app old ys)with|some A'=>some (.slice (some ⟨A.next,0,none⟩) (Nat.add l n) (Nat.add l n),A')|none=>none)
             |none=>none)
          |some (.cells _ (.grown _))=>
           (match DA A b off (Nat.mul l te.size) te.size ys with|some A'=>some (.slice (some ⟨A.next,0,none⟩) (Nat.add l n) (Nat.add l n),A')|none=>none)
          |_=>none)
       |_,_,_=>none
      |_=>none
     |_,_=>none
    |none=>none
   |_,_=>none
  |_,_=>none
 |_=>none
theorem VT(need old:Nat)(el:TypeId)(w:World):∃c,(choose (.appendCap need old el)).run P w= .ok c w.drew∧need≤c:=by
 refine⟨_,by simp[Question.forced];rfl,?_⟩;simp only[Question.cut];omega
theorem HC(z:Array Value)(n:Nat):(Builtin.zeroCells z n).size=n*z.size:=by simp[Builtin.zeroCells]
theorem Hz{el:TypeId}{size:Nat}{zero:Value}{base:Option Addr}{sLen sCap n:Nat}{x:Value}{old new:Array Value}(hroom:¬sLen+n≤sCap)
  (ho:(Builtin.firstCells size sLen (.slice base sLen sCap)).run P w.drew= .ok old w.drew) (hn:(Builtin.firstCells size n x).run P w.drew= .ok new w.drew):
  ∃c,sLen+n≤c∧(GD el size zero base sLen sCap n x).run P w= .ok (.slice (some ⟨w.heap.size,0,none⟩) (sLen+n) c) (w.drew.alloc (.cells (old++new++Builtin.zeroCells zero.cells (c - (sLen+n))) el)):=by
 obtain⟨c,h1,h2⟩:=VT (P:=P) (sLen+n) sCap el w;refine⟨c,h2,?_⟩;simp only[GD,if_neg hroom,ag,h1,ae,ho,hn];simp only[newRow,ag,run_newObj,ae,am];rfl
theorem Jw{b blk csz dl n c:Nat}{g:Gr}(hn:n≤c)(hc:dl+c*g.esz≤csz):
  XI (μ.add b ⟨blk,dl,some g,csz⟩) (.slice (some ⟨b,0,none⟩) n n) (.slice (some ⟨blk,dl,none⟩) n c):=
 XI.gslice (b:=b) (off:=0) (e:=⟨blk,dl,some g,csz⟩) (g:=g) (by simp) rfl (ak _) hn (by simpa using hc)
theorem PP{te:TI}{zero:Value}(hz:zero.cells.size=te.size){old new:Array Value}{m c:Nat}(hm:old.size+new.size=m*te.size)(hc:m≤c):
  c*te.size≤(old++new++Builtin.zeroCells zero.cells (c - m)).size:=by
 have e:m*te.size+(c - m)*te.size=c*te.size:=by rw[←dr];congr 1;omega
 simp only[Array.size_append,HC,hz];omega
theorem YX{B:Nat}{w:World}(hB:B≤w.heap.size)(o:Obj):Below B w (w.drew.alloc o):=((bg B w).drew).alloc hB o
theorem UN(a:Addr):∀(n i:Nat) (acc zs:Array Value) (w:World),(loadCellsFrom a i n acc).run P w= .ok zs w→(loadCellsFrom a i n acc).run P w.drew= .ok zs w.drew:=by
 intro n
 induction n with
 |zero=>intro i acc zs w h;simp[loadCellsFrom]at h⊢;exact h
 |succ n ih=>
  intro i acc zs w h;simp only[loadCellsFrom,ag,run_load,World.cell?_drew]at h⊢;cases hc:w.cell? (a.add i)with
  |some v=>rw[hc]at h;simp only[ae]at h⊢;exact ih _ _ _ _ h
  |none=>
   rw[hc]at h;have hf:w.drew.farLoad P (a.add i) (Mode.plain== .atomic)=w.farLoad P (a.add i) (Mode.plain== .atomic):=rfl;simp only[hf]at h⊢;cases hx:w.farLoad P (a.add i) (Mode.plain== .atomic)with
   |ok r=>rw[hx]at h;simp only[ae]at h⊢;exact ih _ _ _ _ h
   |error e=>rw[hx]at h;cases h
theorem Uf(size n:Nat)(x:Value)(w:World)(zs:Array Value)(h:(Builtin.firstCells size n x).run P w= .ok zs w):(Builtin.firstCells size n x).run P w.drew= .ok zs w.drew:=by
 unfold Builtin.firstCells at h⊢;split at h
 ·exact UN _ _ _ _ _ _ h
 ·simp at h⊢;exact h
 ·simp at h⊢;exact h
 ·cases h
theorem Fv(C:YN P T)(R:Yi μ B A w.heap){ats:List TypeId}{s x s' x':Value}(hs:XI μ s s')(hx:XI μ x x'){r:Value×Xx}(h:P9 T A ats s x=some r)(rt:TypeId):
  Ok P μ B A w (Builtin.append_ ats.toArray rt #[s',x']) r.1 r.2:=by
 unfold P9 at h;split at h
 case h_2=>cases h
 rename_i st xt;split at h
 case h_2=>cases h
 rename_i ti tx hst hxt;split at h
 case h_2=>cases h
 rename_i el hd hok;split at h
 case h_2=>cases h
 rename_i te hte;split at h
 case h_2=>cases h
 rename_i k n ys hsz hnew;have hnx:∀k,tx.desc≠ .int k:=by
  intro k hk;rw[hk]at hok;simp at hok
 obtain⟨hlen,hyl,zs,hz1,hz2⟩:=Ht (P:=P) R hx hnew;have hz1d:(Builtin.firstCells te.size n x').run P w.drew= .ok zs w.drew:=by
  obtain⟨_,_,zs',hz',_⟩:=Ht (P:=P) (w:=w.drew) R hx hnew;obtain⟨hlen2,_⟩:=Ht (P:=P) (w:=w) R hx hnew;have:zs'=zs:=by
   have e1:=Uf (P:=P) te.size n x' w zs hz1;rw[e1]at hz';injection hz' with hz';exact hz'.symm
  rw[←this];exact hz'
 have hesz:1≤te.size:=by omega
 have harr:([st,xt]:List TypeId).toArray= #[st,xt]:=rfl;have two:(1000000000:Nat)≤2^40:=by decide
 split at h
 ·
  cases hs;split at h
  case h_2=>cases h
  rename_i h1 h2;have h1:(2*n+192)*te.bytes≤1000000000:=YW h1;have h2:=YW h2;have hrun:=fun w=>run_append C hst hd hxt hnx hte (base:=none) (sLen:=0) (sCap:=0) hlen (by rw[bf];exact bd h1 two) (by omega) w rt;cases n with
  |zero=>
   injection h with h;subst h;refine⟨.slice none 0 0,w,μ,?_,Mu.Ext.refl _ μ,R, .nilslice,bg _ _,JP.refl _ _⟩;rw[harr,hrun];simp[GD,hz1]
  |succ n1=>
   dsimp only at h
   split at h
   case h_2=>cases h
   rename_i A' hA;injection h with h;subst h;obtain⟨c,hc1,hc2⟩:=Hz (el:=el) (zero:=te.zero) (base:=none) (sLen:=0) (sCap:=0) (old:=#[]) (by omega) rfl hz1d;obtain⟨R',K,Bw,hm⟩:=VU (w:=w.drew) R hA (arr:=#[]++zs++Builtin.zeroCells te.zero.cells (c - (0+(n1+1)))) (t:=el) (fr:=(0,0)) (.inl rfl) (ys:=zs.toList) (rest:=(Builtin.zeroCells te.zero.cells (c - (0+(n1+1)))).toList) (by simp) hz2;refine⟨_,_,_,by rw[harr,hrun];exact hc2,hm,R',?_,YX R.base _,K⟩;have hcap:=PP (te:=te) (zero:=te.zero) (C.zsize hte) (old:=#[]) (new:=zs) (m:=0+(n1+1)) (c:=c) (by have:=hz2.1;simp at this⊢;omega) hc1;rw[bf]at hc1;have hv:=Jw (μ:=μ) (b:=A.next) (blk:=w.heap.size) (dl:=0) (g:=⟨te.size,A.next,0⟩) hc1 (by rw[bf];exact hcap);have e0:0+(n1+1)=n1+1:=bf _;rw[e0];rw[e0]at hv;exact hv
 ·rename_i b off l c;split at h
  case h_2=>cases h
  rename_i h0 h1 h2;have h0:=YW h0;have h1:(2*(l+n)+192)*te.bytes≤1000000000:=YW h1;have h2:l+n≤1000000000:=YW h2;have hrun:=fun(base:Option Addr) (cap:Nat) (w:World)=>run_append C hst hd hxt hnx hte (base:=base) (sLen:=l) (sCap:=cap) hlen (bd h1 two) (by omega) w rt;have hshape:∃a cap',s'= .slice (some a) l cap'∧l≤cap':=by
   cases hs with
   |slice he hg=>exact⟨_,_,rfl,h0⟩
   |gslice he hg hl hc hb=>exact⟨_,_,rfl,by omega⟩
   |zslice he=>exact⟨_,_,rfl,by omega⟩
  cases n with
  |zero=>
   injection h with h;subst h;obtain⟨a,cap',rfl,hcap'⟩:=hshape;have hz0:zs= #[]:=by
    have h3:=hz2.1;rw[hyl]at h3;simp at h3;exact Array.eq_empty_of_size_eq_zero h3.symm
   subst hz0;refine⟨.slice (some a) l cap',w,μ,?_,Mu.Ext.refl _ μ,R,hs,bg _ _,JP.refl _ _⟩;rw[harr,hrun];simp[GD,hcap',hz1,storeCells]
  |succ n1=>
   dsimp only at h
   split at h
   ·
    rename_i xs ro ho;split at h
    ·
     rename_i hroom;have hroom:=YW hroom;split at h
     case h_2=>cases h
     rename_i A' hA;injection h with h;subst h;have key:∀(e:Ent),μ b=some e→e.gr=none→s'= .slice (some ⟨e.blk,e.dl+off,none⟩) l c→Ok P μ B A w (Builtin.append_ ([st,xt]:List TypeId).toArray rt #[s',x']) (.slice (some ⟨b,off,none⟩) (Nat.add l (n1+1)) c) A':=by
      intro e he hg hs';subst hs';obtain⟨w',k1,k2,k3,k4,_⟩:=JM P R he hz2 hA;refine⟨_,w',μ,?_,Mu.Ext.refl _ μ,k2, .slice he hg,k3,k4⟩;rw[harr,hrun];have hroom':l+(n1+1)≤c:=hroom;have k1':(storeCells ⟨e.blk,e.dl+off+l*te.size,none⟩ zs.toList).run P w= .ok () w':=by
       rw[di];exact k1
      simp only[GD,if_pos hroom',ag,hz1,ae,Jt,k1'];rfl
     cases hs with
     |slice he hg=>exact key _ he hg rfl
     |gslice he hg hl hc hb=>exact absurd ((R.obj b _ _ ho he).1) (by rw[hg];simp)
     |zslice he=>have h5:0+(n1+1)≤0:=hroom;omega
    ·
     rename_i hroom;have hroom:¬l+(n1+1)≤c:=fun hle=>by have h5:Nat.ble (Nat.add l (n1+1)) c=true:=ju hle;rw[h5]at hroom;cases hroom
     split at h
     case h_2=>cases h
     rename_i old hold;split at h
     case h_2=>cases h
     rename_i A' hA;injection h with h;subst h;have key:∀(e:Ent) (a:Addr),μ b=some e→(l=0∨a=⟨e.blk,e.dl+off,none⟩)→s'= .slice (some a) l c→Ok P μ B A w (Builtin.append_ ([st,xt]:List TypeId).toArray rt #[s',x']) (.slice (some ⟨A.next,0,none⟩) (Nat.add l (n1+1)) (Nat.add l (n1+1))) A':=by
      intro e a he ha hs';subst hs';have hold2:∃os:Array Value,(Builtin.firstCells te.size l (.slice (some a) l c)).run P w.drew= .ok os w.drew∧XF μ old os.toList∧old.length=l*te.size:=by
       obtain⟨os,o1,o2,o3⟩:=Kh (w:=w.drew) P R he hold;rcases ha with ha|ha
       ·subst ha;refine⟨#[],by simp[Builtin.firstCells,loadCells,loadCellsFrom],?_,o3⟩;have h5:old.length=0*te.size:=o3;have:old=[]:=dj.1 (by rw[h5,Nat.zero_mul]);rw[this];exact .nil
       ·subst ha;exact⟨os,o1,o2,o3⟩
      obtain⟨os,o1,o2,o3⟩:=hold2;obtain⟨c',hc1,hc2⟩:=Hz (el:=el) (zero:=te.zero) (base:=some a) (sLen:=l) (sCap:=c) (old:=os) hroom o1 hz1d;rw[KT]at hA;obtain⟨R',K,Bw,hm⟩:=VU (w:=w.drew) R hA (arr:=os++zs++Builtin.zeroCells te.zero.cells (c' - (l+(n1+1)))) (t:=el) (fr:=(0,0)) (.inl rfl) (ys:=os.toList++zs.toList) (rest:=(Builtin.zeroCells te.zero.cells (c' - (l+(n1+1)))).toList) (by simp) (o2.app hz2);refine⟨_,_,_,by rw[harr,hrun];exact hc2,hm,R',?_,YX R.base _,K⟩;have hcap:=PP (te:=te) (zero:=te.zero) (C.zsize hte) (old:=os) (new:=zs) (m:=l+(n1+1)) (c:=c') (by have e1:=hz2.1;have e2:=o2.1;simp at e1 e2;rw[dr];omega) hc1;exact Jw (μ:=μ) (b:=A.next) (blk:=w.heap.size) (dl:=0) (g:=⟨te.size,A.next,0⟩) hc1 (by rw[bf];exact hcap)
     cases hs with
     |slice he hg=>exact key _ _ he (.inr rfl) rfl
     |gslice he hg hl hc hb=>exact absurd ((R.obj b _ _ ho he).1) (by rw[hg];simp)
     |zslice he=>exact key _ _ he (.inl rfl) rfl
   ·
    rename_i xs g ho;split at h
    case h_2=>cases h
    rename_i A' hA;injection h with h;subst h;obtain⟨e0,he0⟩:∃e,μ b=some e:=by cases hs<;>exact⟨_,‹_›⟩
    have hg0:e0.gr=some g:=(R.obj b _ e0 ho he0).1;have inNew:∀(a:Addr) (cap':Nat),¬l+(n1+1)≤cap'→(l=0∨a=⟨e0.blk,e0.dl+off,none⟩)→s'= .slice (some a) l cap'→Ok P μ B A w (Builtin.append_ ([st,xt]:List TypeId).toArray rt #[s',x']) (.slice (some ⟨A.next,0,none⟩) (Nat.add l (n1+1)) (Nat.add l (n1+1))) A':=by
     intro a cap' hroom ha hs';subst hs';obtain⟨g1,old,_,_,hold,hol,_⟩:=Qu R he0 hA;have hold2:∃os:Array Value,(Builtin.firstCells te.size l (.slice (some a) l cap')).run P w.drew= .ok os w.drew∧XF μ old os.toList:=by
      obtain⟨os,o1,o2,o3⟩:=Kh (w:=w.drew) P R he0 hold;rcases ha with ha|ha
      ·subst ha;refine⟨#[],by simp[Builtin.firstCells,loadCells,loadCellsFrom],?_⟩;have h5:old.length=0*te.size:=hol;have:old=[]:=dj.1 (by rw[h5,Nat.zero_mul]);rw[this];exact .nil
      ·subst ha;exact⟨os,o1,o2⟩
     obtain⟨os,o1,o2⟩:=hold2;obtain⟨c',hc1,hc2⟩:=Hz (el:=el) (zero:=te.zero) (base:=some a) (sLen:=l) (sCap:=cap') (old:=os) hroom o1 hz1d;obtain⟨g2,k1,k2,R',K,Bw,hm⟩:=Dz (w:=w.drew) R he0 hA (arr:=os++zs++Builtin.zeroCells te.zero.cells (c' - (l+(n1+1)))) (t:=el) (old':=os.toList) (new':=zs.toList) (rest:=(Builtin.zeroCells te.zero.cells (c' - (l+(n1+1)))).toList) (by simp)
      (by intro o ho2;rw[hold]at ho2;injection ho2 with ho2;subst ho2;exact o2) hz2
     refine⟨_,_,_,by rw[harr,hrun];exact hc2,hm,R',?_,YX R.base _,K⟩;have hcap:=PP (te:=te) (zero:=te.zero) (C.zsize hte) (old:=os) (new:=zs) (m:=l+(n1+1)) (c:=c') (by have e1:=hz2.1;have e2:=o2.1;have e3:old.length=l*te.size:=hol;simp at e1 e2;rw[dr];omega) hc1;exact Jw (μ:=μ) (b:=A.next) (blk:=w.heap.size) (dl:=0) (g:=⟨g2.esz,g2.fam,g2.base+off⟩) hc1 (by rw[bf,k2];exact hcap)
    cases hs with
    |slice he hg=>rw[he0]at he;injection he with he;subst he;rw[hg0]at hg;cases hg
    |zslice he=>exact inNew _ _ (by omega) (.inl rfl) rfl
    | @gslice _ _ _ _ cap' e1 g1 he hg hl hc hb=>
     rw[he0]at he;injection he with he;subst he;rw[hg0]at hg;injection hg with hg;subst hg;by_cases hroom:l+(n1+1)≤cap'
     ·have hyl':ys.length=zs.size:=by have:=hz2.1;simpa using this
      have hge:g.esz=te.size:=by
       obtain⟨g1,_,h3,h4,_⟩:=Qu R he0 hA;rw[hg0]at h3;injection h3 with h3;subst h3;exact h4
      have hmulr:=cr g.esz hroom;rw[dr]at hmulr;have hroom2:e0.dl+off+l*te.size+ys.length≤e0.csz:=by
       rw[hyl,←hge];omega
      obtain⟨g2,w',k1,k2,k3,R',K,Bw,_,hm⟩:=F2 P R he0 hA hz2 hroom2;rw[hg0]at k1;injection k1 with k1;subst k1;refine⟨.slice (some ⟨e0.blk,e0.dl+off,none⟩) (l+(n1+1)) cap',w',_,?_,hm,R',?_,Bw,K⟩
      ·rw[harr,hrun];have k3':(storeCells ⟨e0.blk,e0.dl+off+l*te.size,none⟩ zs.toList).run P w= .ok () w':=k3;simp only[GD,if_pos hroom,ag,hz1,ae,Jt,k3'];rfl
      ·exact Jw (μ:=μ) (b:=A.next) (blk:=e0.blk) (dl:=e0.dl+off) (g:=⟨g.esz,g.fam,g.base+off⟩) hroom hb
     ·exact inNew _ _ hroom (.inr rfl) rfl
   ·cases h
 ·cases h
def QU(T:Tab)(A:Xx)(ats:List TypeId)(s x:Value):Option (Value×Xx):=
 match ats with
 |[st,xt]=>
  match T.ty.get st,T.ty.get xt with
  |some ti,some tx=>
   match ti.desc,tx.desc with
   | .slice el, .int _=>
    match T.ty.get el with
    |some te=>
     match te.size,s,x with
     |_+1, .slice none 0 0, .int _ (.ofNat n)=>
      match Nat.ble (Nat.mul (Nat.add (Nat.mul 2 n) 192) te.bytes) 1000000000,Nat.ble n 1000000000 with
      |true,true=>
       (match n with
        |0=>some (s,A)
        |m+1=>(match PA A te.size (PU te.zero.cells.toList (Nat.succ m))with|some A'=>some (.slice (some ⟨A.next,0,none⟩) (Nat.succ m) (Nat.succ m),A')|none=>none))
      |_,_=>none
     |_,_,_=>none
    |none=>none
   |_,_=>none
  |_,_=>none
 |_=>none
theorem UC{n:Nat}(h:n≤1000000000):IntKind.i64.wrap (n:Int)=n:=by
 have e:(n:Int)%2^64=n:=by omega
 simp only[IntKind.wrap,IntKind.signed,IntKind.bits,e];rw[if_neg (by simp;omega)]
theorem BK(C:YN P T)(R:Yi μ B A w.heap){ats:List TypeId}{s x s' x':Value}(hs:XI μ s s')(hx:XI μ x x'){r:Value×Xx}(h:QU T A ats s x=some r)(rt:TypeId):
  Ok P μ B A w (Builtin.append_ ats.toArray rt #[s',x']) r.1 r.2:=by
 unfold QU at h;split at h
 case h_2=>cases h
 rename_i st xt;split at h
 case h_2=>cases h
 rename_i ti tx hst hxt;split at h
 case h_2=>cases h
 rename_i el kx hd hkx;split at h
 case h_2=>cases h
 rename_i te hte;split at h
 case h_2=>cases h
 rename_i k ki n hsz;cases hs;cases hx;split at h
 case h_2=>cases h
 rename_i h1 h2;have h1:(2*n+192)*te.bytes≤1000000000:=YW h1;have h2:n≤1000000000:=YW h2;have hesz:1≤te.size:=by omega
 have hu:=fun w=>C.underlying hst w;have hux:=fun w=>C.underlying hxt w;obtain⟨_,info,i0,_,i3,_⟩:=C.ty el te hte;have i1:∀w,(typeInfo el).run P w= .ok info w:=fun w=>by simp[Go.typeInfo,i0]
 have i2:∀w,(zeroValue el).run P w= .ok te.zero w:=fun w=>C.zeroValue hte w;have hzs:=C.zsize hte;have hwr:IntKind.i64.wrap (Int.ofNat n)=(n:Int):=UC h2;have hnb:n*te.bytes≤1000000000:=bd (cr _ (by omega)) h1;have c0:¬((n:Int)<0):=by omega
 have c1:¬((n:Int)*(te.bytes:Nat)>2^48):=by
  have:((n:Int)*(te.bytes:Nat))=((n*te.bytes:Nat):Int):=by simp
  rw[this];omega
 have harr:([st,xt]:List TypeId).toArray= #[st,xt]:=rfl;cases n with
 |zero=>
  injection h with h;subst h;refine⟨.slice none 0 0,w,μ,?_,Mu.Ext.refl _ μ,R, .nilslice,bg _ _,JP.refl _ _⟩;rw[harr];have hwr0:IntKind.i64.wrap 0=0:=hwr;simp[Builtin.append_,hu,hd,hux,hkx,C.sizeOf hte,asInt,asIntOf,hwr0,i1,i3]
 |succ m=>
  dsimp only at h
  split at h
  case h_2=>cases h
  rename_i A' hA;injection h with h;subst h;have hns:=nextslicecap_le (m:=m+1) (c:=0) (by omega);have hmul:Builtin.nextslicecap (m+1) 0*te.bytes≤1000000000:=bd (cr _ hns) h1;have c2:¬(Builtin.nextslicecap (m+1) 0*te.bytes>2^48):=by omega
  have c3:¬(((m+1:Nat):Int)>IntKind.i64.max):=by
   simp only[IntKind.max,IntKind.signed,IntKind.bits,if_true];omega
  obtain⟨c,hc,hc1⟩:=VT (P:=P) (m+1) 0 el w;have hz0:¬((m+1)*te.size=0):=by
   have:=Nat.mul_le_mul (show 1≤m+1 by omega) hesz;omega
  have hzc:Builtin.zeroCells te.zero.cells (m+1)=(PU te.zero.cells.toList (m+1)).toArray:=by
   unfold Builtin.zeroCells;exact PT rfl
  have hrun:(Builtin.append_ #[st,xt] rt #[.slice none 0 0, .int ki (Int.ofNat (m+1))]).run P w=
    .ok (.slice (some ⟨w.heap.size,0,none⟩) (m+1) c) (w.drew.alloc (.cells (#[]++Builtin.zeroCells te.zero.cells (m+1)++Builtin.zeroCells te.zero.cells (c - (m+1))) el)):=by
   simp only[Builtin.append_,eo,cj,fb,ag,hu,hd,ae,C.sizeOf hte,hux,hkx,am,if_true,asInt,asIntOf,hwr,i1,i3,if_neg c0,if_neg c1,au,bf];rw[if_neg (by omega)];simp only[ag,i1,ae,Sem.run_ite,Bool.not_true,de,dg,hz0,i2,am];rw[if_neg (by intro hh;exact c3 hh.1),i3];rw[if_neg c2];simp only[hc,run_askRoom,ae];simp only[Builtin.firstCells,am,ae,newRow,ag,run_newObj];rfl
  have hrel:XF μ (PU te.zero.cells.toList (m+1)) (Builtin.zeroCells te.zero.cells (m+1)).toList:=by
   rw[hzc];simpa using Qe (Yu (C.closed hte) μ).cells (m+1)
  obtain⟨R',K,Bw,hm⟩:=VU (w:=w.drew) R hA (arr:=#[]++Builtin.zeroCells te.zero.cells (m+1)++Builtin.zeroCells te.zero.cells (c - (m+1))) (t:=el) (fr:=(0,0)) (.inl rfl) (ys:=(Builtin.zeroCells te.zero.cells (m+1)).toList) (rest:=(Builtin.zeroCells te.zero.cells (c - (m+1))).toList) (by simp) hrel;refine⟨_,_,_,by rw[harr];exact hrun,hm,R',?_,YX R.base _,K⟩;have hcap:=PP (te:=te) (zero:=te.zero) hzs (old:=#[]) (new:=Builtin.zeroCells te.zero.cells (m+1)) (m:=m+1) (c:=c) (by rw[HC,hzs];simp) hc1;exact Jw (μ:=μ) (b:=A.next) (blk:=w.heap.size) (dl:=0) (g:=⟨te.size,A.next,0⟩) hc1 (by rw[bf];exact hcap)
end
end
noncomputable section
theorem Yd{P:Program}{w:World}{r:Nat}{o:Obj}(h:w.heap[r]? =some o)(hc:∀c t f,o≠ .cells c t f):(getObj r).run P w= .ok o w:=by
 cases o<;>first|exact absurd rfl (hc _ _ _)|simp only[getObj,Sem.run,h]
theorem GL{P:Program}{w:World}{r:Nat}{o:Obj}(h:w.heap[r]? =some o)(hc:∀c t f,o≠ .cells c t f)(o':Obj):(setObj r o').run P w= .ok () (wr w r o'):=by
 cases o<;>first|exact absurd rfl (hc _ _ _)|(simp only[setObj,Sem.run,h];rfl)
def J9:TypeDesc→Bool
 | .int _| .string| .bool=>true
 |_=>false
def Qv(d:TypeDesc)(x y:Value):Option Bool:=
 match x,y with
 | .int k a, .int k' b=>(match d,decide (k=k')with| .int _,true=>some (iEq a b)|_,_=>none)
 | .string ⟨⟨a⟩⟩, .string ⟨⟨b⟩⟩=>(match d with| .string=>some (UD a b)|_=>none)
 | .bool a, .bool b=>(match d with| .bool=>some (match a,b with|true,true=>true|false,false=>true|_,_=>false)|_=>none)
 |_,_=>none
def Cc(d:TypeDesc)(k:Value)(es:List MapEntry):Nat→Option (Option (Nat×Value)):=
 List.rec (motive:=fun _=>Nat→Option (Option (Nat×Value))) (fun _=>some none)
  (fun e _ ih i=>match Qv d k e.key with
   |some true=>some (some (i,e.val))
   |some false=>ih (Nat.succ i)
   |none=>none) es
theorem ML(d:TypeDesc)(k:Value)(e:MapEntry)(es:List MapEntry)(i:Nat):Cc d k (e::es) i=
  match Qv d k e.key with
   |some true=>some (some (i,e.val))
   |some false=>Cc d k es (i+1)
   |none=>none:=rfl
section
variable {P:Program} {T:Tab} {μ:Mu} {B:Nat} {A:Xx} {w:World}
theorem Ux{d:TypeDesc}{x y x' y':Value}(hx:XI μ x x')(hy:XI μ y y'){b:Bool}(h:Qv d x y=some b):
  Instr.sameNow d x' y'=some b∧x'=x∧y'=y∧J9 d=true∧(b=true→Instr.sameBits 10000 y' x'=true):=by
 unfold Qv at h;split at h
 ·cases hx;cases hy;split at h
  ·rename_i hd hk;have hk:=bo hk;subst hk;injection h with h;subst h;refine⟨by simp[Instr.sameNow,ZV],rfl,rfl,rfl,?_⟩;intro hb;rw[ZV]at hb;have hb:=eq_of_beq hb;subst hb;simp[Instr.sameBits]
  ·cases h
 ·cases hx;cases hy;split at h
  ·injection h with h;subst h;refine⟨by simp[Instr.sameNow,GK,kz,jl],rfl,rfl,rfl,?_⟩;intro hb;rw[GK]at hb;have hb:=eq_of_beq hb;subst hb;simp[Instr.sameBits,kz]
  ·cases h
 ·cases hx;cases hy;split at h
  ·injection h with h;subst h;rename_i p q _;cases p<;>cases q<;>exact⟨rfl,rfl,rfl,rfl,by intro hb;first|rfl|cases hb⟩
  ·cases h
 ·cases h
def R8(μ:Mu):Option (Nat×Value)→Option (Nat×Value)→Prop
 |none,none=>True
 |some (i,v),some (j,u)=>i=j∧XI μ v u
 |_,_=>False
theorem Cb{d:TypeDesc}{k k':Value}(hk:XI μ k k'):∀{es es':List MapEntry},Y4 (EntRel μ) es es'→∀{i:Nat} {r:Option (Nat×Value)},Cc d k es i=some r→
  ∃r',Instr.findNow d k' es' i=some r'∧R8 μ r r'∧
   (∀j v,r=some (j,v)→∃e e',i≤j∧es[j - i]? =some e∧es'[j - i]? =some e'∧EntRel μ e e'∧Instr.sameBits 10000 e'.key k'=true∧e.key=e'.key):=by
 intro es
 induction es with
 |nil=>
  intro es' h i r hr;rw[h.nil_left];injection hr with hr;subst hr;exact⟨none,rfl,trivial,fun j v hc=>by cases hc⟩
 |cons e es ih=>
  intro es' h i r hr;obtain⟨e',es'',rfl,he,ht⟩:=h.cons_left;rw[ML]at hr;split at hr
  ·rename_i hs;injection hr with hr;subst hr;obtain⟨h1,h2,h3,_,h5⟩:=Ux hk he.1 hs;refine⟨some (i,e'.val),by simp[Instr.findNow,h1],⟨rfl,he.2.1⟩,?_⟩;intro j v hj;injection hj with hj;injection hj with hj1 hj2;subst hj1;subst hj2;refine⟨e,e',ak _,by simp,by simp,he,h5 rfl,h3.symm⟩
  ·rename_i hs;obtain⟨h1,_⟩:=Ux hk he.1 hs;obtain⟨r',g1,g2,g3⟩:=ih ht hr;refine⟨r',by simp[Instr.findNow,h1,g1],g2,?_⟩;intro j v hj;obtain⟨a,a',l1,l2,l3,l4⟩:=g3 j v hj;have e1:j - i=(j - (i+1))+1:=by omega
   exact⟨a,a',by omega,by rw[e1];simpa using l2,by rw[e1];simpa using l3,l4⟩
  ·cases hr
theorem KV(C:YN P T){kt:TypeId}{tk:TI}(h:T.ty.get kt=some tk)(hk:J9 tk.desc=true)(em:Bool)(n:Nat)(v:Value)(w:World):(Instr.checkKey em (n+1) kt v).run P w= .ok () w:=by
 have hu:=C.underlying h w;unfold J9 at hk;split at hk
 ·rename_i k hd;rw[hd]at hu;simp only[Instr.checkKey,ag,hu,ae];rfl
 ·rename_i hd;rw[hd]at hu;simp only[Instr.checkKey,ag,hu,ae];rfl
 ·rename_i hd;rw[hd]at hu;simp only[Instr.checkKey,ag,hu,ae];rfl
 ·cases hk
theorem Ih(C:YN P T){kt:TypeId}{tk:TI}(h:T.ty.get kt=some tk)(hk:J9 tk.desc=true)(em:Bool)(v:Value)(w:World):(Instr.checkKey em 10000 kt v).run P w= .ok () w:=
 KV C h hk em 9999 v w
theorem Zb{v v':Value}(h:Xy v=true)(hv:XI μ v v'):v'=v:=by
 unfold Xy at h;split at h<;>first
  |(cases h;done)
  |(cases hv;rfl)
theorem Pr{v v':Value}(h:YQ v=true)(hv:XI μ v v'):v'=v:=by
 unfold YQ at h;split at h
 ·rename_i cs;obtain⟨ys,rfl,hl⟩:=HZ hv;have key:∀l:List Value,(List.rec (motive:=fun _=>Bool) true (fun c _ r=>match Xy c with|true=>r|false=>false) l:Bool)=true→∀m,XF μ l m→m=l:=by
   intro l
   induction l with
   |nil=>intro _ m hm;exact hm.nil_left
   |cons a l ih=>
    intro hl m hm;obtain⟨y,m',rfl,h1,h2⟩:=hm.cons_left;have hl':(match Xy a with|true=>(List.rec (motive:=fun _=>Bool) true (fun c _ r=>match Xy c with|true=>r|false=>false) l:Bool)|false=>false)=true:=hl;cases ha:Xy a with
    |false=>rw[ha]at hl';cases hl'
    |true=>
     rw[ha]at hl';rw[Zb ha h1,ih hl' m' h2]
  have:=key _ h _ hl
  congr 1
  exact fz this
 ·obtain⟨ys,rfl,hl⟩:=Ir hv;have:=hl.nil_left
  congr 1
  exact fz this
 ·exact Zb h hv
def Ug(T:Tab)(cs:List Value)(l:List (TypeId×Nat)):Bool:=
 List.rec (motive:=fun _=>Bool) true
  (fun p _ r=>match T.ty.get p.1,G4 T p.1 cs p.2 with
   |some tf,some _=>(match J9 tf.desc with|true=>r|false=>false)
   |_,_=>false) l
def PZ(T:Tab)(el:TypeId)(esz:Nat)(cs:List Value)(n:Nat):Nat→Bool:=
 Nat.rec (motive:=fun _=>Nat→Bool) (fun _=>true)
  (fun _ r i=>match G4 T el cs (Nat.mul i esz)with|some _=>r (Nat.succ i)|none=>false) n
def Ap(T:Tab)(kt:TypeId)(d:TypeDesc)(k:Value):Bool:=
 match J9 d with
 |true=>true
 |false=>
  match d,k with
  | .struct _, .agg ⟨cs⟩=>(match T.eqs.get kt with|some l=>Ug T cs l|none=>false)
  | .array n el, .agg ⟨cs⟩=>(match T.ty.get el with|some te=>(match J9 te.desc with|true=>PZ T el te.size cs n 0|false=>false)|none=>false)
  |_,_=>false
theorem Y8(C:YN P T){kt:TypeId}{tk:TI}(h:T.ty.get kt=some tk){k k':Value}(hk:XI μ k k')(ho:Ap T kt tk.desc k=true)(em:Bool)(w:World):(Instr.checkKey em 10000 kt k').run P w= .ok () w:=by
 have gen:∀m,(∀(t:TypeId) (tf:TI) (v:Value),T.ty.get t=some tf→J9 tf.desc=true→(Instr.checkKey em m t v).run P w= .ok () w)→(Instr.checkKey em (m+1) kt k').run P w= .ok () w:=by
  intro m hm;unfold Ap at ho;split at ho
  ·rename_i hb;exact KV C h hb em m k' w
  ·split at ho
   ·rename_i fs cs hdesc;split at ho
    case h_2=>cases ho
    rename_i l hl;obtain⟨ys,rfl,hv⟩:=HZ hk;have hu:=C.underlying h w;have hu':=(C.ty kt tk h).1;rw[hdesc]at hu';obtain⟨_,hfl⟩:=(C.eqs kt l hl).2 fs hu';simp only[Instr.checkKey,ag,hu,hdesc,ae];rw[←Array.forIn_toList];have key:∀(gs:List Field),Ug T cs ((gs.filter fun f=>decide (f.name≠ "_")).map fun f=>(f.type,f.offset))=true→
      ((forIn gs PUnit.unit fun(f:Field) (_:PUnit)=>(do
       if f.name≠ "_" then do
        let x←part f.type ys f.offset
        Instr.checkKey em m f.type x
        pure (ForInStep.yield PUnit.unit)
       else pure (ForInStep.yield PUnit.unit):Sem (ForInStep PUnit)))).run P w= .ok PUnit.unit w:=by
     intro gs
     induction gs with
     |nil=>intro _;rfl
     |cons f gs ih=>
      intro hg;simp only[lc,ag];by_cases hf:f.name= "_"
      ·rw[fc (by simp[hf])]at hg;simp only[hf,ne_eq,not_true_eq_false,dg,am,ae];exact ih hg
      ·rw[ey (by simp[hf])]at hg;have hg':(match T.ty.get f.type,G4 T f.type cs f.offset with
        |some tf,some _=>(match J9 tf.desc with|true=>Ug T cs ((gs.filter fun f=>decide (f.name≠ "_")).map fun f=>(f.type,f.offset))|false=>false)
        |_,_=>false)=true:=hg
       split at hg'
       ·rename_i tf v0 htf hpart;split at hg'
        ·rename_i hkf;obtain⟨v',hp1,_⟩:=J5 C hv hpart w;simp only[ne_eq,hf,jq,if_true,ag,hp1,ae,hm _ _ _ htf hkf,am];exact ih hg'
        ·cases hg'
       ·cases hg'
    rw[←hfl]at ho;have:=key fs.toList ho;exact(ee (fun r=>Result.andThen r (fun _ w'=>Sem.run P (Pure.pure ()) w')) this).trans rfl
   ·rename_i n el cs hdesc;split at ho
    case h_2=>cases ho
    rename_i te hte;split at ho
    case h_2=>cases ho
    rename_i hke;obtain⟨ys,rfl,hv⟩:=HZ hk;have hu:=C.underlying h w;simp only[Instr.checkKey,ag,hu,hdesc,ae];rw[Std.Legacy.Range.forIn_eq_forIn_range'];simp only[Std.Legacy.Range.size,ji,Nat.add_one_sub_one,Nat.div_one];have key:∀(q i:Nat),PZ T el te.size cs q i=true→
      ((forIn (List.range' i q) PUnit.unit fun(j:Nat) (_:PUnit)=>(do
       let s←sizeOf el
       let x←part el ys (j*s)
       Instr.checkKey em m el x
       pure (ForInStep.yield PUnit.unit):Sem (ForInStep PUnit)))).run P w= .ok PUnit.unit w:=by
     intro q
     induction q with
     |zero=>intro i _;rfl
     |succ q ih=>
      intro i hg;have hg':(match G4 T el cs (Nat.mul i te.size)with|some _=>PZ T el te.size cs q (i+1)|none=>false)=true:=hg;split at hg'
      ·rename_i v0 hpart;obtain⟨v',hp1,_⟩:=J5 C hv hpart w;have hp1:(part el ys (i*te.size)).run P w= .ok v' w:=hp1;simp only[gy,lc,ag,C.sizeOf hte,hp1,ae,hm _ _ _ hte hke,am];exact ih _ hg'
      ·cases hg'
    have:=key n 0 ho;exact(ee (fun r=>Result.andThen r (fun _ w'=>Sem.run P (Pure.pure ()) w')) this).trans rfl
   ·cases ho
 exact gen 9999 (fun t tf v ht hk=>KV C ht hk em 9998 v w)
def PB(T:Tab)(A:Xx)(kt:TypeId)(k:Value)(es:List MapEntry):Nat→Option (Option (Nat×Value)):=
 List.rec (motive:=fun _=>Nat→Option (Option (Nat×Value))) (fun _=>some none)
  (fun e _ ih i=>match YQ e.key,aEq T A 12 kt k e.key with
   |true,some true=>(match Instr.sameBits 10000 e.key k with|true=>some (some (i,e.val))|false=>none)
   |true,some false=>ih (Nat.succ i)
   |_,_=>none) es
theorem F4(T:Tab)(A:Xx)(kt:TypeId)(k:Value)(e:MapEntry)(es:List MapEntry)(i:Nat):PB T A kt k (e::es) i=
  match YQ e.key,aEq T A 12 kt k e.key with
   |true,some true=>(match Instr.sameBits 10000 e.key k with|true=>some (some (i,e.val))|false=>none)
   |true,some false=>PB T A kt k es (i+1)
   |_,_=>none:=rfl
def EN(T:Tab)(A:Xx)(kt:TypeId)(d:TypeDesc)(k:Value)(es:List MapEntry):Option (Option (Nat×Value)):=
 match J9 d with
 |true=>Cc d k es 0
 |false=>(match d,YQ k with| .struct _,true=>PB T A kt k es 0| .array _ _,true=>PB T A kt k es 0|_,_=>none)
theorem GG(C:YN P T)(R:Yi μ B A w.heap){kt:TypeId}{tk:TI}(h:T.ty.get kt=some tk){k k':Value}(hk:XI μ k k'){es es':List MapEntry}(he:Y4 (EntRel μ) es es'){r:Option (Nat×Value)}(hr:EN T A kt tk.desc k es=some r):
  ∃r',(Instr.findKey kt k' es').run P w= .ok r' w∧R8 μ r r'∧
   (∀j v,r=some (j,v)→∃e e',es[j]? =some e∧es'[j]? =some e'∧EntRel μ e e'∧Instr.sameBits 10000 e'.key k'=true):=by
 unfold EN at hr;split at hr
 ·obtain⟨r',g1,g2,g3⟩:=Cb hk he hr;refine⟨r',?_,g2,?_⟩
  ·simp only[Instr.findKey,ag,C.underlying h,ae,g1];rfl
  ·intro j v hj;obtain⟨e,e',_,q1,q2,q3,q4,_⟩:=g3 j v hj;exact⟨e,e',q1,q2,q3,q4⟩
 ·rename_i hkk;have main:YQ k=true→PB T A kt k es 0=some r→(∀e0 l,Instr.findNow tk.desc k' (e0::l) 0=none)→∃r',(Instr.findKey kt k' es').run P w= .ok r' w∧R8 μ r r'∧
    (∀j v,r=some (j,v)→∃e e',es[j]? =some e∧es'[j]? =some e'∧EntRel μ e e'∧Instr.sameBits 10000 e'.key k'=true):=by
   intro hck hr hd0;have hkk':=Pr hck hk;subst hkk';have ask:∀{es es':List MapEntry},Y4 (EntRel μ) es es'→∀{i:Nat} {r:Option (Nat×Value)},PB T A kt k' es i=some r→
     ∃r',(Instr.findAsking kt k' es' i).run P w= .ok r' w∧R8 μ r r'∧
      (∀j v,r=some (j,v)→∃e e',i≤j∧es[j - i]? =some e∧es'[j - i]? =some e'∧EntRel μ e e'∧Instr.sameBits 10000 e'.key k'=true):=by
    intro es
    induction es with
    |nil=>
     intro es' h i r hr;rw[h.nil_left];injection hr with hr;subst hr;exact⟨none,rfl,trivial,fun j v hc=>by cases hc⟩
    |cons e es ih=>
     intro es' h i r hr;obtain⟨e',es'',rfl,he,ht⟩:=h.cons_left;rw[F4]at hr;split at hr
     ·rename_i hce hae;split at hr
      ·rename_i hsb;injection hr with hr;subst hr;have hke:=Pr hce he.1;have hrun:=I2 C R 12 kt k' e.key k' e'.key true hae hk he.1 10000 (by omega);refine⟨some (i,e'.val),?_,⟨rfl,he.2.1⟩,?_⟩
       ·simp only[Instr.findAsking,ag,Op.equal,Op.maxDepth,hrun,ae,if_true,am]
       ·intro j v hj;injection hj with hj;injection hj with hj1 hj2;subst hj1;exact⟨e,e',ak _,by simp,by simp,he,by rw[hke];exact hsb⟩
      ·cases hr
     ·rename_i hce hae;have hrun:=I2 C R 12 kt k' e.key k' e'.key false hae hk he.1 10000 (by omega);obtain⟨r',g1,g2,g3⟩:=ih ht hr;refine⟨r',?_,g2,?_⟩
      ·simp only[Instr.findAsking,ag,Op.equal,Op.maxDepth,hrun,ae,de,dg];exact g1
      ·intro j v hj;obtain⟨a,a',l1,l2,l3,l4⟩:=g3 j v hj;have e1:j - i=(j - (i+1))+1:=by omega
       exact⟨a,a',by omega,by rw[e1];simpa using l2,by rw[e1];simpa using l3,l4⟩
     ·cases hr
   obtain⟨r',g1,g2,g3⟩:=ask he hr;refine⟨r',?_,g2,?_⟩
   ·have hnow:Instr.findNow tk.desc k' es' 0=(match es' with|[]=>some none|_=>none):=by
     cases es' with
     |nil=>rfl
     |cons e0 l=>exact hd0 e0 l
    simp only[Instr.findKey,ag,C.underlying h,ae,hnow];cases es' with
    |nil=>exact g1
    |cons e0 l=>exact g1
   ·intro j v hj;obtain⟨e,e',_,q1,q2,q3,q4⟩:=g3 j v hj;exact⟨e,e',by simpa using q1,by simpa using q2,q3,q4⟩
  split at hr
  ·rename_i fs hdesc hck;exact main hck hr (fun e0 l=>by rw[hdesc];rfl)
  ·rename_i n el hdesc hck;exact main hck hr (fun e0 l=>by rw[hdesc];rfl)
  ·cases hr
def N1(A:Xx)(x:Value):Option (List MapEntry):=
 match x with
 | .map none=>some []
 | .map (some r)=>(match A.heap.get r with|some (.map es _)=>some es|_=>none)
 |_=>none
def HV(T:Tab)(A:Xx)(t:TypeId)(x k:Value)(ok:Bool):Option Value:=
 match T.ty.get t with
 |some ti=>
  match ti.desc with
  | .map kt et=>
   match T.ty.get kt,T.ty.get et,N1 A x with
   |some tk,some te,some es=>
    match Ap T kt tk.desc k,EN T A kt tk.desc k es with
    |true,some r=>
     (match r with
      |some (_,v)=>(match ok with|true=>some (.tuple ⟨[v, .bool true]⟩)|false=>some v)
      |none=>(match ok with|true=>some (.tuple ⟨[te.zero, .bool false]⟩)|false=>some te.zero))
    |_,_=>none
   |_,_,_=>none
  |_=>none
 |none=>none
theorem Iw(R:Yi μ B A w.heap){x x':Value}(hx:XI μ x x'){es:List MapEntry}(h:N1 A x=some es):
  ∃es':Array MapEntry,Y4 (EntRel μ) es es'.toList∧((x'= .map none∧es'= #[])∨∃r cl,x'= .map (some r)∧(getObj r).run P w= .ok (.map es' cl) w):=by
 unfold N1 at h;split at h
 ·injection h with h;subst h;cases hx;exact⟨#[], .nil, .inl ⟨rfl,rfl⟩⟩
 ·rename_i r;split at h
  ·rename_i es0 cl ho;injection h with h;subst h;cases hx with
   |map he=>
   obtain⟨_,_,es',h1,h2⟩:=R.obj r _ _ ho he;exact⟨es',h2, .inr ⟨_,cl,rfl,Yd h1 (by intro c t f hc;cases hc)⟩⟩
  ·cases h
 ·cases h
def Vv(et:TypeId)(ok:Bool):Option (Nat×Value)→Sem Value
 |some (_,v)=>pure (if ok then .tuple #[v, .bool true]else v)
 |none=>do
  let v←zeroValue et
  pure (if ok then .tuple #[v, .bool false]else v)
theorem Fs(C:YN P T)(R:Yi μ B A w.heap){t:TypeId}{x x' k k':Value}(hx:XI μ x x')(hk:XI μ k k'){ok:Bool}{v:Value}(h:HV T A t x k ok=some v):
  ∃v',(Instr.lookup t x' k' ok).run P w= .ok v' w∧XI μ v v':=by
 unfold HV at h;split at h
 case h_2=>cases h
 rename_i ti ht;split at h
 case h_2=>cases h
 rename_i kt et hd;split at h
 case h_2=>cases h
 rename_i tk te es htk hte hes;split at h
 case h_2=>cases h
 rename_i r hkk hf;obtain⟨es',hrel,hcase⟩:=Iw (P:=P) R hx hes;obtain⟨r',hfk,hfr,_⟩:=GG (P:=P) (w:=w) C R htk hk hrel hf;have hz:=Yu (C.closed hte) μ;have hu:=C.underlying ht w;have hck:=fun em=>Y8 C htk hk hkk em w;have tup:∀a a' b,XI μ a a'→XI μ (.tuple ⟨[a, .bool b]⟩) (.tuple #[a', .bool b]):=fun a a' b h1=>XF.tuple (.cons h1 (.cons (.bool b) .nil));have pre:(Instr.lookup t x' k' ok).run P w=(Vv et ok r').run P w:=by
  rcases hcase with⟨rfl,rfl⟩|⟨r0,cl,rfl,hg⟩
  ·simp only[Instr.lookup,ag,hu,hd,ae,am,hck,hfk];cases r' with
   |none=>simp[Vv,C.zeroValue hte]
   |some p=>rfl
  ·simp only[Instr.lookup,ag,hu,hd,ae,am,hg,hck,hfk];cases r' with
   |none=>simp[Vv,C.zeroValue hte]
   |some p=>rfl
 split at h
 ·rename_i i v0;cases r' with
  |none=>exact hfr.elim
  |some p=>
   obtain⟨j,v0'⟩:=p;obtain⟨_,hv0⟩:=hfr;split at h
   ·injection h with h;subst h;exact⟨_,by rw[pre];rfl,tup _ _ _ hv0⟩
   ·injection h with h;subst h;exact⟨_,by rw[pre];rfl,hv0⟩
 ·cases r' with
  |some p=>exact hfr.elim
  |none=>
   split at h
   ·injection h with h;subst h;exact⟨_,by rw[pre];simp[Vv,C.zeroValue hte],tup _ _ _ hz⟩
   ·injection h with h;subst h;exact⟨_,by rw[pre];simp[Vv,C.zeroValue hte],hz⟩
def A0(es:List MapEntry)(i:Nat)(k v:Value):Option (List MapEntry):=
 match nth es i with
 |some e=>some (MT {key:=k,val:=v,born:=e.born} es i)
 |none=>none
def JD(T:Tab)(A:Xx)(t:TypeId)(x k v:Value):Option Xx:=
 match x,T.ty.get t with
 | .map (some r),some ti=>
  match ti.desc with
  | .map kt _=>
   match T.ty.get kt,A.heap.get r with
   |some tk,some (.map es cl)=>
    match Ap T kt tk.desc k,EN T A kt tk.desc k es with
    |true,some (some (i,_))=>(match A0 es i k v with|some es'=>some (Up A r (.map es' cl))|none=>none)
    |true,some none=>some (Up A r (.map (app es [{key:=k,val:=v,born:=cl}]) (Nat.succ cl)))
    |_,_=>none
   |_,_=>none
  |_=>none
 |_,_=>none
theorem VY{old new:Value}(h:Instr.sameBits 10000 old new=true)(w:World):(Instr.keyThatStays old new).run P w= .ok new w:=by
 simp only[Instr.keyThatStays,h,if_true,am]
theorem Vu(R:Yi μ B A w.heap){r:Nat}{e:Ent}{es es2:List MapEntry}{cl cl2:Nat}(he:μ r=some e)(ho:A.heap.get r=some (.map es cl)){es2':Array MapEntry}(h2:Y4 (EntRel μ) es2 es2'.toList):
  ∃es':Array MapEntry,(getObj e.blk).run P w= .ok (.map es' cl) w∧Y4 (EntRel μ) es es'.toList∧(setObj e.blk (.map es2' cl2)).run P w= .ok () (wr w e.blk (.map es2' cl2))∧
   Yi μ B (Up A r (.map es2 cl2)) (wr w e.blk (.map es2' cl2)).heap∧JP μ A (Up A r (.map es2 cl2))∧Below B w (wr w e.blk (.map es2' cl2)):=by
 obtain⟨hg,hB,es',h1,h3⟩:=R.obj r _ e ho he;have hlt:=(R.dom r e he).2.1;have hn:∀c t f,(Obj.map es' cl)≠ .cells c t f:=by intro c t f hc;cases hc
 obtain⟨k1,k2,k3⟩:=GC R he hg hB (o:= .map es2 cl2) trivial (o':= .map es2' cl2) ⟨hg,hB,es2',Kx hlt _,h2⟩;exact⟨es',Yd h1 hn,h3,GL h1 hn _,k1,k2,k3⟩
theorem LS{es:List MapEntry}{es':Array MapEntry}(h:Y4 (EntRel μ) es es'.toList){i:Nat}{k k' v v':Value}(hk:XI μ k k')(hv:XI μ v v'){es2:List MapEntry}(h2:A0 es i k v=some es2):
  Y4 (EntRel μ) es2 (es'.modify i fun e=>{e with key:=k',val:=v'}).toList:=by
 unfold A0 at h2;split at h2
 ·rename_i e he;injection h2 with h2;subst h2;rw[YA]at he;rw[Gs];obtain⟨e',he',hr⟩:=h.get he;refine⟨by simp[h.1],fun j a b ha hb=>?_⟩;rw[cq]at ha;simp only[eh,gi]at hb;by_cases hij:i=j
  ·subst hij;have hlt:=(ah.1 he).1;simp[hlt]at ha;have he'':es'[i]? =some e':=by simpa using he'
   simp[he'']at hb;subst ha;subst hb;exact⟨hk,hv,hr.2.2⟩
  ·simp[hij]at ha hb;exact h.2 j a b ha (by simpa using hb)
 ·cases h2
theorem Ha(C:YN P T)(R:Yi μ B A w.heap){t:TypeId}{x x' k k' v v':Value}(hx:XI μ x x')(hk:XI μ k k')(hv:XI μ v v'){A':Xx}(h:JD T A t x k v=some A'):
  ∃w',(Instr.mapUpdate t x' k' v').run P w= .ok () w'∧Yi μ B A' w'.heap∧Below B w w'∧JP μ A A':=by
 unfold JD at h;split at h
 case h_2=>cases h
 rename_i r ti ht;cases hx with
 | @map _ e he=>
 split at h
 case h_2=>cases h
 rename_i kt et hd;split at h
 case h_2=>cases h
 rename_i tk es cl htk ho;have hu:=C.underlying ht w;split at h
 ·rename_i i v0 hkk hf;split at h
  case h_2=>cases h
  rename_i es2 hes2;injection h with h;subst h;have hck:=fun em=>Y8 C htk hk hkk em w;obtain⟨_,_,es',h1,h3⟩:=R.obj r _ e ho he;obtain⟨r',hfk,g2,g3⟩:=GG (P:=P) (w:=w) C R htk hk h3 hf;obtain⟨e1,e1',q1,q2,q3,q4⟩:=g3 i v0 rfl;cases r' with
  |none=>exact g2.elim
  |some p=>
  obtain⟨j,u⟩:=p;obtain⟨rfl,_⟩:=g2;obtain⟨es'',k1,_,k3,k4,k5,k6⟩:=Vu (P:=P) (cl2:=cl) R he ho (LS h3 hk hv hes2);have:es''=es':=by
   have:=Yd (P:=P) (w:=w) h1 (by intro c t f hc;cases hc);rw[this]at k1;injection k1 with k1;injection k1 with k1;exact k1.symm
  subst this;refine⟨_,?_,k4,k6,k5⟩;have hkey:(es''[i]?.map (·.key)).getD k'=e1'.key:=by
   simp at q2;simp[q2]
  have hst:=VY (P:=P) q4 w;simp only[Instr.mapUpdate,ag,hu,hd,ae,k1,hck,hfk,hkey,hst];exact k3
 ·rename_i hkk hf;injection h with h;subst h;have hck:=fun em=>Y8 C htk hk hkk em w;obtain⟨_,_,es',h1,h3⟩:=R.obj r _ e ho he;obtain⟨r',hfk,g2,_⟩:=GG (P:=P) (w:=w) C R htk hk h3 hf;cases r' with
  |some p=>exact g2.elim
  |none=>
  have hnew:Y4 (EntRel μ) (app es [{key:=k,val:=v,born:=cl}]) (es'.push {key:=k',val:=v',born:=cl}).toList:=by
   rw[KT];simp only[Array.toList_push];exact h3.app (.cons ⟨hk,hv,rfl⟩ .nil)
  obtain⟨es'',k1,_,k3,k4,k5,k6⟩:=Vu (P:=P) (cl2:=cl+1) R he ho hnew;have:es''=es':=by
   have:=Yd (P:=P) (w:=w) h1 (by intro c t f hc;cases hc);rw[this]at k1;injection k1 with k1;injection k1 with k1;exact k1.symm
  subst this;refine⟨_,?_,k4,k6,k5⟩;simp only[Instr.mapUpdate,ag,hu,hd,ae,k1,hck,hfk];exact k3
 ·cases h
end
end
noncomputable section
section
variable {P:Program} {T:Tab} {μ:Mu} {B:Nat} {A:Xx} {w:World}
theorem Q0{es:List MapEntry}{es':Array MapEntry}(h:Y4 (EntRel μ) es es'.toList){i:Nat}{e:MapEntry}(he:es[i]? =some e){e2:MapEntry}{f:MapEntry→MapEntry}(hf:∀x,EntRel μ e x→EntRel μ e2 (f x)):
  Y4 (EntRel μ) (MT e2 es i) (es'.modify i f).toList:=by
 rw[Gs];obtain⟨e',he',hr⟩:=h.get he;refine⟨by simp[h.1],fun j a b ha hb=>?_⟩;rw[cq]at ha;simp only[eh,gi]at hb;by_cases hij:i=j
 ·subst hij;have hlt:=(ah.1 he).1;simp[hlt]at ha;have he'':es'[i]? =some e':=by simpa using he'
  simp[he'']at hb;subst ha;subst hb;exact hf _ hr
 ·simp[hij]at ha hb;exact h.2 j a b ha (by simpa using hb)
def GQ(T:Tab)(A:Xx)(t:TypeId)(x k:Value):Option (Value×Xx):=
 match x,T.ty.get t with
 | .map (some r),some ti=>
  match ti.desc with
  | .map kt et=>
   match T.ty.get kt,T.ty.get et,A.heap.get r with
   |some tk,some te,some (.map es cl)=>
    match Ap T kt tk.desc k,EN T A kt tk.desc k es with
    |true,some (some (i,v))=>
     (match nth es i with
      |some e=>some (.tuple ⟨[v, .int .i64 (.ofNat e.born)]⟩,Up A r (.map (MT {key:=k,val:=e.val,born:=e.born} es i) cl))
      |none=>none)
    |true,some none=>some (.tuple ⟨[te.zero, .int .i64 (.ofNat cl)]⟩,Up A r (.map (app es [{key:=k,val:=te.zero,born:=cl}]) (Nat.succ cl)))
    |_,_=>none
   |_,_,_=>none
  |_=>none
 |_,_=>none
theorem P8(C:YN P T)(R:Yi μ B A w.heap){t:TypeId}{x x' k k':Value}(hx:XI μ x x')(hk:XI μ k k'){r:Value×Xx}(h:GQ T A t x k=some r):
  Ok P μ B A w (Instr.mapEntry t x' k') r.1 r.2:=by
 unfold GQ at h;split at h
 case h_2=>cases h
 rename_i rr ti ht;cases hx with
 | @map _ e he=>
 split at h
 case h_2=>cases h
 rename_i kt et hd;split at h
 case h_2=>cases h
 rename_i tk te es cl htk hte ho;have hu:=C.underlying ht w;have hz:=Yu (C.closed hte) μ;obtain⟨_,_,es',h1,h3⟩:=R.obj rr _ e ho he;have hg1:=Yd (P:=P) (w:=w) h1 (by intro c t f hc;cases hc);have tup:∀a a' (b:Int),XI μ a a'→XI μ (.tuple ⟨[a, .int .i64 b]⟩) (.tuple #[a', .int .i64 b]):=fun a a' b h1=>XF.tuple (.cons h1 (.cons (.int .i64 b) .nil));split at h
 ·rename_i i v0 hkk hf;split at h
  case h_2=>cases h
  rename_i e1 hnth;injection h with h;subst h;have hck:=fun em=>Y8 C htk hk hkk em w;rw[YA]at hnth;obtain⟨r',hfk,g2,g3⟩:=GG (P:=P) (w:=w) C R htk hk h3 hf;obtain⟨e0,e0',q1,q2,q3,q4⟩:=g3 i v0 rfl;cases r' with
  |none=>exact g2.elim
  |some p=>
  obtain⟨j,u⟩:=p;obtain⟨rfl,hvu⟩:=g2;have hrel:=Q0 h3 hnth (e2:={key:=k,val:=e1.val,born:=e1.born}) (f:=fun e=>{e with key:=k'}) (fun x hx=>⟨hk,hx.2.1,hx.2.2⟩);obtain⟨es'',k1,_,k3,k4,k5,k6⟩:=Vu (P:=P) (cl2:=cl) R he ho hrel;simp at q1 q2;rw[q1]at hnth;injection hnth with hnth;subst hnth;have hkey:(es'[i]?.map (·.key)).getD k'=e0'.key:=by simp[q2]
  have hborn:(es'[i]?.map (fun x=>(x.born:Int))).getD 0=(e0.born:Int):=by simp[q2,q3.2.2]
  have hst:=VY (P:=P) q4 w;refine⟨.tuple #[u, .int .i64 (.ofNat e0.born)],_,μ,?_,Mu.Ext.refl _ μ,k4,tup _ _ _ hvu,k6,k5⟩;simp only[Instr.mapEntry,ag,hu,hd,ae,hg1,hck,hfk,hkey,hst,k3,hborn];rfl
 ·rename_i hkk hf;injection h with h;subst h;have hck:=fun em=>Y8 C htk hk hkk em w;obtain⟨r',hfk,g2,_⟩:=GG (P:=P) (w:=w) C R htk hk h3 hf;cases r' with
  |some p=>exact g2.elim
  |none=>
  have hnew:Y4 (EntRel μ) (app es [{key:=k,val:=te.zero,born:=cl}]) (es'.push {key:=k',val:=te.zero,born:=cl}).toList:=by
   rw[KT];simp only[Array.toList_push];exact h3.app (.cons ⟨hk,hz,rfl⟩ .nil)
  obtain⟨es'',k1,_,k3,k4,k5,k6⟩:=Vu (P:=P) (cl2:=cl+1) R he ho hnew;refine⟨.tuple #[te.zero, .int .i64 (.ofNat cl)],_,μ,?_,Mu.Ext.refl _ μ,k4,tup _ _ _ hz,k6,k5⟩;simp only[Instr.mapEntry,ag,hu,hd,ae,hg1,hck,hfk,C.zeroValue hte,k3];rfl
 ·cases h
def FW(es:List MapEntry)(b:Nat):Nat→Option Nat:=
 List.rec (motive:=fun _=>Nat→Option Nat) (fun _=>none)
  (fun e _ ih i=>Bool.rec (motive:=fun _=>Option Nat) (ih (Nat.succ i)) (some i) (Nat.beq e.born b)) es
theorem Mz{b:Nat}:∀{es:List MapEntry} {es':List MapEntry},Y4 (EntRel μ) es es'→∀{i j:Nat},FW es b i=some j→i≤j∧es'.findIdx? (fun e=>(e.born:Int)==(b:Int))=some (j - i)∧∃e,es[j - i]? =some e:=by
 intro es
 induction es with
 |nil=>intro es' _ i j h;cases h
 |cons e es ih=>
  intro es' h i j hj;obtain⟨e',es'',rfl,he,ht⟩:=h.cons_left;have hj':(Bool.rec (motive:=fun _=>Option Nat) (FW es b (i+1)) (some i) (Nat.beq e.born b):Option Nat)=some j:=hj;cases hb:Nat.beq e.born b with
  |true=>
   rw[hb]at hj';injection hj' with hj';subst hj';have:=ap hb;have hb2:e'.born=b:=by rw[←he.2.2];exact this
   refine⟨ak _,?_,e,by simp⟩;simp[List.findIdx?_cons,hb2]
  |false=>
   rw[hb]at hj';have hne:=du hb;have hb2:¬e'.born=b:=by rw[←he.2.2];exact hne
   obtain⟨h1,h2,e3,h3⟩:=ih ht hj';have e1:j - i=(j - (i+1))+1:=by omega
   have hb3:((e'.born:Int)==(b:Int))=false:=by
    rw[beq_eq_false_iff_ne];intro hc;exact hb2 (by omega)
   refine⟨by omega,?_,e3,by rw[e1];simpa using h3⟩;rw[List.findIdx?_cons,hb3,h2,e1];rfl
def JV(A:Xx)(x s v:Value):Option Xx:=
 match x,s with
 | .map (some r), .int _ (.ofNat b)=>
  match A.heap.get r with
  |some (.map es cl)=>
   match FW es b 0 with
   |some i=>(match nth es i with|some e=>some (Up A r (.map (MT {key:=e.key,val:=v,born:=e.born} es i) cl))|none=>none)
   |none=>none
  |_=>none
 |_,_=>none
theorem QQ(R:Yi μ B A w.heap){t:TypeId}{x x' s s' v v':Value}(hx:XI μ x x')(hs:XI μ s s')(hv:XI μ v v'){A':Xx}(h:JV A x s v=some A'):
  ∃w',(Instr.entryStore t x' s' v').run P w= .ok () w'∧Yi μ B A' w'.heap∧Below B w w'∧JP μ A A':=by
 unfold JV at h;split at h
 case h_2=>cases h
 rename_i r kk b;cases hx with
 | @map _ e he=>
 cases hs;split at h
 case h_2=>cases h
 rename_i es cl ho;split at h
 case h_2=>cases h
 rename_i i hi;split at h
 case h_2=>cases h
 rename_i e1 hnth;injection h with h;subst h;rw[YA]at hnth;obtain⟨_,_,es',h1,h3⟩:=R.obj r _ e ho he;have hg1:=Yd (P:=P) (w:=w) h1 (by intro c t f hc;cases hc);obtain⟨_,hidx,_⟩:=Mz h3 hi;have hrel:=Q0 h3 hnth (e2:={key:=e1.key,val:=v,born:=e1.born}) (f:=fun e=>{e with val:=v'}) (fun x hx=>⟨hx.1,hv,hx.2.2⟩);obtain⟨es'',k1,_,k3,k4,k5,k6⟩:=Vu (P:=P) (cl2:=cl) R he ho hrel;refine⟨_,?_,k4,k6,k5⟩;have hidx':es'.findIdx? (fun e=>(e.born:Int)==(b:Int))=some i:=by
  have e0:∀(l:Array MapEntry) (p:MapEntry→Bool),l.findIdx? p=l.toList.findIdx? p:=fun l p=>by cases l;simp
  rw[e0];simpa using hidx
 simp only[Instr.entryStore,ag,am,hg1,ae,asInt,asIntOf,gu,hidx'];exact k3
def mZ(A:Xx)(o:Yj):Nat×Xx:=(A.next,Yv A o)
def mkMap(n:Nat):Value:= .map (some n)
def GE(T:Tab)(t:TypeId)(hint:Option Value):Option (Yj×(Nat→Value)):=
 match hint with
 |none=>some (.map [] 0,mkMap)
 |some (.int _ _)=>(match T.ty.get t with|some ti=>(match ti.desc with| .map _ _=>some (.map [] 0,mkMap)|_=>none)|none=>none)
 |_=>none
theorem BS(hB:B≤w.heap.size){s:Sem Value}(hs:s.run P w= .ok (.map (some w.heap.size)) (w.alloc (.map #[] 0))):Jm P μ B w s (.map [] 0) mkMap:=
 ⟨_,_,hs,trivial,fun _ _=>⟨rfl,hB,#[],cu _ _, .nil⟩,fun _ n hn=> .map (b:=n) (e:=⟨w.heap.size,0,none,0⟩) hn⟩
theorem ZW(C:YN P T)(hB:B≤w.heap.size){t:TypeId}{hint hint':Option Value}(hh:VZ μ hint hint'){o:Yj}{mk:Nat→Value}(h:GE T t hint=some (o,mk)):
  Jm P μ B w (Instr.makeMap t hint') o mk:=by
 unfold GE at h;split at h
 ·injection h with h;injection h with e1 e2;subst e1;subst e2;cases hint' with
  |some y=>exact hh.elim
  |none=>exact BS hB (by simp[Instr.makeMap])
 ·cases hint' with
  |none=>exact hh.elim
  |some y=>
  have hh:XI μ _ y:=hh;cases hh;split at h
  case h_2=>cases h
  rename_i ti ht;split at h
  case h_2=>cases h
  rename_i kt et hd;injection h with h;injection h with e1 e2;subst e1;subst e2;refine BS hB ?_;have hu:=C.underlying ht w;simp[Instr.makeMap,hu,hd,asInt,asIntOf]
 ·cases h
def QM(T:Tab)(A:Xx)(t:TypeId)(hint:Option Value):Option (Value×Xx):=lay A (GE T t hint)
theorem BH(C:YN P T)(R:Yi μ B A w.heap){t:TypeId}{hint hint':Option Value}(hh:VZ μ hint hint'){r:Value×Xx}(h:QM T A t hint=some r):
  Ok P μ B A w (Instr.makeMap t hint') r.1 r.2:=Ea R h fun _ _ hq=>ZW C R.base hh hq
def P7(T:Tab)(A:Xx)(t:TypeId)(x:Value):Option (Value×Xx):=
 match T.ty.get t with
 |some ti=>
  match ti.desc,x with
  | .string, .string s=>some (.pointer (some ⟨A.next,0,none⟩),Yv A (.siter s 0))
  | .map _ _, .map none=>some (.pointer (some ⟨A.next,0,none⟩),Yv A (.miter none 0 [] 0))
  | .map _ _, .map (some r)=>
   (match A.heap.get r with
    |some (.map _ cl)=>some (.pointer (some ⟨A.next,0,none⟩),Yv A (.miter (some r) cl [] cl))
    |_=>none)
  |_,_=>none
 |none=>none
theorem Zx(R:Yi μ B A w.heap){o:Yj}(ho:o.notGrown){o':Obj}(h:∀μ':Mu,Mu.Le μ μ'→ORel μ' B (w.alloc o').heap ⟨w.heap.size,0,none,0⟩ o){s:Sem Value}
  (hs:s.run P w= .ok (.pointer (some ⟨w.heap.size,0,none⟩)) (w.alloc o')):Ok P μ B A w s (.pointer (some ⟨A.next,0,none⟩)) (Yv A o):=by
 obtain⟨a,b,c,d⟩:=KY R ho h;exact⟨_,_,_,hs,d,a, .ptr (b:=A.next) (off:=0) (e:=⟨w.heap.size,0,none,0⟩) (by simp),c,b⟩
theorem LD(C:YN P T)(R:Yi μ B A w.heap){t:TypeId}{x x':Value}(hx:XI μ x x'){r:Value×Xx}(h:P7 T A t x=some r):Ok P μ B A w (Instr.range t x') r.1 r.2:=by
 unfold P7 at h;split at h
 case h_2=>cases h
 rename_i ti ht;have hu:=C.underlying ht w;split at h
 ·rename_i s hd;cases hx;injection h with h;subst h;refine Zx R (o:= .siter s 0) trivial (o':= .stringIter s 0) (fun μ' hm=>⟨rfl,R.base,cu _ _⟩) ?_;simp[Instr.range,hu,hd]
 ·rename_i kt et hd;cases hx;injection h with h;subst h;refine Zx R (o:= .miter none 0 [] 0) trivial (o':= .mapIter none 0 #[] 0) (fun μ' hm=>⟨rfl,R.base,none,cu _ _, .inl ⟨rfl,rfl⟩⟩) ?_;simp[Instr.range,hu,hd]
 ·rename_i kt et r0 hd;split at h
  case h_2=>cases h
  rename_i es cl ho;cases hx with
  | @map _ e he=>
  injection h with h;subst h;obtain⟨_,_,es',h1,h3⟩:=R.obj r0 _ e ho he;have hg1:=Yd (P:=P) (w:=w) h1 (by intro c t f hc;cases hc);refine Zx R (o:= .miter (some r0) cl [] cl) trivial (o':= .mapIter (some e.blk) cl #[] cl) (fun μ' hm=>⟨rfl,R.base,some e.blk,cu _ _, .inr ⟨r0,e,rfl,hm _ _ he,rfl⟩⟩) ?_;simp[Instr.range,hu,hd,hg1]
 ·cases h
end
end
noncomputable section
section
variable {P:Program} {T:Tab} {μ:Mu} {B:Nat} {A:Xx} {w:World}
def Sy(T:Tab)(A:Xx)(ats:List TypeId)(x:Value):Option Value:=
 match ats with
 |[t]=>
  match T.ty.get t with
  |some ti=>
   match ti.desc,x with
   | .slice _, .slice _ n _=>some (.int .i64 (.ofNat n))
   | .string, .string ⟨⟨l⟩⟩=>some (.int .i64 (.ofNat (len l)))
   | .array n _,_=>some (.int .i64 (.ofNat n))
   | .map _ _,x=>(match N1 A x with|some es=>some (.int .i64 (.ofNat (len es)))|none=>none)
   |_,_=>none
  |none=>none
 |_=>none
theorem NP(C:YN P T)(R:Yi μ B A w.heap){ats:List TypeId}{x x':Value}(hx:XI μ x x'){v:Value}(h:Sy T A ats x=some v)(rt:TypeId):
  ∃v',(Builtin.len_ ats.toArray rt #[x']).run P w= .ok v' w∧XI μ v v':=by
 unfold Sy at h;split at h
 case h_2=>cases h
 rename_i t;split at h
 case h_2=>cases h
 rename_i ti ht;have hu:=C.underlying ht w;split at h
 ·rename_i el a n c hd;injection h with h;subst h;have:∃a' c',x'= .slice a' n c':=by cases hx<;>exact⟨_,_,rfl⟩
  obtain⟨a',c',rfl⟩:=this;exact⟨.int .i64 (.ofNat n),by simp[Builtin.len_,hu,hd,goInt], .int _ _⟩
 ·rename_i l hd;cases hx;injection h with h;subst h;refine⟨.int .i64 (.ofNat l.length),?_,by rw[ZU];exact .int _ _⟩;simp[Builtin.len_,hu,hd,goInt];rfl
 ·rename_i n el hd;injection h with h;subst h;exact⟨.int .i64 (.ofNat n),by simp[Builtin.len_,hu,hd,goInt], .int _ _⟩
 ·rename_i kt et hd;split at h
  case h_2=>cases h
  rename_i es hes;injection h with h;subst h;obtain⟨es',hrel,hcase⟩:=Iw (P:=P) R hx hes;have hl:es'.size=es.length:=by have:=hrel.1;simp at this;exact this.symm
  refine⟨.int .i64 (.ofNat es.length),?_,by rw[ZU];exact .int _ _⟩;rcases hcase with⟨rfl,rfl⟩|⟨r0,cl,rfl,hg⟩
  ·have:es.length=0:=by simpa using hl.symm
   simp[Builtin.len_,hu,hd,goInt,this]
  ·simp[Builtin.len_,hu,hd,goInt,hg,hl]
 ·cases h
def Sz(T:Tab)(A:Xx)(ats:List TypeId)(x:Value):Option Value:=
 match ats with
 |[t]=>
  match T.ty.get t with
  |some ti=>
   match ti.desc,x with
   | .slice _, .slice none _ c=>some (.int .i64 (.ofNat c))
   | .slice _, .slice (some ⟨b,_,none⟩) _ c=>(match A.heap.get b with|some (.cells _ (.fixed _))=>some (.int .i64 (.ofNat c))|_=>none)
   | .array n _,_=>some (.int .i64 (.ofNat n))
   |_,_=>none
  |none=>none
 |_=>none
theorem NQ(C:YN P T)(R:Yi μ B A w.heap){ats:List TypeId}{x x':Value}(hx:XI μ x x'){v:Value}(h:Sz T A ats x=some v)(rt:TypeId):
  ∃v',(Builtin.cap_ ats.toArray rt #[x']).run P w= .ok v' w∧XI μ v v':=by
 unfold Sz at h;split at h
 case h_2=>cases h
 rename_i t;split at h
 case h_2=>cases h
 rename_i ti ht;have hu:=C.underlying ht w;split at h
 ·rename_i el n c hd;injection h with h;subst h;cases hx;exact⟨.int .i64 (.ofNat 0),by simp[Builtin.cap_,hu,hd,goInt], .int _ _⟩
 ·rename_i el b off n c hd;split at h
  case h_2=>cases h
  rename_i xs ro ho;injection h with h;subst h;have hx':∃a',x'= .slice a' n c:=by
   cases hx with
   |slice he hg=>exact⟨_,rfl⟩
   | @gslice _ _ _ _ _ e g he hg hl hc hb=>
    have:=(R.obj b _ e ho he).1;rw[this]at hg;cases hg
   |zslice he=>exact⟨_,rfl⟩
  obtain⟨a',rfl⟩:=hx';exact⟨.int .i64 (.ofNat c),by simp[Builtin.cap_,hu,hd,goInt], .int _ _⟩
 ·rename_i n el hd;injection h with h;subst h;exact⟨.int .i64 (.ofNat n),by simp[Builtin.cap_,hu,hd,goInt], .int _ _⟩
 ·cases h
def GP(mx:Bool):List Value→Option Value
 | .int k a:: .int k' b::[]=>(match decide (k=k'),mx with
  |true,true=>some (.int k (match iLt a b with|true=>b|false=>a))
  |true,false=>some (.int k (match iLt b a with|true=>b|false=>a))
  |_,_=>none)
 | .int k a:: .int k' b:: .int k'' c::[]=>(match decide (k=k'),decide (k=k''),mx with
  |true,true,true=>(match(match iLt a b with|true=>b|false=>a)with|m=>some (.int k (match iLt m c with|true=>c|false=>m)))
  |true,true,false=>(match(match iLt b a with|true=>b|false=>a)with|m=>some (.int k (match iLt c m with|true=>c|false=>m)))
  |_,_,_=>none)
 |[.int k a]=>some (.int k a)
 |_=>none
theorem NO{xs xs':List Value}(hx:XF μ xs xs'){v:Value}(h:GP true xs=some v)(ats:Array TypeId)(rt:TypeId)(w:World):∃v',(Builtin.max_ ats rt xs'.toArray).run P w= .ok v' w∧XI μ v v':=by
 unfold GP at h;split at h
 ·rename_i k a k' b;obtain⟨y1,l1,rfl,h1,ht⟩:=hx.cons_left;obtain⟨y2,l2,rfl,h2,ht⟩:=ht.cons_left;rw[ht.nil_left];cases h1;cases h2;split at h
  ·rename_i hk _;have hk:=bo hk;subst hk;injection h with h;subst h;refine⟨_,?_, .int _ _⟩;simp only[Builtin.max_,ky,ld,Builtin.max2,ag,am,ae]
   congr 2
   rw[Ua];by_cases hb:b>a
   ·simp[hb]
   ·simp[hb]
  ·rename_i hc;cases hc
  ·cases h
 ·rename_i k a k' b k'' c;obtain⟨y1,l1,rfl,h1,ht⟩:=hx.cons_left;obtain⟨y2,l2,rfl,h2,ht⟩:=ht.cons_left;obtain⟨y3,l3,rfl,h3,ht⟩:=ht.cons_left;rw[ht.nil_left];cases h1;cases h2;cases h3;split at h
  ·rename_i hk hk2 _;have hk:=bo hk;subst hk;have hk2:=bo hk2;subst hk2;injection h with h;subst h;refine⟨_,?_, .int _ _⟩;simp only[Builtin.max_,ky,ld,Builtin.max2,ag,am,ae];have e:(match iLt a b with|true=>b|false=>a)=(if b>a then b else a):=by rw[Ua];by_cases hb:a<b<;>simp[hb]
   rw[e]
   congr 2
   rw[Ua];by_cases hb:c>(if b>a then b else a)<;>simp[hb]
  ·rename_i hc;cases hc
  ·cases h
 ·rename_i k a;obtain⟨y1,l1,rfl,h1,ht⟩:=hx.cons_left;rw[ht.nil_left];cases h1;injection h with h;subst h;exact⟨_,by simp[Builtin.max_], .int _ _⟩
 ·cases h
theorem NN{xs xs':List Value}(hx:XF μ xs xs'){v:Value}(h:GP false xs=some v)(ats:Array TypeId)(rt:TypeId)(w:World):∃v',(Builtin.min_ ats rt xs'.toArray).run P w= .ok v' w∧XI μ v v':=by
 unfold GP at h;split at h
 ·rename_i k a k' b;obtain⟨y1,l1,rfl,h1,ht⟩:=hx.cons_left;obtain⟨y2,l2,rfl,h2,ht⟩:=ht.cons_left;rw[ht.nil_left];cases h1;cases h2;split at h
  ·rename_i hc;cases hc
  ·rename_i hk _;have hk:=bo hk;subst hk;injection h with h;subst h;refine⟨_,?_, .int _ _⟩;simp only[Builtin.min_,ky,ld,Builtin.min2,ag,am,ae]
   congr 2
   rw[Ua];by_cases hb:b<a<;>simp[hb]
  ·cases h
 ·rename_i k a k' b k'' c;obtain⟨y1,l1,rfl,h1,ht⟩:=hx.cons_left;obtain⟨y2,l2,rfl,h2,ht⟩:=ht.cons_left;obtain⟨y3,l3,rfl,h3,ht⟩:=ht.cons_left;rw[ht.nil_left];cases h1;cases h2;cases h3;split at h
  ·rename_i hc;cases hc
  ·rename_i hk hk2 _;have hk:=bo hk;subst hk;have hk2:=bo hk2;subst hk2;injection h with h;subst h;refine⟨_,?_, .int _ _⟩;simp only[Builtin.min_,ky,ld,Builtin.min2,ag,am,ae];have e:(match iLt b a with|true=>b|false=>a)=(if b<a then b else a):=by rw[Ua];by_cases hb:b<a<;>simp[hb]
   rw[e]
   congr 2
   rw[Ua];by_cases hb:c<(if b<a then b else a)<;>simp[hb]
  ·cases h
 ·rename_i k a;obtain⟨y1,l1,rfl,h1,ht⟩:=hx.cons_left;rw[ht.nil_left];cases h1;injection h with h;subst h;exact⟨_,by simp[Builtin.min_], .int _ _⟩
 ·cases h
def RT(vs:List Value):Option (List UInt8):=
 List.rec (motive:=fun _=>Option (List UInt8)) (some [])
  (fun v _ r=>match v,r with| .int .u8 n,some l=>some (UInt8.ofNat n.toNat::l)|_,_=>none) vs
theorem EF(v:Value)(vs:List Value):RT (v::vs)=match v,RT vs with| .int .u8 n,some l=>some (UInt8.ofNat n.toNat::l)|_,_=>none:=rfl
theorem PL:∀{vs vs':List Value},XF μ vs vs'→∀{l:List UInt8},RT vs=some l→∀(acc:ByteArray) (w:World),
  (forIn vs' acc fun c s=>(match c with
   | .int .u8 n=>pure (ForInStep.yield (s.push (UInt8.ofNat n.toNat)))
   |_=>do
    (stuck "bytesToString: byte expected" :Sem PUnit)
    pure (ForInStep.yield s):Sem (ForInStep ByteArray))).run P w= .ok ⟨⟨acc.data.toList++l⟩⟩ w:=by
 intro vs
 induction vs with
 |nil=>
  intro vs' h l hl acc w;rw[h.nil_left];injection hl with hl;subst hl;simp
 |cons v vs ih=>
  intro vs' h l hl acc w;obtain⟨v',vs'',rfl,hv,ht⟩:=h.cons_left;rw[EF]at hl;split at hl
  ·rename_i n l' hl';injection hl with hl;subst hl;cases hv;simp only[lc,ag,am,ae];rw[ih ht hl']
   congr 1
   simp[ByteArray.push]
  ·cases hl
def Vr(T:Tab)(A:Xx)(s d:TypeId)(x:Value):Option (Value×Xx):=
 match T.ty.get s,T.ty.get d with
 |some ts,some td=>
  match td.desc,x with
  | .int k, .int _ n=>some (.int k (Qx k n),A)
  | .string, .int _ n=>some (.string (Utf8.encode n),A)
  | .string, .string b=>some (.string b,A)
  | .slice el, .string ⟨⟨l⟩⟩=>
   (match T.ty.get el with
    |some te=>(match te.desc,te.size,Nat.ble (len l) 1000000000 with
     | .int .u8,1,true=>(match PA A 1 (Pu l)with|some A'=>some (.slice (some ⟨A.next,0,none⟩) (len l) (len l),A')|none=>none)
     |_,_,_=>none)
    |none=>none)
  | .string, .slice a n c=>
   (match ts.desc with
    | .slice el=>
     (match T.ty.get el with
      |some te=>(match te.desc with
       | .int .u8=>
        (match a,n with
         |none,0=>(match c with|0=>some (.string ⟨⟨[]⟩⟩,A)|_=>none)
         |some ⟨b,off,none⟩,n=>(match n with
          |0=>some (.string ⟨⟨[]⟩⟩,A)
          |_+1=>(match JQ A b off n with|some vs=>(match RT vs with|some l=>some (.string ⟨⟨l⟩⟩,A)|none=>none)|none=>none))
         |_,_=>none)
       |_=>none)
      |none=>none)
    |_=>none)
  | .unsafePointer, .pointer (some ⟨b,off,none⟩)=>
   (match ts.desc with
    | .pointer t=>(match T.ty.get t,JQ A b off 1 with|some tt,some [_]=>(match tt.size with|0=>none|_+1=>some (.pointer (some ⟨b,off,none⟩),A))|_,_=>none)
    |_=>none)
  |_,_=>none
 |_,_=>none
theorem UX{src dst t:TypeId}{w:World}(hs:(underlying src).run P w= .ok (.pointer t) w)(hd:(underlying dst).run P w= .ok .unsafePointer w){n0:Nat}(hz:(sizeOf t).run P w= .ok n0 w)(hn:n0≠0)
  {b off n:Nat} {e:TypeId} (hsh:w.shape? b=some (e,n)) (hlt:off<n):(convert src dst (.pointer (some ⟨b,off,none⟩))).run P w= .ok (.pointer (some ⟨b,off,none⟩)) w:=by
 have hge:¬(n≤off):=by omega
 simp[convert,Conv.unsafePointer,Conv.seenAt,viewAt,cellsIn,hs,hd,hz,hn,hsh,hge]
theorem BJ(C:YN P T)(R:Yi μ B A w.heap){s d:TypeId}{x x':Value}(hx:XI μ x x'){r:Value×Xx}(h:Vr T A s d x=some r):Ok P μ B A w (convert s d x') r.1 r.2:=by
 unfold Vr at h;split at h
 case h_2=>cases h
 rename_i ts td hs hd;have us:=fun w=>C.underlying hs w;have ud:=fun w=>C.underlying hd w;split at h
 ·rename_i k k' n hdesc;cases hx;injection h with h;subst h;refine .pure R (v':= .int k (k.wrap n)) ?_ (by rw[VB];exact .int _ _);simp only[convert,ag,us,ud,ae,hdesc,Conv.intToInt];rfl
 ·rename_i k n hdesc;cases hx;injection h with h;subst h;refine .pure R (v':= .string (Utf8.encode n)) ?_ (.string _);simp only[convert,ag,us,ud,ae,hdesc,Conv.intToString];rfl
 ·rename_i b hdesc;cases hx;injection h with h;subst h;refine .pure R (v':= .string b) ?_ (.string _);simp only[convert,ag,us,ud,ae,hdesc];rfl
 ·rename_i el l hdesc;cases hx;split at h
  case h_2=>cases h
  rename_i te hte;split at h
  case h_2=>cases h
  rename_i hted hsz hbnd;have hbnd:=YW hbnd;rw[ZU]at hbnd;split at h
  case h_2=>cases h
  rename_i A' hA;injection h with h;subst h;have ue:=fun w=>C.underlying hte w;obtain⟨c,hc1,hc2⟩:=VT (P:=P) l.length 0 el w;have hsz2:(⟨⟨l⟩⟩:ByteArray).size=l.length:=rfl
  let arr:Array Value:=(⟨l⟩:Array UInt8).map (fun b=>Value.int .u8 b.toNat)++Array.replicate (c - l.length) (.int .u8 0)
  have harr:arr.toList=(l.map fun b=>Value.int .u8 b.toNat)++List.replicate (c - l.length) (.int .u8 0):=by simp[arr]
  have hsa:arr.size=c:=by
   have:=ee List.length harr;simp at this;omega
  have hrel:XF μ (Pu l) (l.map fun b=>Value.int .u8 b.toNat):=by
   rw[Zf];refine⟨rfl,fun i x y hx hy=>?_⟩;rw[hx]at hy;injection hy with hy;subst hy;rw[an]at hx;cases hb:l[i]? with
   |none=>rw[hb]at hx;cases hx
   |some q=>rw[hb]at hx;injection hx with hx;subst hx;exact .int _ _
  obtain⟨R',K,Bw,hm⟩:=VU (w:=w.drew) R hA (arr:=arr) (t:=el) (fr:=(arr.size,arr.size+1)) (.inr rfl) (ys:=l.map fun b=>Value.int .u8 b.toNat) (rest:=List.replicate (c - l.length) (.int .u8 0)) harr hrel;refine⟨.slice (some ⟨w.heap.size,0,none⟩) l.length c,_,_,?_,hm,R',?_,YX R.base _,K⟩
  ·have hq:∀w1:World,(Conv.stringToBytes el ⟨⟨l⟩⟩).run P w1=((choose (.appendCap l.length 0 el)).run P w1).andThen (fun cap w2=>
     Sem.run P (do
      let a←newRow el ((⟨l⟩:Array UInt8).map (fun b=>Value.int .u8 b.toNat)++Array.replicate (cap - l.length) (.int .u8 0))
      markStringish a
      pure (.slice (some a) l.length cap)) w2):=by
    intro w1;simp only[Conv.stringToBytes,ag,hsz2]
   simp only[convert,ag,us,ud,ae,hdesc,ue,hted];rw[hq,hc1];simp only[ae,newRow,ag,run_newObj,am,markStringish,run_shape];have hsh:World.shape? (w.drew.alloc (.cells arr el)) w.heap.size=some (el,arr.size):=K4 (cu w.drew (.cells arr el))
   show((Sem.run P (match(World.shape? (w.drew.alloc (.cells arr el)) w.heap.size)with|some (_,n)=>freeze {block:=w.heap.size,off:=n} 1|_=>pure ()) (w.drew.alloc (.cells arr el))).andThen fun _ w'=>Result.ok (Value.slice (some ⟨w.heap.size,0,none⟩) l.length c) w')=_
   rw[hsh];simp only[run_freeze,ae]
   congr 1
   have hfz:World.freeze (w.drew.alloc (.cells arr el)) {block:=w.heap.size,off:=arr.size} 1=w.drew.alloc (.cells arr el (arr.size,arr.size+1)):=by
    simp only[World.freeze];rw[if_neg (by omega)];simp only[World.alloc]
    congr 1
    apply gj;intro i;rw[gi];by_cases hi:w.heap.size=i
    ·subst hi;have e1:(w.drew.heap.push (Obj.cells arr el))[w.heap.size]? =some (Obj.cells arr el):=cu w.drew _;have e2:(w.drew.heap.push (Obj.cells arr el (arr.size,arr.size+1)))[w.heap.size]? =some (Obj.cells arr el (arr.size,arr.size+1)):=cu w.drew _;rw[e1,e2];simp
    ·have:¬i=w.drew.heap.size:=fun e=>hi e.symm;rw[if_neg hi,Array.getElem?_push,Array.getElem?_push,if_neg this,if_neg this]
   exact hfz
  ·rw[ZU];exact Jw (μ:=μ) (b:=A.next) (blk:=w.heap.size) (dl:=0) (g:=⟨1,A.next,0⟩) hc2 (by simp only;omega)
 ·rename_i a n c hdesc;split at h
  case h_2=>cases h
  rename_i el hsd;split at h
  case h_2=>cases h
  rename_i te hte;split at h
  case h_2=>cases h
  rename_i hted;have ue:=fun w=>C.underlying hte w;have hconv:∀a' c',(convert s d (.slice a' n c')).run P w=(Conv.bytesToString (.slice a' n c')).run P w:=by
   intro a' c';simp only[convert,ag,us,ud,ae,hdesc,hsd,ue,hted]
  split at h
  ·split at h
   case h_2=>cases h
   injection h with h;subst h;cases hx;refine .pure R (v':= .string ⟨⟨[]⟩⟩) ?_ (.string _);rw[hconv];rfl
  ·rename_i _ b off;split at h
   ·injection h with h;subst h;have:∃a' c',x'= .slice (some a') 0 c':=by cases hx<;>exact⟨_,_,rfl⟩
    obtain⟨a',c',rfl⟩:=this;refine .pure R (v':= .string ⟨⟨[]⟩⟩) ?_ (.string _);rw[hconv];simp[Conv.bytesToString,loadCells,loadCellsFrom];rfl
   ·rename_i n1;split at h
    case h_2=>cases h
    rename_i vs hvs;split at h
    case h_2=>cases h
    rename_i l hl;injection h with h;subst h;have key:∀(e:Ent) (c':Nat),μ b=some e→x'= .slice (some ⟨e.blk,e.dl+off,none⟩) (n1+1) c'→Ok P μ B A w (convert s d x') (.string ⟨⟨l⟩⟩) A:=by
     intro e c' he hx';subst hx';obtain⟨zs,z1,z2,_⟩:=Kh P R he hvs;refine .pure R (v':= .string ⟨⟨l⟩⟩) ?_ (.string _);rw[hconv];have z1':(loadCells ⟨e.blk,e.dl+off,none⟩ (n1+1)).run P w= .ok zs w:=z1;simp only[Conv.bytesToString,ag,z1',ae];rw[←Array.forIn_toList];have:=PL (P:=P) z2 hl ByteArray.empty w;rw[show ByteArray.empty.data.toList++l=l from rfl]at this;exact(ee (fun r=>Result.andThen r (fun a w'=>Sem.run P (Pure.pure (Value.string a)) w')) this).trans rfl
    cases hx with
    |slice he hg=>exact key _ _ he rfl
    |gslice he hg h1 h2 h3=>exact key _ _ he rfl
  ·cases h
 ·rename_i b off hdesc;split at h
  case h_2=>cases h
  rename_i t hsd;split at h
  case h_2=>cases h
  rename_i tt vs ht hld;split at h
  ·cases h
  rename_i sz hsz;injection h with h;subst h;cases hx with
  | @ptr _ _ e he=>
  have hpt:∃arr ty fr,w.heap[e.blk]? =some (.cells arr ty fr)∧e.dl+off<arr.size:=by
   unfold JQ at hld;split at hld
   ·rename_i xs k ho;obtain⟨arr,ty,fr,ha,hle,hx⟩:=Qr R ho he;obtain⟨h1,hn⟩:=YZ hld;rw[Kw]at h1 hn;have h2:off<xs.length:=by
     rw[List.length_drop]at hn;omega
    obtain⟨z,hz,_⟩:=hx off xs[off] (aa h2);exact⟨arr,ty,fr,ha,(aw.1 hz).1⟩
   ·cases hld
  obtain⟨arr,ty,fr,ha,hlt⟩:=hpt;refine .pure R (v':= .pointer (some ⟨e.blk,e.dl+off,none⟩)) ?_ (.ptr he);have us':=us w;have ud':=ud w;rw[hsd]at us';rw[hdesc]at ud';exact UX us' ud' (C.sizeOf ht w) (by omega) (K4 ha) hlt
 ·cases h
end
end
noncomputable section
section
variable {P:Program} {T:Tab} {μ:Mu} {B:Nat} {A:Xx} {w:World}
def HT (A:Xx) (it:Value):Option (Value×Xx):=
  match it with
  | .pointer (some ⟨r,0,none⟩)=>
    match A.heap.get r with
    | some (.siter ⟨⟨l⟩⟩ pos)=>
      match nth l pos with
      | some b=>
        (match Nat.blt b.toNat 128 with
          |true=>some (.tuple ⟨[.bool true, .int .i64 (.ofNat pos), .int .i32 (.ofNat b.toNat)]⟩,Up A r (.siter ⟨⟨l⟩⟩ (Nat.succ pos)))
          |false=>(match Utf8.decode ⟨⟨l⟩⟩ pos with|(c,wd)=>some (.tuple ⟨[.bool true, .int .i64 (.ofNat pos), .int .i32 (.ofNat c)]⟩,Up A r (.siter ⟨⟨l⟩⟩ (Nat.add pos wd)))))
      |none=>some (.tuple ⟨[.bool false]⟩,A)
    |_=>none
  |_=>none
theorem decode_ascii {l:List UInt8} {i:Nat} {b:UInt8} (hb:l[i]? =some b) (h:b.toNat<128):Utf8.decode ⟨⟨l⟩⟩ i=(b.toNat,1):=by
  have hlt:=(ah.1 hb).1;have hg:(⟨⟨l⟩⟩:ByteArray).get! (i+0)=b:=by
    have h1:(⟨⟨l⟩⟩:ByteArray).get! (i+0)=(⟨l⟩:Array UInt8)[i+0]! :=rfl;rw[h1];simp[hlt,(ah.1 hb).2]
  unfold Utf8.decode;simp only[hg];rw[if_pos h]
theorem BF (R:Yi μ B A w.heap) {it it':Value} (hi:XI μ it it') {r:Value×Xx} (h:HT A it=some r) (rt:TypeId):Ok P μ B A w (Instr.next it' true rt) r.1 r.2:=by
  unfold HT at h;split at h
  case h_2=>cases h
  rename_i rr;cases hi with
  | @ptr _ _ e he=>
  split at h
  case h_2=>cases h
  rename_i l pos ho;obtain⟨hg,hB,h1⟩:=R.obj rr _ e ho he;have hd:=(R.dom rr e he).2.2.1 hg;have hlt:=(R.dom rr e he).2.1;have hn:∀c t f,(Obj.stringIter ⟨⟨l⟩⟩ pos)≠ .cells c t f:=by intro c t f hc;cases hc
  have hg1:=Yd (P:=P) (w:=w) h1 hn;have hs1:=fun o=>GL (P:=P) (w:=w) h1 hn o;have hadr:(⟨e.blk,e.dl+0,none⟩:Addr)=⟨e.blk,0,none⟩:=by rw[hd]
  have hsz:(⟨⟨l⟩⟩:ByteArray).size=l.length:=rfl;have step:∀(c wd:Nat),pos<l.length→Utf8.decode ⟨⟨l⟩⟩ pos=(c,wd)→
      Ok P μ B A w (Instr.next (.pointer (some ⟨e.blk,e.dl+0,none⟩)) true rt) (.tuple ⟨[.bool true, .int .i64 (.ofNat pos), .int .i32 (.ofNat c)]⟩) (Up A rr (.siter ⟨⟨l⟩⟩ (pos+wd))):=by
    intro c wd hlt2 hdec;obtain⟨k1,k2,k3⟩:=GC R he hg hB (o:= .siter ⟨⟨l⟩⟩ (pos+wd)) trivial (o':= .stringIter ⟨⟨l⟩⟩ (pos+wd)) ⟨hg,hB,Kx hlt _⟩;refine⟨.tuple #[.bool true, .int .i64 (.ofNat pos), .int .i32 (.ofNat c)],_,μ,?_,Mu.Ext.refl _ μ,k1,XF.tuple (.cons (.bool _) (.cons (.int _ _) (.cons (.int _ _) .nil))),k3,k2⟩;rw[hadr];simp only[Instr.next,ag,hg1,ae,hsz,hlt2,if_true,hdec,hs1];rfl
  split at h
  · rename_i b hb;rw[YA]at hb;have hlt2:=(ah.1 hb).1;split at h
    · rename_i h128;injection h with h;subst h;exact step _ 1 hlt2 (decode_ascii hb (Px h128))
    · split at h;rename_i c wd hdec;injection h with h;subst h;exact step c wd hlt2 hdec
  · rename_i hb;rw[YA]at hb;injection h with h;subst h;have hge:¬pos<l.length:=by
      intro hc;rw[aa hc]at hb;cases hb
    refine .pure R (v':= .tuple #[.bool false]) ?_ (XF.tuple (.cons (.bool _) .nil));rw[hadr];simp only[Instr.next,ag,hg1,ae,hsz,hge,dg];rfl
def KS (es:List MapEntry) (since:Nat) (seen:List Nat):List (Option MapEntry):=
  let left:=es.filter fun e=>!seen.contains e.born
  let old:=left.filter fun e=>decide (e.born<since)
  let new:=left.filter fun e=>decide (e.born≥since)
  (match old with|[]=>[none]|_=>[])++(old++new).map some
theorem Y4.filter {R:MapEntry→MapEntry→Prop} {p:MapEntry→Bool} (hp:∀x y,R x y→p x=p y) {xs ys:List MapEntry} (h:Y4 R xs ys):Y4 R (xs.filter p) (ys.filter p):=by
  induction xs generalizing ys with
  |nil=>rw[h.nil_left];exact .nil
  | cons x xs ih=>
    obtain⟨y,ys',rfl,a,b⟩:=h.cons_left;have:=hp x y a;cases hx:p x with
    |true=>rw[ey hx,ey (by rw[←this];exact hx)];exact .cons a (ih b)
    |false=>rw[fc (by simp[hx]),fc (by rw[←this];simp[hx])];exact ih b
def OptE (μ:Mu):Option MapEntry→Option MapEntry→Prop
  |none,none=>True
  |some a,some b=>EntRel μ a b
  |_,_=>False
theorem Mw {es es':List MapEntry} (h:Y4 (EntRel μ) es es') (since:Nat) (seen:List Nat):Y4 (OptE μ) (KS es since seen) (KS es' since seen):=by
  have h1:=h.filter (p:=fun e=>!seen.contains e.born) (by intro x y hxy;simp only[hxy.2.2]);have h2:=h1.filter (p:=fun e=>decide (e.born<since)) (by intro x y hxy;simp only[hxy.2.2]);have h3:=h1.filter (p:=fun e=>decide (e.born≥since)) (by intro x y hxy;simp only[hxy.2.2]);have hm:∀{a b:List MapEntry},Y4 (EntRel μ) a b→Y4 (OptE μ) (a.map some) (b.map some):=by
    intro a b hab;refine⟨by simp[hab.1],fun i x y hx hy=>?_⟩;rw[an]at hx hy;cases ha:a[i]? with
    |none=>rw[ha]at hx;cases hx
    | some u=>
      cases hb:b[i]? with
      |none=>rw[hb]at hy;cases hy
      | some v=>
        rw[ha]at hx;rw[hb]at hy;injection hx with hx;injection hy with hy;subst hx;subst hy;exact hab.2 i u v ha hb
  unfold KS;refine Y4.app ?_ (hm (h2.app h3));have hl:=h2.1;generalize List.filter (fun e=>decide (e.born<since)) (List.filter (fun e=>!seen.contains e.born) es)=p at hl;generalize List.filter (fun e=>decide (e.born<since)) (List.filter (fun e=>!seen.contains e.born) es')=q at hl;cases p<;>cases q<;>first|exact .cons trivial .nil|exact .nil|simp at hl
def CD (A:Xx) (r m since:Nat) (seen:List Nat) (cl:Nat) (o:Option MapEntry):Value×Xx:=
  match o with
  |some e=>(.tuple ⟨[.bool true,e.key,e.val]⟩,Up A r (.miter (some m) since (seen++[e.born]) cl))
  |none=>(.tuple ⟨[.bool false]⟩,A)
def HU (A:Xx) (it:Value):Option (List (Value×Xx)):=
  match it with
  | .pointer (some ⟨r,0,none⟩)=>
    match A.heap.get r with
    |some (.miter none _ _ _)=>some [(.tuple ⟨[.bool false]⟩,A)]
    | some (.miter (some m) since seen last)=>
      match A.heap.get m with
      | some (.map es cl)=>
        (match !seen.isEmpty&&!es.isEmpty&&es.all (fun e=>decide (e.born≥last))with
          |true=>none
          |false=>some ((KS es since seen).map (CD A r m since seen cl)))
      |_=>none
    |_=>none
  |_=>none
theorem BG (R:Yi μ B A w.heap) {it it':Value} (hi:XI μ it it') {rs:List (Value×Xx)} (h:HU A it=some rs) (rt:TypeId):
    ∃r∈rs,Ok P μ B A w (Instr.next it' false rt) r.1 r.2:=by
  unfold HU at h;split at h
  case h_2=>cases h
  rename_i rr;cases hi with
  | @ptr _ _ e he=>
  split at h
  · rename_i since seen last ho;injection h with h;subst h;refine⟨_,dm.2 rfl,?_⟩;obtain⟨hg,hB,m',h1,h2⟩:=R.obj rr _ e ho he;have hd:=(R.dom rr e he).2.2.1 hg;rcases h2 with⟨_,rfl⟩|⟨_,_,hc,_⟩
    · refine .pure R (v':= .tuple #[.bool false]) ?_ (XF.tuple (.cons (.bool _) .nil));have hg1:=Yd (P:=P) (w:=w) h1 (by intro c t f hc;cases hc);rw[hd];simp only[Instr.next,dy,ag,hg1,ae];rfl
    · cases hc
  · rename_i m since seen last ho;split at h
    case h_2=>cases h
    rename_i es cl hm;split at h
    · cases h
    rename_i hcond;injection h with h;subst h;obtain⟨hg,hB,m',h1,h2⟩:=R.obj rr _ e ho he;have hd:=(R.dom rr e he).2.2.1 hg;have hlt:=(R.dom rr e he).2.1;rcases h2 with⟨hc,_⟩|⟨m0,em,hm0,hem,rfl⟩
    · cases hc
    injection hm0 with hm0;subst hm0;obtain⟨_,_,es',h3,h4⟩:=R.obj m _ em hm hem;have hn:∀c t f,(Obj.mapIter (some em.blk) since seen.toArray last)≠ .cells c t f:=by intro c t f hc;cases hc
    have hg1:=Yd (P:=P) (w:=w) h1 hn;have hs1:=fun o=>GL (P:=P) (w:=w) h1 hn o;have hg2:=Yd (P:=P) (w:=w) h3 (by intro c t f hc;cases hc);have hcr:=Mw h4 since seen;have hall:es'.all (fun e=>decide (e.born≥last))=es.all (fun e=>decide (e.born≥last)):=by
      rw[←Array.all_toList,List.all_eq,List.all_eq];have :∀(a b:List MapEntry),Y4 (EntRel μ) a b→((∀x∈b,decide (x.born≥last)=true)↔(∀x∈a,decide (x.born≥last)=true)):=by
        intro a
        induction a with
        |nil=>intro b hb;rw[hb.nil_left];
        | cons x a ih=>
          intro b hb;obtain⟨y,b',rfl,p,q⟩:=hb.cons_left;simp only[List.forall_mem_cons,ih b' q,p.2.2]
      simp only[this _ _ h4]
    have hsz:es'.toList.length=es.length:=h4.1.symm;have hemp : es'.isEmpty=es.isEmpty:=by
      cases es with
      | nil => have:es'= #[]:=by simpa using hsz
               simp[this]
      | cons a l=>
        have:es'.size≠0:=by simp at hsz;omega
        simp[Array.isEmpty,this]
    have hcands:((if((es'.filter fun e=>!seen.toArray.contains e.born).filter fun e=>decide (e.born<since)).isEmpty=true then #[none]else #[])++
        Array.map some (((es'.filter fun e=>!seen.toArray.contains e.born).filter fun e=>decide (e.born<since))++((es'.filter fun e=>!seen.toArray.contains e.born).filter fun e=>decide (e.born≥since))):Array (Option MapEntry))=(KS es'.toList since seen).toArray:=by
      apply fz;have e2:∀p:MapEntry→Bool,((es'.filter fun e=>!seen.toArray.contains e.born).filter p).toList=(es'.toList.filter (fun e=>!seen.contains e.born)).filter p:=by intro p;simp
      have e3:((es'.filter fun e=>!seen.toArray.contains e.born).filter fun e=>decide (e.born<since)).isEmpty=((es'.toList.filter (fun e=>!seen.contains e.born)).filter fun e=>decide (e.born<since)).isEmpty:=by rw[←e2,Array.isEmpty_toList]
      simp only[KS,gv,Array.toList_map,e2,e3]
      congr 1
      cases((es'.toList.filter (fun e=>!seen.contains e.born)).filter fun e=>decide (e.born<since))<;>rfl
    have hne:0<(KS es'.toList since seen).length:=by
      simp only[KS];cases((es'.toList.filter (fun e=>!seen.contains e.born)).filter fun e=>decide (e.born<since))<;>simp
    have hch:∃i w1,(choose (.mapNext (KS es'.toList since seen).length)).run P w= .ok i w1∧i<(KS es'.toList since seen).length∧w1.heap=w.heap∧Below B w w1:=by
      rw[run_choose];split
      · exact⟨0,w,rfl,hne,rfl,bg _ _⟩
      · exact⟨_,w.drew,rfl,la _ hne,rfl,(bg _ _).drew⟩
    obtain⟨i,w1,hc1,hi1,hw1,hB1⟩:=hch;have hil:i<(KS es since seen).length:=by rw[hcr.1];exact hi1
    refine⟨CD A rr m since seen cl (KS es since seen)[i],cy.2 ⟨_,ba hil,rfl⟩,?_⟩;have hoe:=hcr.2 i _ _ (aa hil) (aa hi1);have hget:(KS es'.toList since seen).toArray[i]? =some (KS es'.toList since seen)[i]:=by simp[hi1]
    have hcond':(!seen.toArray.isEmpty&&!es'.isEmpty&&es'.all (fun e=>decide (e.born≥last)))=false:=by
      rw[hemp,hall];simpa using hcond
    have hadr:(⟨e.blk,e.dl+0,none⟩:Addr)=⟨e.blk,0,none⟩:=by rw[hd]
    have hrun:(Instr.next (.pointer (some ⟨e.blk,e.dl+0,none⟩)) false rt).run P w=(match(KS es'.toList since seen)[i]with
        |some e1=>(setObj e.blk (.mapIter (some em.blk) since (seen.toArray.push e1.born) cl)>>=fun _=>pure (.tuple #[.bool true,e1.key,e1.val]))
        |none=>pure (.tuple #[.bool false]):Sem Value).run P w1:=by
      rw[hadr];simp only[Instr.next,ag,hg1,ae,hg2];rw[if_neg (by rw[hcond'];simp)];simp only[ag];rw[hcands];simp only[List.size_toArray,hc1,ae,hget];cases(KS es'.toList since seen)[i]<;>rfl
    have R1:Yi μ B A w1.heap:=by rw[hw1];exact R
    have h1':w1.heap[e.blk]? =some (.mapIter (some em.blk) since seen.toArray last):=by rw[hw1];exact h1
    generalize(KS es'.toList since seen)[i]=o' at hoe hrun;generalize(KS es since seen)[i]=o at hoe;cases o with
    | none=>
      cases o' with
      |some y=>exact hoe.elim
      |none=>exact⟨_,w1,μ,hrun,Mu.Ext.refl _ μ,R1,XF.tuple (.cons (.bool _) .nil),hB1,JP.refl _ _⟩
    | some e0=>
      cases o' with
      |none=>exact hoe.elim
      | some e0'=>
        have hoe:EntRel μ e0 e0':=hoe;obtain ⟨k1,k2,k3⟩:=GC R1 he hg hB (o:= .miter (some m) since (seen++[e0.born]) cl) trivial (o':= .mapIter (some em.blk) since (seen.toArray.push e0'.born) cl)
          ⟨hg,hB,some em.blk,by rw[hoe.2.2];rw[Kx (by rw[hw1];exact hlt)];simp, .inr ⟨m,em,rfl,hem,rfl⟩⟩
        refine⟨_,_,μ,?_,Mu.Ext.refl _ μ,k1,XF.tuple (.cons (.bool _) (.cons hoe.1 (.cons hoe.2.1 .nil))),hB1.trans k3,k2⟩;rw[hrun];simp only[ag,GL h1' hn,ae];rfl
  · cases h
def QR (A:Xx) (it:Value):Option Value:=
  match it with
  | .pointer (some ⟨r,0,none⟩)=>
    match A.heap.get r with
    | some (.miter (some m) _ seen stepped)=>
      match A.heap.get m,seen.getLast? with
      | some (.map es cl),some b=>
        (match Nat.beq cl stepped,es.find? (fun e=>e.born==b)with
          |true,some e=>some (.tuple ⟨[e.key,e.val]⟩)
          |_,_=>none)
      |_,_=>none
    |_=>none
  |_=>none
theorem find_born {b:Nat}:∀{es es':List MapEntry},Y4 (EntRel μ) es es'→∀{e:MapEntry},es.find? (fun e=>e.born==b)=some e→∃e',es'.find? (fun e=>e.born==b)=some e'∧EntRel μ e e':=by
  intro es
  induction es with
  |nil=>intro es' _ e h;cases h
  | cons x es ih=>
    intro es' h e he;obtain⟨y,es'',rfl,p,q⟩:=h.cons_left;rw[List.find?_cons]at he⊢;rw[←p.2.2];cases hx:x.born==b with
    |true=>rw[hx]at he;injection he with he;subst he;exact⟨y,rfl,p⟩
    |false=>rw[hx]at he;exact ih q he
theorem LL (R:Yi μ B A w.heap) {it it':Value} (hi:XI μ it it') {v:Value} (h:QR A it=some v):∃v',(Instr.entry it').run P w= .ok v' w∧XI μ v v':=by
  unfold QR at h;split at h
  case h_2=>cases h
  rename_i rr;cases hi with
  | @ptr _ _ e he=>
  split at h
  case h_2=>cases h
  rename_i m since seen stepped ho;split at h
  case h_2=>cases h
  rename_i es cl b hm hlast;split at h
  case h_2=>cases h
  rename_i e0 hcl hfind;injection h with h;subst h;have hcl:=ap hcl;subst hcl;obtain⟨hg,hB,m',h1,h2⟩:=R.obj rr _ e ho he;have hd:=(R.dom rr e he).2.2.1 hg;rcases h2 with⟨hc,_⟩|⟨m0,em,hm0,hem,rfl⟩
  · cases hc
  injection hm0 with hm0;subst hm0;obtain⟨_,_,es',h3,h4⟩:=R.obj m _ em hm hem;have hg1:=Yd (P:=P) (w:=w) h1 (by intro c t f hc;cases hc);have hg2:=Yd (P:=P) (w:=w) h3 (by intro c t f hc;cases hc);obtain⟨e',f1,f2⟩:=find_born h4 hfind;have f1':es'.find? (fun e=>e.born==b)=some e':=by rw[←Array.find?_toList];exact f1
  refine⟨.tuple #[e'.key,e'.val],?_,XF.tuple (.cons f2.1 (.cons f2.2.1 .nil))⟩;rw[hd];have hback:seen.toArray.back? =some b:=by simpa using hlast
  simp only[Instr.entry,dy,ag,hg1,ae,hback,hg2,f1'];simp
def TY (T:Tab) (A:Xx) (ats:List TypeId) (d s:Value):Option (Value×Xx):=
  match ats with
  | dt :: _ =>
    match T.ty.get dt with
    | some td =>
      match td.desc with
      | .slice el=>
        match T.ty.get el,d,LY s with
        | some te, .slice (some ⟨b,off,none⟩) dl _,some sl=>
          (match bif Nat.ble sl dl then sl else dl with
            |0=>some (.int .i64 (.ofNat 0),A)
            | n +1=>
              (match (match s with
                | .slice (some ⟨b2,off2,none⟩) _ _=>JQ A b2 off2 (Nat.mul (Nat.succ n) te.size)
                | .string ⟨⟨l⟩⟩=>(match te.size,takeN l (Nat.succ n)with|1,some r=>some (Pu r)|_,_=>none)
                |_=>none)with
                |some cells=>(match Hh A b off cells with|some A'=>some (.int .i64 (.ofNat (Nat.succ n)),A')|none=>none)
                |none=>none))
        |some _, .slice none 0 0,some _=>some (.int .i64 (.ofNat 0),A)
        |_,_,_=>none
      |_=>none
    |none=>none
  |_=>none
theorem TX (C:YN P T) (R:Yi μ B A w.heap) {ats:List TypeId} {d d' s s':Value} (hd:XI μ d d') (hs:XI μ s s') {r:Value×Xx} (h:TY T A ats d s=some r) (rt:TypeId):
    Ok P μ B A w (Builtin.copy_ ats.toArray rt #[d',s']) r.1 r.2:=by
  unfold TY at h;split at h
  case h_2=>cases h
  rename_i dt rest;split at h
  case h_2=>cases h
  rename_i td htd;split at h
  case h_2=>cases h
  rename_i el hdesc;have hu:=C.underlying htd w;split at h
  · rename_i te b off dl cap sl hte hsl;have hsl':LY s'=some sl:=by
      unfold LY at hsl;split at hsl
      · injection hsl with hsl;subst hsl;cases hs<;>rfl
      · injection hsl with hsl;subst hsl;cases hs;rfl
      · cases hsl
    have hmin : (bif Nat.ble sl dl then sl else dl)=Nat.min sl dl:=by
      cases hb:Nat.ble sl dl with
      |true=>have:=YW hb;simp[this]
      | false => have:¬sl≤dl:=fun hc=>by rw[ju hc]at hb;cases hb
                 simp[Nat.min_def,this]
    have hat:(dt::rest).toArray[0]? =some dt:=by simp
    have hshape:∃a c,d'= .slice (some a) dl c:=by cases hd<;>exact⟨_,_,rfl⟩
    obtain⟨a,c,rfl⟩:=hshape;have hrun:(Builtin.copy_ (dt::rest).toArray rt #[.slice (some a) dl c,s']).run P w=((Builtin.firstCells te.size (Nat.min sl dl) s'>>=fun cells=>storeCells a cells.toList>>=fun _=>pure (goInt (Nat.min sl dl))):Sem Value).run P w:=by
      simp only[Builtin.copy_,hat,eo,cj,fb,ag,hu,hdesc,ae,QD hsl',C.sizeOf hte]
    rw[hmin]at h;split at h
    · rename_i hmz;injection h with h;subst h;refine .pure R (v':=goInt 0) ?_ (.int _ _);rw[hrun,hmz];have hf:(Builtin.firstCells te.size 0 s').run P w= .ok #[] w:=by
        unfold LY at hsl';split at hsl'
        · rename_i a0 n0 c0;cases a0<;>simp[Builtin.firstCells,loadCells,loadCellsFrom]
        · simp[Builtin.firstCells]
        · cases hsl'
      simp only[ag,hf,ae];rfl
    · rename_i n hmn;split at h
      case h_2=>cases h
      rename_i cells hcells;split at h
      case h_2=>cases h
      rename_i A' hA;injection h with h;subst h;have hf :∃zs:Array Value,(Builtin.firstCells te.size (n+1) s').run P w= .ok zs w∧XF μ cells zs.toList:=by
        split at hcells
        · rename_i b2 off2 n2 c2;have hn0:n2≠0:=by
            intro h0;subst h0;injection hsl with hsl;subst hsl;have:Nat.min 0 dl=0:=Nat.zero_min _;omega
          have key:∀(e:Ent) (c':Nat),μ b2=some e→s'= .slice (some ⟨e.blk,e.dl+off2,none⟩) n2 c'→∃zs:Array Value,(Builtin.firstCells te.size (n+1) s').run P w= .ok zs w∧XF μ cells zs.toList:=by
            intro e c' he hs';subst hs';obtain⟨zs,z1,z2,_⟩:=Kh P R he hcells;exact⟨zs,z1,z2⟩
          cases hs with
          |slice he hg=>exact key _ _ he rfl
          |gslice he hg h1 h2 h3=>exact key _ _ he rfl
          |zslice he=>exact absurd rfl hn0
        · rename_i l;cases hs;split at hcells
          · rename_i r0 hsz hr0;injection hcells with hcells;subst hcells;obtain⟨rfl,hle⟩:=YZ hr0;refine⟨((l.take (n+1)).map fun b=>Value.int .u8 b.toNat).toArray,?_,?_⟩
            · simp only[Builtin.firstCells,am]
              congr 1
              apply fz;simp
            · rw[Zf];refine⟨by simp,fun i x y hx hy=>?_⟩;simp only[]at hy;rw[hx]at hy;injection hy with hy;subst hy;rw[an]at hx;cases hb:(l.take (n+1))[i]? with
              |none=>rw[hb]at hx;cases hx
              |some q=>rw[hb]at hx;injection hx with hx;subst hx;exact .int _ _
          · cases hcells
        · cases hcells
      obtain⟨zs,z1,z2⟩:=hf;have key:∀(e:Ent),μ b=some e→a=⟨e.blk,e.dl+off,none⟩→Ok P μ B A w (Builtin.copy_ (dt::rest).toArray rt #[.slice (some a) dl c,s']) (.int .i64 (.ofNat (Nat.succ n))) A':=by
        intro e he ha;subst ha;obtain⟨w',k1,k2,k3,k4,_⟩:=JM P R he z2 hA;refine⟨goInt (n+1:Nat),w',μ,?_,Mu.Ext.refl _ μ,k2, .int _ _,k3,k4⟩;rw[hrun,hmn];have z1':(Builtin.firstCells te.size (Nat.succ n) s').run P w= .ok zs w:=z1;simp only[ag,z1',ae,k1];rfl
      cases hd with
      |slice he hg=>exact key _ he rfl
      |gslice he hg h1 h2 h3=>exact key _ he rfl
      |zslice he=>have:Nat.min sl 0=0:=Nat.min_zero _;omega
  · rename_i te sl hte hsl;injection h with h;subst h;cases hd;have hsl':∃sl',LY s'=some sl':=by
      unfold LY at hsl;split at hsl
      · cases hs<;>exact⟨_,rfl⟩
      · cases hs;exact⟨_,rfl⟩
      · cases hsl
    obtain⟨sl',hsl'⟩:=hsl';have hat:(dt::rest).toArray[0]? =some dt:=by simp
    have hf:(Builtin.firstCells te.size 0 s').run P w= .ok #[] w:=by
      unfold LY at hsl';split at hsl'
      · rename_i a0 n0 c0;cases a0<;>simp[Builtin.firstCells,loadCells,loadCellsFrom]
      · simp[Builtin.firstCells]
      · cases hsl'
    refine .pure R (v':=goInt 0) ?_ (.int _ _);have hm0:Nat.min sl' 0=0:=Nat.min_zero _;simp only[Builtin.copy_,hat,eo,cj,fb,ag,hu,hdesc,ae,QD hsl',C.sizeOf hte,hm0,hf];rfl
  · cases h
def HY (T:Tab) (x:Value) (t:TypeId) (ok:Bool):Option Value:=
  match T.ty.get t with
  | some ti=>
    match ti.desc,x with
    | .interface _, .nilIface=>(match ok with|true=>some (.tuple ⟨[ti.zero, .bool false]⟩)|false=>none)
    | .interface _,_=>none
    |_, .nilIface=>(match ok with|true=>some (.tuple ⟨[ti.zero, .bool false]⟩)|false=>none)
    | _, .iface u v=>(match Nat.beq u t,ok with
      |true,true=>some (.tuple ⟨[v, .bool true]⟩)
      |true,false=>some v
      |false,true=>some (.tuple ⟨[ti.zero, .bool false]⟩)
      |_,_=>none)
    |_,_=>none
  |none=>none
theorem Fu (C:YN P T) {x x':Value} (hx:XI μ x x') {xt t:TypeId} {ok:Bool} {v:Value} (h:HY T x t ok=some v) (w:World):∃v',(Instr.typeAssert x' xt t ok).run P w= .ok v' w∧XI μ v v':=by
  unfold HY at h;split at h
  case h_2=>cases h
  rename_i ti ht;have hu:=C.underlying ht w;have hz:=C.zeroValue ht w;have hzr:=Yu (C.closed ht) μ;have tup:∀a a' b,XI μ a a'→XI μ (.tuple ⟨[a, .bool b]⟩) (.tuple #[a', .bool b]):=fun a a' b h1=>XF.tuple (.cons h1 (.cons (.bool b) .nil));split at h
  · rename_i ms hd;cases hx;split at h
    · injection h with h;subst h;exact⟨_,by simp[Instr.typeAssert,hu,hd,hz],tup _ _ _ hzr⟩
    · cases h
  · cases h
  · rename_i hni;cases hx;split at h
    · injection h with h;subst h;refine⟨_,?_,tup _ _ _ hzr⟩;simp only[Instr.typeAssert,ag,hu,ae];split<;>simp_all
    · cases h
  · rename_i u v0 hni;cases hx with
    |iface _ hv=>
    have hnif:∀ms,ti.desc≠ .interface ms:=fun ms hc=>hni ms hc;split at h
    · rename_i heq;have heq:=ap heq;injection h with h;subst h;refine⟨_,?_,tup _ _ _ hv⟩;simp only[Instr.typeAssert,ag,hu,ae];split<;>simp_all
    · rename_i heq;have heq:=ap heq;injection h with h;subst h;refine⟨_,?_,hv⟩;simp only[Instr.typeAssert,ag,hu,ae];split<;>simp_all
    · rename_i hne;have hne:=du hne;injection h with h;subst h;refine⟨_,?_,tup _ _ _ hzr⟩;simp only[Instr.typeAssert,ag,hu,ae];split<;>simp_all
    · cases h
  · cases h
end
end
noncomputable section
def countB(l:List UInt8)(c:Nat):Nat:=
 List.rec (motive:=fun _=>Nat) 0 (fun b _ r=>Bool.rec (motive:=fun _=>Nat) r (Nat.succ r) (Nat.beq b.toNat c)) l
def lY(l:List UInt8)(c:Nat):Nat→Option Nat:=
 List.rec (motive:=fun _=>Nat→Option Nat) (fun _=>none) (fun b _ ih k=>Bool.rec (motive:=fun _=>Option Nat) (ih (Nat.succ k)) (some k) (Nat.beq b.toNat c)) l
def kG(l m:List UInt8):Int:=
 match l,m with
 |[],[]=> .ofNat 0
 |[],_::_=> .negSucc 0
 |_::_,[]=> .ofNat 1
 |a::l1,b::m1=>(match Nat.blt a.toNat b.toNat with|true=> .negSucc 0|false=>(match Nat.blt b.toNat a.toNat with|true=> .ofNat 1|false=>kG l1 m1))
theorem IU(b:UInt8)(c:Nat):Nat.beq b.toNat (Nat.mod c 256)=(b==c.toUInt8):=by
 have h:c.toUInt8.toNat=Nat.mod c 256:=by simp[Nat.toUInt8];rfl
 rw[←h,eg,beq_iff_eq];constructor
 ·intro e;exact UInt8.toNat_inj.1 (ap e)
 ·intro e;subst e;exact Nat.beq_refl _
theorem A9(l:List UInt8)(c:Nat):countB l (Nat.mod c 256)=Lib.countByte l c.toUInt8:=by
 induction l with
 |nil=>rfl
 |cons b l ih=>
  show Bool.rec (motive:=fun _=>Nat) (countB l (Nat.mod c 256)) (Nat.succ (countB l (Nat.mod c 256))) (Nat.beq b.toNat (Nat.mod c 256))=_
  rw[IU,ih];unfold Lib.countByte;rw[List.count_cons];cases h:b==c.toUInt8<;>simp
theorem S4(l:List UInt8)(c:Nat):∀k,lY l (Nat.mod c 256) k=(if Lib.indexByte l c.toUInt8= -1 then none else some ((Lib.indexByte l c.toUInt8).toNat+k)):=by
 induction l with
 |nil=>intro k;rfl
 |cons b l ih=>
  intro k
  show Bool.rec (motive:=fun _=>Option Nat) (lY l (Nat.mod c 256) (Nat.succ k)) (some k) (Nat.beq b.toNat (Nat.mod c 256))=_
  rw[IU,ih];have hc:Lib.indexByte (b::l) c.toUInt8=if b==c.toUInt8 then 0 else if Lib.indexByte l c.toUInt8==-1 then -1 else Lib.indexByte l c.toUInt8+1:=rfl
  rw[hc];have hge:=Lib.indexByte_ge l c.toUInt8;cases h:b==c.toUInt8 with
  |true=>simp
  |false=>
   simp only[de,dg];by_cases h1:Lib.indexByte l c.toUInt8= -1
   ·simp[h1]
   ·have h2:(Lib.indexByte l c.toUInt8==-1)=false:=by simpa using h1
    simp only[h1,h2,de,dg];rw[if_neg (by omega)]
    congr 1
    omega
theorem Db:∀l m:List UInt8,kG l m=Lib.compareBytes l m
 |[],[]=>rfl
 |[],_::_=>rfl
 |_::_,[]=>rfl
 |a::l1,b::m1=>by
  unfold kG Lib.compareBytes;have h1:(a<b)↔a.toNat<b.toNat:=UInt8.lt_iff_toNat_lt;have h2:(b<a)↔b.toNat<a.toNat:=UInt8.lt_iff_toNat_lt;cases ha:Nat.blt a.toNat b.toNat with
  |true=>rw[if_pos (h1.2 (by simpa using ha))];rfl
  |false=>
   rw[if_neg (fun h=>by have:=h1.1 h;rw[←jh,ha]at this;cases this)];cases hb:Nat.blt b.toNat a.toNat with
   |true=>rw[if_pos (h2.2 (by simpa using hb))];rfl
   |false=>
    rw[if_neg (fun h=>by have:=h2.1 h;rw[←jh,hb]at this;cases this)];exact Db l1 m1
def fL(k:Nat)(args:List Value):Option Value:=
 match k,args with
 |0,[.string ⟨⟨s⟩⟩, .int .u8 (.ofNat c)]=>some (.int .i64 (.ofNat (countB s (Nat.mod c 256))))
 |1,[.string ⟨⟨s⟩⟩, .int .u8 (.ofNat c)]=>(match lY s (Nat.mod c 256) 0 with|some i=>some (.int .i64 (.ofNat i))|none=>some (.int .i64 (.negSucc 0)))
 |2,[.string ⟨⟨s⟩⟩, .string ⟨⟨t⟩⟩]=>some (.int .i64 (kG s t))
 |_,_=>none
theorem GX{μ:Mu}{s:ByteArray}{v:Value}(h:XI μ (.string s) v):v= .string s:=by cases h;rfl
theorem ZF{μ:Mu}{k:IntKind}{n:Int}{v:Value}(h:XI μ (.int k n) v):v= .int k n:=by cases h;rfl
theorem WJ{P:Program}{T:Tab}(C:YN P T){f:FuncId}{k:Nat}(hk:T.ext.get f=some k){μ:Mu}{args args':List Value}(ha:XF μ args args'){v:Value}(h:fL k args=some v)(w:World):
  (callFunc f args'.toArray).run P w= .ok (.value v) w:=by
 obtain⟨fn,h1,h2,h3,h4,h5⟩:=C.ext f k hk;have h3':¬fn.name= "runtime.NumGoroutine" :=by simpa using h3
 have h4':Extern.findNext fn=none:=by simpa using h4
 have key:∀{e:Array Value→Sem Value},Extern.find fn=some e→(e args'.toArray).run P w= .ok v w→(callFunc f args'.toArray).run P w= .ok (.value v) w:=by
  intro e he hr;simp[callFunc,h1,h2,h3',h4',he,hr]
 unfold fL at h;split at h
 ·rename_i s c;injection h with h;subst h;obtain⟨y,r,rfl,hy,hr⟩:=ha.cons_left;obtain⟨z,r,rfl,hz,hr⟩:=hr.cons_left;cases hr.nil_left;cases GX hy;cases ZF hz;refine key h5 ?_;have:=Lib.run_countString (P:=P) ⟨⟨s⟩⟩ (.ofNat c) w;rw[A9];simpa using this
 ·rename_i s c;obtain⟨y,r,rfl,hy,hr⟩:=ha.cons_left;obtain⟨z,r,rfl,hz,hr⟩:=hr.cons_left;cases hr.nil_left;cases GX hy;cases ZF hz;refine key h5 ?_;have hrun:=Lib.run_indexByteString (P:=P) ⟨⟨s⟩⟩ (.ofNat c) w;have e1:(Int.ofNat c).toNat.toUInt8=c.toUInt8:=rfl;rw[e1]at hrun;have hge:=Lib.indexByte_ge s c.toUInt8;have hi:=S4 s c 0;split at h
  ·rename_i i hx;injection h with h;subst h;rw[hi]at hx;split at hx
   ·cases hx
   ·rename_i hne;injection hx with hx;have:Lib.indexByte s c.toUInt8=Int.ofNat i:=by simp only[gu];omega
    rw[←this];exact hrun
  ·rename_i hx;injection h with h;subst h;rw[hi]at hx;split at hx
   ·rename_i he;have he:Lib.indexByte s c.toUInt8=Int.negSucc 0:=he;rw[←he];exact hrun
   ·cases hx
 ·rename_i s t;injection h with h;subst h;obtain⟨y,r,rfl,hy,hr⟩:=ha.cons_left;obtain⟨z,r,rfl,hz,hr⟩:=hr.cons_left;cases hr.nil_left;cases GX hy;cases GX hz;refine key h5 ?_;rw[Db];exact Lib.run_compareString (P:=P) ⟨⟨s⟩⟩ ⟨⟨t⟩⟩ w
 ·cases h
theorem Ou{k:Nat}{args:List Value}{v:Value}(h:fL k args=some v)(μ:Mu):XI μ v v:=by
 unfold fL at h;split at h
 ·injection h with h;subst h;exact .int _ _
 ·split at h<;>(injection h with h;subst h;exact .int _ _)
 ·injection h with h;subst h;exact .int _ _
 ·cases h
def mI(A:Xx)(k:Nat)(args:List Value):Option (Value×Xx):=
 match k,args with
 |10,[.pointer (some ⟨b,off,none⟩)]=>(match JQ A b off 1 with|some [.int .u32 n]=>some (.int .u32 n,A)|_=>none)
 |11,[.pointer (some ⟨b,off,none⟩), .int .u32 n]=>(match JQ A b off 1 with
   |some [.int .u32 _]=>(match Hh A b off [.int .u32 n]with|some A'=>some (.tuple ⟨[]⟩,A')|none=>none)
   |_=>none)
 |12,[.pointer (some ⟨b,off,none⟩), .int .i32 x, .int .i32 y]=>
  (match JQ A b off 1 with
   |some [.int .i32 v]=>(match iEq v x with|true=>(match Hh A b off [.int .i32 y]with|some A'=>some (.bool true,A')|none=>none)|false=>none)
   |_=>none)
 |13,[.pointer (some ⟨b,off,none⟩), .int .i32 d]=>
  (match JQ A b off 1 with
   |some [.int .i32 v]=>(match Hh A b off [.int .i32 (Qx .i32 (Int.add v d))]with|some A'=>some (.int .i32 (Qx .i32 (Int.add v d)),A')|none=>none)
   |_=>none)
 |20,[.pointer (some ⟨_,_,none⟩)]=>some (.tuple ⟨[]⟩,A)
 |21,[]=>some (.tuple ⟨[]⟩,A)
 |k,args=>(match fL k args with|some v=>some (v,A)|none=>none)
theorem Rl{P:Program}{μ:Mu}{B:Nat}{A:Xx}{w:World}(R:Yi μ B A w.heap){b off:Nat}{e:Ent}{x:Value}(he:μ b=some e)(h:JQ A b off 1=some [x])(m:Mode):
  ∃z:Value,(load ⟨e.blk,e.dl+off,none⟩ m).run P w= .ok z w∧XI μ x z∧w.cell? ⟨e.blk,e.dl+off,none⟩=some z:=by
 unfold JQ at h;split at h
 ·rename_i xs k ho;obtain⟨arr,t,fr,ha,hle,hx⟩:=Qr R ho he;obtain⟨h1,hn⟩:=YZ h;rw[Kw]at h1 hn;have h2:xs[off]? =some x:=by
   have:(xs.drop off)[0]? =some x:=by
    have:=ee (fun l=>l[0]?) h1;simp at this;simpa using this.symm
   simpa using this
  obtain⟨z,hz,hr⟩:=hx off x h2;have hc:w.cell? ⟨e.blk,e.dl+off,none⟩=some z:=by rw[Js ha,hz]
  exact⟨z,by rw[run_load,hc],hr,hc⟩
 ·cases h
theorem PH{P:Program}{μ:Mu}{B:Nat}{A A':Xx}{w:World}(R:Yi μ B A w.heap){b off:Nat}{e:Ent}{x z:Value}(he:μ b=some e)(hv:XI μ x x)(hone:x.oneCell'=true)(hc:w.cell? ⟨e.blk,e.dl+off,none⟩=some z)
  (h:Hh A b off [x]=some A') (m:Mode):
  w.frozen? ⟨e.blk,e.dl+off,none⟩=false∧∃w',(store ⟨e.blk,e.dl+off,none⟩ x m).run P w= .ok () w'∧Yi μ B A' w'.heap∧Below B w w'∧JP μ A A':=by
 obtain⟨w',h1,h2,h3,h4,_⟩:=JM P R he (.cons hv .nil) h;have h5:(store ⟨e.blk,e.dl+off,none⟩ x .plain).run P w= .ok () w':=by
  simp only[storeCells,ag,Jt,dy]at h1;cases hr:(store ⟨e.blk,e.dl+off,none⟩ x .plain).run P w with
  |ok u w2=>rw[hr]at h1;simpa using h1
  |halt x' w2=>rw[hr]at h1;cases h1
 have hpl:=h5;rw[run_store P w _ x .plain hone,hc]at hpl;cases hf:w.frozen? ⟨e.blk,e.dl+off,none⟩with
 |true=>rw[hf]at hpl;cases hpl
 |false=>
  rw[hf]at hpl;refine⟨rfl,w',?_,h2,h3,h4⟩;rw[run_store P w _ x m hone,hc,hf];exact hpl
theorem Ak(t:Extern.Atomic.T)(p:Value):Extern.Atomic.loadT t #[p]=(asAddr p>>=fun a=>Extern.Atomic.read t a):=rfl
theorem I9(p v:Value):Extern.Atomic.storeT #[p,v]=(asAddr p>>=fun a=>store a v .atomic>>=fun _=>pure (.tuple #[])):=rfl
theorem Bq{P:Program}{w w':World}{a:Addr}{x y:Int}(hc:w.cell? a=some (.int .i32 x))(hz:w.frozen? a=false)(s1:(store a (.int .i32 y) .atomic).run P w= .ok () w'):
  (Extern.Atomic.casT (.int .i32) #[.pointer (some a), .int .i32 x, .int .i32 y]).run P w= .ok (.bool true) w':=by
 change Sem.run P (do
  let a'←asAddr (.pointer (some a))
  if←Extern.Atomic.touchesFrozen a' then unsupported (.unsafePointer "a write to bytes that a string shares")
  let eq←match Extern.Atomic.T.int .i32,←Extern.Atomic.read (.int .i32) a',Value.int .i32 x with
   |_, .int _ x, .int _ y=>pure (x==y)
   | .ptr, .pointer x, .pointer y=>samePointer x y
   | .int _, .pointer (some _), .int _ 0| .int _, .int _ 0, .pointer (some _)=>pure false
   | .int _, .pointer (some _),_| .int _,_, .pointer (some _)=>unsupported .addressObserved
   |_,_,_=>stuck "atomic.CompareAndSwap: old is no T"
  if eq then store a' (.int .i32 y) .atomic
  pure (Value.bool eq)) w=_
 simp[Extern.Atomic.touchesFrozen,Extern.Atomic.read,asAddr,viewAt,World.shape?_isSome_of_cell? hc,hc,hz,s1]
theorem I8(p y:Value):Extern.Atomic.update (Op.intArith .add) .i32 true #[p,y]=(asAddr p>>=fun a=>Extern.Atomic.read (.int .i32) a>>=fun old=>asInt old>>=fun o=>asInt y>>=fun n=>Op.intArith .add .i32 o n>>=fun new=>store a new .atomic>>=fun _=>pure new):=rfl
theorem WK{P:Program}{T:Tab}(C:YN P T){f:FuncId}{k:Nat}(hk:T.ext.get f=some k){μ:Mu}{B:Nat}{A:Xx}{w:World}(R:Yi μ B A w.heap){args args':List Value}(ha:XF μ args args'){r:Value×Xx}(h:mI A k args=some r):
  ∃v' w',(callFunc f args'.toArray).run P w= .ok (.value v') w'∧Yi μ B r.2 w'.heap∧XI μ r.1 v'∧Below B w w'∧JP μ A r.2:=by
 obtain⟨fn,h1,h2,h3,h4,h5⟩:=C.ext f k hk;have h3':¬fn.name= "runtime.NumGoroutine" :=by simpa using h3
 have h4':Extern.findNext fn=none:=by simpa using h4
 have key:∀{e:Array Value→Sem Value} {v':Value} {w':World},Extern.find fn=some e→(e args'.toArray).run P w= .ok v' w'→(callFunc f args'.toArray).run P w= .ok (.value v') w':=by
  intro e v' w' he hr;simp[callFunc,h1,h2,h3',h4',he,hr]
 unfold mI at h;split at h
 ·rename_i b off;split at h
  case h_2=>cases h
  rename_i n hl;injection h with h;subst h;obtain⟨y,l,rfl,hy,hr⟩:=ha.cons_left;cases hr.nil_left;cases hy with
  | @ptr _ _ e he=>
  obtain⟨z,z1,z2,_⟩:=Rl (P:=P) R he hl .atomic;cases z2;refine⟨_,w,key h5 ?_,R, .int _ _,bg _ _,JP.refl _ _⟩;simp[Ak,Extern.Atomic.read,asAddr,z1]
 ·rename_i b off n;split at h
  case h_2=>cases h
  rename_i n0 hl;split at h
  case h_2=>cases h
  rename_i A' hs;injection h with h;subst h;obtain⟨y,l,rfl,hy,hr⟩:=ha.cons_left;obtain⟨z,l,rfl,hz,hr⟩:=hr.cons_left;cases hr.nil_left;cases ZF hz;cases hy with
  | @ptr _ _ e he=>
  obtain⟨z0,_,_,hc⟩:=Rl (P:=P) R he hl .atomic;obtain⟨_,w',s1,s2,s3,s4⟩:=PH (P:=P) R he (.int _ _) rfl hc hs .atomic;refine⟨_,w',key h5 ?_,s2,XF.tuple .nil,s3,s4⟩;simp[I9,asAddr,s1]
 ·rename_i b off x y;split at h
  case h_2=>cases h
  rename_i v hl;split at h
  case h_2=>cases h
  rename_i heq;split at h
  case h_2=>cases h
  rename_i A' hs;injection h with h;subst h;obtain⟨a1,l,rfl,hy,hr⟩:=ha.cons_left;obtain⟨a2,l,rfl,hx,hr⟩:=hr.cons_left;obtain⟨a3,l,rfl,hz,hr⟩:=hr.cons_left;cases hr.nil_left;cases ZF hx;cases ZF hz;cases hy with
  | @ptr _ _ e he=>
  obtain⟨z,z1,z2,hc⟩:=Rl (P:=P) R he hl .atomic;cases z2;obtain⟨hf,w',s1,s2,s3,s4⟩:=PH (P:=P) R he (.int _ _) rfl hc hs .atomic;rw[ZV]at heq;simp at heq;subst heq;refine⟨_,w',key h5 ?_,s2, .bool true,s3,s4⟩;exact Bq hc hf s1
 ·rename_i b off d;split at h
  case h_2=>cases h
  rename_i v hl;split at h
  case h_2=>cases h
  rename_i A' hs;injection h with h;subst h;obtain⟨a1,l,rfl,hy,hr⟩:=ha.cons_left;obtain⟨a2,l,rfl,hx,hr⟩:=hr.cons_left;cases hr.nil_left;cases ZF hx;cases hy with
  | @ptr _ _ e he=>
  obtain⟨z,z1,z2,hc⟩:=Rl (P:=P) R he hl .atomic;cases z2;obtain⟨_,w',s1,s2,s3,s4⟩:=PH (P:=P) R he (.int _ _) rfl hc hs .atomic;rw[VB]at*
  refine⟨_,w',key h5 ?_,s2, .int _ _,s3,s4⟩;have s1':(store ⟨e.blk,e.dl+off,none⟩ (.int .i32 (IntKind.i32.wrap (v+d))) .atomic).run P w= .ok () w':=s1;simp[I8,asAddr,Extern.Atomic.read,hc,asInt,asIntOf,Op.intArith,s1']
 ·rename_i b off;injection h with h;subst h;obtain⟨y,l,rfl,hy,hr⟩:=ha.cons_left;cases hr.nil_left;obtain⟨m,hm⟩:=h5;cases hy with
  | @ptr _ _ e he=>
  refine⟨_,w,key hm ?_,R,XF.tuple .nil,bg _ _,JP.refl _ _⟩;simp[Extern.Race.marked,Extern.Race.at_,Extern.Race.none_]
 ·injection h with h;subst h;cases ha.nil_left;obtain⟨m,hm⟩:=h5;refine⟨_,w,key hm ?_,R,XF.tuple .nil,bg _ _,JP.refl _ _⟩;simp[Extern.Race.none_]
 ·split at h
  case h_2=>cases h
  rename_i v hv;injection h with h;subst h;exact⟨v,w,WJ C hk ha hv w,R,Ou hv μ,bg _ _,JP.refl _ _⟩
end
noncomputable section
inductive KN where
 |val (v:Value) (A:Xx)
 |skip (A:Xx)
 |enter (f:FuncId) (args:List Value)
 |defer (d:Deferred)
 |recover
 |panic (v:Value)
 |round (l:Nat) (L:MN) (vars:List (Option Value)) (over:List (Nat×Value))
 |branch (rs:List (Value×Xx))
def UZ(N:Nat)(vars:List (Option Value))(over:List (Nat×Value))(x:Operand):Option Value:=
 match x with
 | .tmp t=>G0 vars over t
 | .const v=>(match YQ v with|true=>some v|false=>none)
 | .global g=>(match Nat.blt g N with|true=>some (.pointer (some ⟨g,0,none⟩))|false=>none)
 | .func f=>some (.func (.func f) #[] #[])
def Zk(μ:Mu)(ev:Operand→Option Value)(ρ:Operand→Value):Prop:=∀x v,ev x=some v→XI μ v (ρ x)
def MM(μ:Mu)(N:Nat):Prop:=∀g,g<N→μ g=some ⟨g,0,none,0⟩
def evL(ev:Operand→Option Value)(xs:List Operand):Option (List Value):=
 List.rec (motive:=fun _=>Option (List Value)) (some []) (fun x _ r=>match ev x,r with|some v,some l=>some (v::l)|_,_=>none) xs
theorem Ow(ev:Operand→Option Value)(x:Operand)(xs:List Operand):evL ev (x::xs)=match ev x,evL ev xs with|some v,some l=>some (v::l)|_,_=>none:=rfl
theorem IR{μ:Mu}{ev:Operand→Option Value}{ρ:Operand→Value}(h:Zk μ ev ρ):∀{xs:List Operand} {vs:List Value},evL ev xs=some vs→XF μ vs (xs.map ρ):=by
 intro xs
 induction xs with
 |nil=>intro vs h;injection h with h;subst h;exact .nil
 |cons x xs ih=>
  intro vs hv;rw[Ow]at hv;split at hv
  ·rename_i v l hx hl;injection hv with hv;subst hv;exact .cons (h x v hx) (ih hl)
  ·cases hv
def evP(ev:Operand→Option Value)(xs:List (Nat×Operand)):Option (List (Nat×Value)):=
 List.rec (motive:=fun _=>Option (List (Nat×Value))) (some []) (fun x _ r=>match ev x.2,r with|some v,some l=>some ((x.1,v)::l)|_,_=>none) xs
theorem Ov(ev:Operand→Option Value)(x:Nat×Operand)(xs:List (Nat×Operand)):evP ev (x::xs)=match ev x.2,evP ev xs with|some v,some l=>some ((x.1,v)::l)|_,_=>none:=rfl
theorem AX{μ:Mu}{ev:Operand→Option Value}{ρ:Operand→Value}(h:Zk μ ev ρ):∀{xs:List (Nat×Operand)} {vs:List (Nat×Value)},evP ev xs=some vs→Zl μ vs (xs.map fun(i,x)=>(i,ρ x)):=by
 intro xs
 induction xs with
 |nil=>intro vs h;injection h with h;subst h;exact .nil
 |cons x xs ih=>
  intro vs hv;rw[Ov]at hv;split at hv
  ·rename_i v l hx hl;injection hv with hv;subst hv;exact .cons ⟨rfl,h _ v hx⟩ (ih hl)
  ·cases hv
def evO(ev:Operand→Option Value)(x:Option Operand):Option (Option Value):=
 match x with
 |none=>some none
 |some x=>(match ev x with|some v=>some (some v)|none=>none)
theorem evO_ok{μ:Mu}{ev:Operand→Option Value}{ρ:Operand→Value}(h:Zk μ ev ρ){x:Option Operand}{v:Option Value}(hv:evO ev x=some v):VZ μ v (x.map ρ):=by
 unfold evO at hv;split at hv
 ·injection hv with hv;subst hv;trivial
 ·split at hv
  ·rename_i w hw;injection hv with hv;subst hv;exact h _ _ hw
  ·cases hv
def E3(ps:List Tmp)(vs:List Value)(st:List (Option Value)×List (Nat×Value))(nt:Nat):Option (List (Option Value)×List (Nat×Value)):=
 match ps,vs with
 |[],[]=>some st
 |p::ps,v::vs=>(match Nat.blt p nt with|true=>E3 ps vs (Ia st.1 st.2 p v) nt|false=>none)
 |_,_=>none
def TE(T:Tab)(A:Xx)(f:Value)(args:List Value):Option KN:=
 match f with
 | .func (.func fid) ⟨first⟩ ⟨captured⟩=>(match T.fn.get fid with
   |some _=>some (.enter fid (app (app first args) captured))
   |none=>(match T.ext.get fid with|some k=>(match mI A k (app (app first args) captured)with|some r=>some (.val r.1 r.2)|none=>none)|none=>none))
 | .func (.yield l) ⟨[]⟩ ⟨[]⟩=>
  (match A.heap.get l with
   |some (.loop L)=>(match E3 L.params args (L.vars,L.over) L.nt with|some (vs,ov)=>some (.round l L vs ov)|none=>none)
   |_=>none)
 |_=>none
def TD(T:Tab)(recv:Value)(name:String)(args:List Value):Option KN:=
 match recv with
 | .iface t v=>
  (match T.meth.get t with
   |some l=>(match BX l name with|some f=>(match T.fn.get f with|some _=>some (.enter f (v::args))|none=>none)|none=>none)
   |none=>none)
 |_=>none
def rv(r:Option (Value×Xx)):Option KN:=match r with|some (v,A)=>some (.val v A)|none=>none
def rp(A:Xx)(r:Option Value):Option KN:=match r with|some v=>some (.val v A)|none=>none
def ru(r:Option Xx):Option KN:=match r with|some A=>some (.skip A)|none=>none
def Ft(T:Tab)(A:Xx)(ats:List TypeId)(x:Value):Option (Value×Xx):=
 match ats,x with
 |t::_, .map (some r)=>(match T.ty.get t,A.heap.get r with|some _,some (.map _ cl)=>some (.tuple ⟨[]⟩,Up A r (.map [] cl))|_,_=>none)
 |t::_, .map none=>(match T.ty.get t with|some _=>some (.tuple ⟨[]⟩,A)|_=>none)
 |t::_, .slice _ 0 _=>(match T.ty.get t with|some _=>some (.tuple ⟨[]⟩,A)|_=>none)
 |t::_, .slice (some ⟨b,off,none⟩) n _=>
  (match T.ty.get t with
   |some {desc:= .slice el, .. }=>(match T.ty.get el with|some te=>(match Hh A b off (PU te.zero.cells.toList n)with|some A'=>some (.tuple ⟨[]⟩,A')|none=>none)|none=>none)
   |_=>none)
 |_,_=>none
def VG(T:Tab)(A:Xx)(b:Builtin)(ats:List TypeId)(args:List Value):Option KN:=
 match b,args with
 | .append,[s,x]=>(match x with| .int k n=>rv (QU T A ats s (.int k n))|x=>rv (P9 T A ats s x))
 | .len,[x]=>rp A (Sy T A ats x)
 | .cap,[x]=>rp A (Sz T A ats x)
 | .copy,[d,s]=>rv (TY T A ats d s)
 | .min,xs=>rp A (GP false xs)
 | .max,xs=>rp A (GP true xs)
 | .clear,[x]=>rv (Ft T A ats x)
 | .recover,_=>some .recover
 |_,_=>none
def Sl(T:Tab)(A:Xx)(ev:Operand→Option Value)(c:Call):Option KN:=
 match evL ev c.args.toList with
 |some args=>
  match c.callee with
  | .builtin b=>VG T A b c.argTypes.toList args
  | .value f=>(match ev f with|some fv=>TE T A fv args|none=>none)
  | .invoke recv name=>(match ev recv with|some x=>TD T x name args|none=>none)
 |none=>none
def QF(ev:Operand→Option Value)(c:Call):Option KN:=
 match evL ev c.args.toList,c.callee with
 |some args, .value f=>
  (match ev f with
   |some (.func (.func fid) ⟨first⟩ captured)=>some (.defer {target:= .fn (.func fid) captured,args:=⟨app first args⟩})
   |_=>none)
 |_,_=>none
def TC(x:Value):Option KN:=match x with| .iface t v=>some (.panic (.iface t v))|_=>none
def dH(A:Xx)(x:Value):Option KN:=
 match x with
 | .pointer (some a)=>some (.val (.pointer (some a)) A)
 | .func (.func f) a b=>some (.val (.func (.func f) a b) A)
 | .func (.yield l) a b=>some (.val (.func (.yield l) a b) A)
 | .iface t v=>some (.val (.iface t v) A)
 |_=>none
def TF(A:Xx)(fn:Fn)(first captured:List Value):Option KN:=
 match fn with
 | .func f=>some (.val (.func (.func f) ⟨first⟩ ⟨captured⟩) A)
 |_=>none
def TB(A:Xx)(c a b:Option Value):Option KN:=match c with|some (.bool true)=>rp A a|some (.bool false)=>rp A b|_=>none
def mY(A:Xx)(ev:Operand→Option Value)(x:Operand):Option KN:=match ev x with|some v=>rv (SA A v)|none=>none
def aR(T:Tab)(A:Xx)(ev:Operand→Option Value)(t:TypeId)(ps:Array (Nat×Operand)):Option KN:=match evP ev ps.toList with|some l=>rp A (QT T t l)|none=>none
def EL(T:Tab)(A:Xx)(ev:Operand→Option Value)(t:TypeId)(n:Nat)(ps:Array (Nat×Operand)):Option KN:=match evP ev ps.toList with|some l=>rv (Gk T A t n l)|none=>none
def gJ(T:Tab)(A:Xx)(ev:Operand→Option Value)(t:TypeId)(a:Operand):Option KN:=match ev a with|some v=>rv (HW T A t v)|none=>none
def aK(T:Tab)(A:Xx)(ev:Operand→Option Value)(t:TypeId)(a:Operand)(x:Operand):Option KN:=match ev a,ev x with|some v,some u=>ru (P6 T A t v u)|_,_=>none
def MD(A:Xx)(ev:Operand→Option Value)(x:Operand):Option KN:=match ev x with|some v=>dH A v|none=>none
def aS(T:Tab)(A:Xx)(ev:Operand→Option Value)(op:BinOp)(t:TypeId)(x:Operand)(y:Operand):Option KN:=match ev x,ev y with|some v,some u=>rp A (TZ T A op t x y v u)|_,_=>none
def gH(A:Xx)(ev:Operand→Option Value)(op:UnOp)(x:Operand):Option KN:=match ev x with|some v=>rp A (dM op v)|none=>none
def Dv(T:Tab)(A:Xx)(ev:Operand→Option Value)(s:TypeId)(d:TypeId)(x:Operand):Option KN:=match ev x with|some v=>rv (Vr T A s d v)|none=>none
def Us(T:Tab)(A:Xx)(ev:Operand→Option Value)(t:TypeId)(x:Operand):Option KN:=match ev x with|some v=>rp A (QO T t v)|none=>none
def MF(A:Xx)(ev:Operand→Option Value)(fn:Fn)(first:Array Operand)(captured:Array Operand):Option KN:=match evL ev first.toList,evL ev captured.toList with|some a,some b=>TF A fn a b|_,_=>none
def Dt(T:Tab)(A:Xx)(ev:Operand→Option Value)(t:TypeId)(r:Option Operand):Option KN:=match evO ev r with|some h=>rv (QM T A t h)|none=>none
def FZ(T:Tab)(A:Xx)(ev:Operand→Option Value)(t:TypeId)(l:Operand)(c:Operand):Option KN:=match ev l,ev c with|some v,some u=>rv (Hr T A t v u)|_,_=>none
def aL(T:Tab)(A:Xx)(ev:Operand→Option Value)(t:TypeId)(x:Operand)(lo:Option Operand)(hi:Option Operand):Option KN:=match ev x,evO ev lo,evO ev hi with|some v,some l,some h=>rp A (QL T A t v l h)|_,_,_=>none
def O4(T:Tab)(A:Xx)(ev:Operand→Option Value)(t:TypeId)(x:Operand)(lo:Option Operand)(hi:Operand)(mx:Operand):Option KN:=match ev x,evO ev lo,ev hi,ev mx with|some v,some l,some h,some m=>rp A (HS T A t v l h m)|_,_,_,_=>none
def F1(T:Tab)(A:Xx)(ev:Operand→Option Value)(t:TypeId)(x:Operand)(f:Nat):Option KN:=match ev x with|some v=>rp A (JF T t v f)|none=>none
def aP(T:Tab)(A:Xx)(ev:Operand→Option Value)(t:TypeId)(x:Operand)(f:Nat):Option KN:=match ev x with|some v=>rp A (QP T t v f)|none=>none
def F0(T:Tab)(A:Xx)(ev:Operand→Option Value)(t:TypeId)(x:Operand)(i:Operand):Option KN:=match ev x,ev i with|some v,some u=>rp A (JE T t v u)|_,_=>none
def aO(T:Tab)(A:Xx)(ev:Operand→Option Value)(t:TypeId)(x:Operand)(i:Operand):Option KN:=match ev x,ev i with|some v,some u=>rp A (QN T t v u)|_,_=>none
def O5(T:Tab)(A:Xx)(ev:Operand→Option Value)(t:TypeId)(x:Operand)(i:Operand)(ok:Bool):Option KN:=match ev x,ev i with|some v,some u=>rp A (HV T A t v u ok)|_,_=>none
def FY(T:Tab)(A:Xx)(ev:Operand→Option Value)(t:TypeId)(m:Operand)(k:Operand)(x:Operand):Option KN:=match ev m,ev k,ev x with|some v,some u,some z=>ru (JD T A t v u z)|_,_,_=>none
def ME(T:Tab)(A:Xx)(ev:Operand→Option Value)(t:TypeId)(m:Operand)(k:Operand):Option KN:=match ev m,ev k with|some v,some u=>rv (GQ T A t v u)|_,_=>none
def EK(A:Xx)(ev:Operand→Option Value)(m:Operand)(s:Operand)(x:Operand):Option KN:=match ev m,ev s,ev x with|some v,some u,some z=>ru (JV A v u z)|_,_,_=>none
def aM(T:Tab)(A:Xx)(ev:Operand→Option Value)(t:TypeId)(x:Operand):Option KN:=match ev x with|some v=>rv (P7 T A t v)|none=>none
def gI(A:Xx)(ev:Operand→Option Value)(it:Operand):Option KN:=match ev it with|some v=>rv (HT A v)|none=>none
def Ds(A:Xx)(ev:Operand→Option Value)(it:Operand):Option KN:=match ev it with|some v=>(match HU A v with|some rs=>some (.branch rs)|none=>none)|none=>none
def aQ(A:Xx)(ev:Operand→Option Value)(it:Operand):Option KN:=match ev it with|some v=>rp A (QR A v)|none=>none
def EJ(T:Tab)(A:Xx)(ev:Operand→Option Value)(x:Operand)(t:TypeId)(ok:Bool):Option KN:=match ev x with|some v=>rp A (HY T v t ok)|none=>none
def Du(A:Xx)(ev:Operand→Option Value)(x:Operand)(i:Nat):Option KN:=match ev x with|some v=>rp A (Gj v i)|none=>none
def aN(ev:Operand→Option Value)(x:Operand):Option KN:=match ev x with|some v=>TC v|none=>none
def aop(T:Tab)(A:Xx)(ev:Operand→Option Value)(o:Op):Option KN:=
 match o with
 | .move x| .assign x=>rp A (ev x)
 | .pick c a b=>TB A (ev c) (ev a) (ev b)
 | .alloc t=>rv (T0 T A t)
 | .box _ x=>mY A ev x
 | .build t ps=>aR T A ev t ps
 | .buildSlice t n ps=>EL T A ev t n ps
 | .load t a=>gJ T A ev t a
 | .store t a x=>aK T A ev t a x
 | .nilCheck x=>MD A ev x
 | .binOp op t x y _=>aS T A ev op t x y
 | .unOp op _ x=>gH A ev op x
 | .convert s d x=>Dv T A ev s d x
 | .makeInterface t x=>Us T A ev t x
 | .makeFunc fn first captured=>MF A ev fn first captured
 | .makeMap t r=>Dt T A ev t r
 | .makeSlice t l c=>FZ T A ev t l c
 | .slice t x lo hi none=>aL T A ev t x lo hi
 | .slice t x lo (some hi) (some mx)=>O4 T A ev t x lo hi mx
 | .fieldAddr t x f=>F1 T A ev t x f
 | .field t x f=>aP T A ev t x f
 | .indexAddr t x i=>F0 T A ev t x i
 | .index t x i=>aO T A ev t x i
 | .lookup t x i ok=>O5 T A ev t x i ok
 | .mapUpdate t m k x| .insert t m k x=>FY T A ev t m k x
 | .mapEntry t m k=>ME T A ev t m k
 | .entryStore _ m s x=>EK A ev m s x
 | .range t x=>aM T A ev t x
 | .next it true=>gI A ev it
 | .next it false=>Ds A ev it
 | .entry it=>aQ A ev it
 | .typeAssert x _ t ok=>EJ T A ev x t ok
 | .extract x i=>Du A ev x i
 | .call c=>Sl T A ev c
 | .defer c=>QF ev c
 | .panic x=>aN ev x
 |_=>none
def kK(T:Tab)(ev:Operand→Option Value)(o:Op):Option (Yj×(Nat→Value)):=
 match o with
 | .alloc t=>RX T t
 | .box _ x=>(match ev x with|some v=>O8 v|none=>none)
 | .buildSlice t n ps=>(match evP ev ps.toList with|some l=>Ji T t n l|none=>none)
 | .makeMap t r=>(match evO ev r with|some h=>GE T t h|none=>none)
 | .makeSlice t l c=>(match ev l,ev c with|some v,some u=>JN T t v u|_,_=>none)
 |_=>none
def Uz(P:Program)(μ:Mu)(B:Nat)(A:Xx)(w:World)(s:Sem Next)(v:Value)(A':Xx):Prop:=
 ∃v' w' μ',s.run P w= .ok (.value v') w'∧Mu.Ext A.next μ μ'∧Yi μ' B A' w'.heap∧XI μ' v v'∧Below B w w'∧JP μ A A'
def ResOk(P:Program)(T:Tab)(μ:Mu)(B:Nat)(A:Xx)(w:World)(s:Sem Next):KN→Prop
 | .val v A'=>Uz P μ B A w s v A'
 | .skip A'=>∃w',s.run P w= .ok .skip w'∧Yi μ B A' w'.heap∧Below B w w'∧JP μ A A'
 | .enter f args=>∃args':Array Value,s.run P w= .ok (.enter f args') w∧XF μ args args'.toList∧∃a,T.fn.get f=some a
 | .defer d=>∃d',s.run P w= .ok (.defer d') w∧GH μ d d'
 | .recover=>s.run P w= .ok .recover w
 | .panic v=>∃v',s.run P w= .halt (.panic v') w∧XI μ v v'
 | .round l L vars over=>∃(e:Ent) (tm:Array Value),μ l=some e∧A.heap.get l=some (.loop L)∧s.run P w= .ok (.round e.blk L.fn tm L.assign L.body) w∧UB μ L.nt vars over tm
 | .branch rs=>∃r∈rs,Uz P μ B A w s r.1 r.2
section
variable {P:Program} {T:Tab} {μ:Mu} {B:Nat} {A:Xx} {w:World}
theorem HJ{r:Option (Value×Xx)}{x:KN}(h:rv r=some x){s:Sem Value}(hs:∀y,r=some y→Ok P μ B A w s y.1 y.2):ResOk P T μ B A w (do pure (.value (←s))) x:=by
 unfold rv at h;split at h
 ·injection h with h;subst h;obtain⟨v',w',μ',h1,h2⟩:=hs _ rfl;exact⟨v',w',μ',by simp[h1],h2⟩
 ·cases h
theorem V4(R:Yi μ B A w.heap){r:Option Value}{x:KN}(h:rp A r=some x){s:Sem Value}(hs:∀y,r=some y→∃v',s.run P w= .ok v' w∧XI μ y v'):ResOk P T μ B A w (do pure (.value (←s))) x:=by
 unfold rp at h;split at h
 ·injection h with h;subst h;obtain⟨v',h1,h2⟩:=hs _ rfl;exact⟨v',w,μ,by simp[h1],Mu.Ext.refl _ μ,R,h2,bg _ _,JP.refl _ _⟩
 ·cases h
theorem Nj{r:Option Xx}{x:KN}(h:ru r=some x){s:Sem Unit}(hs:∀y,r=some y→∃w',s.run P w= .ok () w'∧Yi μ B y w'.heap∧Below B w w'∧JP μ A y):ResOk P T μ B A w (do s;pure .skip) x:=by
 unfold ru at h;split at h
 ·injection h with h;subst h;obtain⟨w',h1,h2⟩:=hs _ rfl;exact⟨w',by simp[h1],h2⟩
 ·cases h
theorem DY:∀{ps:List Tmp} {vs vs':List Value} {st r:List (Option Value)×List (Nat×Value)} {nt:Nat} {tm:Array Value},XF μ vs vs'→E3 ps vs st nt=some r→UB μ nt st.1 st.2 tm→
  ps.length=vs'.length∧UB μ nt r.1 r.2 ((ps.zip vs').foldl (fun tmps (p:Tmp×Value)=>tmps.setIfInBounds p.1 p.2) tm):=by
 intro ps
 induction ps with
 |nil=>
  intro vs vs' st r nt tm hv h ht;cases vs with
  |nil=>simp only[E3]at h;injection h with h;subst h;rw[hv.nil_left];exact⟨rfl,ht⟩
  |cons v vs=>simp only[E3]at h;cases h
 |cons p ps ih=>
  intro vs vs' st r nt tm hv h ht;cases vs with
  |nil=>simp only[E3]at h;cases h
  |cons v vs=>
   obtain⟨v',vs'',rfl,h1,h2⟩:=hv.cons_left;simp only[E3]at h;split at h
   ·rename_i hlt;have:=ih h2 h (ht.set (Px hlt) h1);exact⟨by simp[this.1],by simpa using this.2⟩
   ·cases h
theorem Gd(C:YN P T){f:FuncId}{a:AFn}(h:T.fn.get f=some a)(args:Array Value)(w:World):(callFunc f args).run P w= .ok (.enter f args) w:=by
 obtain⟨fn,h1,h2,_,_,h3⟩:=C.fn f a h;have h4:¬fn.name= "runtime.NumGoroutine" :=by simpa using h3
 simp[callFunc,h1,h2,h4]
theorem Fw{fid:FuncId}{xs ys:List Value}{v:Value}(h:XI μ (.func (.func fid) ⟨xs⟩ ⟨ys⟩) v):∃xs' ys':Array Value,v= .func (.func fid) xs' ys'∧XF μ xs xs'.toList∧XF μ ys ys'.toList:=by
 cases h with
 |func _ hy hn hm hx hz=>
  exact⟨_,_,rfl,⟨by simpa using hn,fun i x y p q=>hx i x y (by simpa using p) (by simpa using q)⟩,⟨by simpa using hm,fun i x y p q=>hz i x y (by simpa using p) (by simpa using q)⟩⟩
theorem PW(C:YN P T)(R:Yi μ B A w.heap){f f':Value}(hf:XI μ f f'){args args':List Value}(ha:XF μ args args'){x:KN}(h:TE T A f args=some x):
  ∃d:Deferred,(Deferred.ofValue f' args'.toArray).run P w= .ok d w∧ResOk P T μ B A w (invoke d.target d.args) x:=by
 unfold TE at h;split at h
 ·rename_i fid first captured
  obtain⟨xs',ys',rfl,h1,h2⟩:=Fw hf;split at h
  ·rename_i a hfn;injection h with h;subst h;refine⟨_,rfl,?_⟩;refine⟨xs'++args'.toArray++ys',?_,?_,a,hfn⟩
   ·simp only[invoke];exact Gd C hfn _ _
   ·simp only[KT,gv];exact(h1.app (by simpa using ha)).app h2
  ·split at h
   ·rename_i k hk;split at h
    ·rename_i r hv;injection h with h;subst h;have hargs:XF μ (app (app first args) captured) (xs'.toList++args'++ys'.toList):=by
      simp only[KT];exact(h1.app ha).app h2
     obtain⟨v',w',q1,q2,q3,q4,q5⟩:=WK C hk R hargs hv;refine⟨_,rfl,v',w',μ,?_,Mu.Ext.refl _ μ,q2,q3,q4,q5⟩;simp only[invoke];have e:(xs'++args'.toArray++ys')=(xs'.toList++args'++ys'.toList).toArray:=by apply fz;simp
     rw[e];exact q1
    ·cases h
   ·cases h
 ·rename_i l;split at h
  ·rename_i L ho;split at h
   ·rename_i vs ov hts;injection h with h;subst h;have:∃e,μ l=some e∧f'= .func (.yield e.blk) #[] #[]:=by
     cases hf with
     |func fn hy hn hm hx hz=>exact absurd rfl (hy l)
     |yield he=>exact⟨_,he,rfl⟩
    obtain⟨e,he,rfl⟩:=this;refine⟨_,rfl,e,?_⟩;obtain⟨hg,hB,tm,ed,h1,h2,h3⟩:=R.obj l _ e ho he;obtain⟨k1,k2⟩:=DY ha hts h2;refine⟨_,he,ho,?_,k2⟩;have hg1:=Yd (P:=P) (w:=w) h3 (by intro c t f hc;cases hc);have hsz:¬(#[]++args'.toArray:Array Value).size≠L.params.toArray.size:=by simp[k1]
    simp only[invoke,Instr.yield,Instr.getLoop,ag,hg1,ae,am];rw[if_neg hsz];simp only[am]
    congr 2
    rw[←Array.foldl_toList];simp
   ·cases h
  ·cases h
 ·cases h
theorem LM(C:YN P T)(R:Yi μ B A w.heap){ats:List TypeId}{x x':Value}(hx:XI μ x x'){r:Value×Xx}(h:Ft T A ats x=some r)(rt:TypeId):Ok P μ B A w (Builtin.clear_ ats.toArray rt #[x']) r.1 r.2:=by
 unfold Ft at h;split at h
 ·rename_i t rest rr;split at h
  ·rename_i ti es cl ht ho;injection h with h;subst h;cases hx with
   | @map _ e he=>
   have hu:=C.underlying ht w;obtain⟨hg,hB,es',h1,h3⟩:=R.obj rr _ e ho he;have hg1:=Yd (P:=P) (w:=w) h1 (by intro c t f hc;cases hc);obtain⟨es'',k1,_,k3,k4,k5,k6⟩:=Vu (P:=P) (cl2:=cl) R he ho (es2:=[]) (es2':=#[]) .nil;refine⟨.tuple #[],_,μ,?_,Mu.Ext.refl _ μ,k4,XF.tuple .nil,k6,k5⟩;simp only[Builtin.clear_,eo,cj,ag,hu,ae];cases hd:ti.desc<;>simp[hg1,k3]
  ·cases h
 ·rename_i t rest;split at h
  ·rename_i ti ht;injection h with h;subst h;cases hx;have hu:=C.underlying ht w;refine⟨.tuple #[],w,μ,?_,Mu.Ext.refl _ μ,R,XF.tuple .nil,bg _ _,JP.refl _ _⟩;simp only[Builtin.clear_,eo,cj,ag,hu,ae];cases hd:ti.desc<;>simp
  ·cases h
 ·rename_i t rest a c;split at h
  ·rename_i ti ht;injection h with h;subst h;have hu:=C.underlying ht w;have hx':∃a' c',x'= .slice a' 0 c':=by
    cases hx with
    |nilslice=>exact⟨_,_,rfl⟩
    |slice he hg=>exact⟨_,_,rfl⟩
    |gslice he hg hl hc hb=>exact⟨_,_,rfl⟩
    |zslice he=>exact⟨_,_,rfl⟩
   obtain⟨a',c',rfl⟩:=hx';refine⟨.tuple #[],w,μ,?_,Mu.Ext.refl _ μ,R,XF.tuple .nil,bg _ _,JP.refl _ _⟩;simp only[Builtin.clear_,eo,cj,ag,hu,ae];cases hd:ti.desc<;>cases a'<;>simp
  ·cases h
 ·rename_i t rest b off n c hn;split at h
  case h_2=>cases h
  rename_i el _ _ _ _ ht;split at h
  case h_2=>cases h
  rename_i te hte;split at h
  case h_2=>cases h
  rename_i A' hst;injection h with h;subst h;have hu:=C.underlying ht w;have hz:=C.zeroValue hte w;have hcl:=(Yu (C.closed hte) μ).cells;have hrel:XF μ (PU te.zero.cells.toList n) (Builtin.zeroCells te.zero.cells n).toList:=by
   unfold Builtin.zeroCells;rw[PT rfl];simpa using Qe hcl n
  have n0:∃m,n=m+1:=by
   cases n with
   |zero=>first|exact(hn _ rfl).elim|exact(hn _).elim|exact(hn rfl).elim
   |succ m=>exact⟨m,rfl⟩
  obtain⟨m,rfl⟩:=n0;have fin:∀{e:Ent} {c':Nat},μ b=some e→Ok P μ B A w (Builtin.clear_ (t::rest).toArray rt #[.slice (some ⟨e.blk,e.dl+off,none⟩) (m+1) c']) (.tuple ⟨[]⟩) A':=by
   intro e c' he;obtain⟨w',k1,k2,k3,k4,_⟩:=JM P R he hrel hst;refine⟨.tuple #[],w',μ,?_,Mu.Ext.refl _ μ,k2,XF.tuple .nil,k3,k4⟩;simp only[Builtin.clear_,eo,cj,ag,hu,ae,hz];simp[k1]
  cases hx with
  |slice he hg=>exact fin he
  |gslice he hg hl hc hb=>exact fin he
 ·cases h
theorem Fo(C:YN P T)(R:Yi μ B A w.heap){b:Builtin}{ats:List TypeId}{args args':List Value}(ha:XF μ args args'){x:KN}(h:VG T A b ats args=some x)(rt:TypeId)(consts:Array Bool):
  ResOk P T μ B A w (builtin b ats.toArray rt consts args'.toArray) x:=by
 unfold VG at h;split at h
 ·rename_i s x0;obtain⟨s',l,rfl,h1,ht⟩:=ha.cons_left;obtain⟨x0',l',rfl,h2,ht⟩:=ht.cons_left;rw[ht.nil_left];split at h
  ·exact HJ h fun y hy=>BK C R h1 h2 hy rt
  ·exact HJ h fun y hy=>Fv C R h1 h2 hy rt
 ·rename_i x0;obtain⟨x0',l',rfl,h2,ht⟩:=ha.cons_left;rw[ht.nil_left];exact V4 R h fun y hy=>NP C R h2 hy rt
 ·rename_i x0;obtain⟨x0',l',rfl,h2,ht⟩:=ha.cons_left;rw[ht.nil_left];exact V4 R h fun y hy=>NQ C R h2 hy rt
 ·rename_i d s;obtain⟨d',l,rfl,h1,ht⟩:=ha.cons_left;obtain⟨s',l',rfl,h2,ht⟩:=ht.cons_left;rw[ht.nil_left];exact HJ h fun y hy=>TX C R h1 h2 hy rt
 ·exact V4 R h fun y hy=>NN ha hy _ rt w
 ·exact V4 R h fun y hy=>NO ha hy _ rt w
 ·rename_i x0;obtain⟨x0',l',rfl,h2,ht⟩:=ha.cons_left;rw[ht.nil_left];exact HJ h fun y hy=>LM C R h2 hy rt
 ·injection h with h;subst h;rfl
 ·cases h
theorem ResOk.bind_ok{s:Sem Next}{d:Deferred}{r:Sem Deferred}(hr:r.run P w= .ok d w){f:Deferred→Sem Next}{x:KN}(h:ResOk P T μ B A w (f d) x)(hs:s=r>>=f):ResOk P T μ B A w s x:=by
 subst hs;have e:∀w0,w0=w→(r>>=f).run P w0=(f d).run P w0:=by intro w0 hw;subst hw;simp[hr]
 cases x with
 |val v A'=>obtain⟨v',w',μ',h1,h2⟩:=h;exact⟨v',w',μ',by rw[e w rfl];exact h1,h2⟩
 |skip A'=>obtain⟨w',h1,h2⟩:=h;exact⟨w',by rw[e w rfl];exact h1,h2⟩
 |enter f' args=>obtain⟨a',h1,h2⟩:=h;exact⟨a',by rw[e w rfl];exact h1,h2⟩
 |defer d'=>obtain⟨a',h1,h2⟩:=h;exact⟨a',by rw[e w rfl];exact h1,h2⟩
 |recover=>show _=_;rw[e w rfl];exact h
 |panic v=>obtain⟨a',h1,h2⟩:=h;exact⟨a',by rw[e w rfl];exact h1,h2⟩
 |round l L vs ov=>obtain⟨a',tm,h1,h2,h3,h4⟩:=h;exact⟨a',tm,h1,h2,by rw[e w rfl];exact h3,h4⟩
 |branch rs=>obtain⟨r',hm,v',w',μ',h1,h2⟩:=h;exact⟨r',hm,v',w',μ',by rw[e w rfl];exact h1,h2⟩
theorem Nx(C:YN P T)(R:Yi μ B A w.heap){ev:Operand→Option Value}{ρ:Operand→Value}(hρ:Zk μ ev ρ){c:Call}{x:KN}(h:Sl T A ev c=some x)(rt:TypeId):
  ResOk P T μ B A w (do let d←resolve ρ c rt;invoke d.target d.args) x:=by
 unfold Sl at h;split at h
 case h_2=>cases h
 rename_i args hargs;have ha:=IR hρ hargs;have harr:c.args.map ρ=(c.args.toList.map ρ).toArray:=by apply fz;simp
 split at h
 ·rename_i b hb;refine ResOk.bind_ok (r:=resolve ρ c rt) (d:={target:= .builtin b c.argTypes rt (c.args.map fun| .const _=>true|_=>false),args:=c.args.map ρ}) ?_ ?_ rfl
  ·simp only[resolve,hb];rfl
  ·simp only[invoke,harr];have:=Fo (P:=P) C R ha h rt (c.args.map fun| .const _=>true|_=>false);simpa using this
 ·rename_i f hc;split at h
  case h_2=>cases h
  rename_i fv hfv;obtain⟨d,h1,h2⟩:=PW C R (hρ _ _ hfv) ha h;refine ResOk.bind_ok (r:=resolve ρ c rt) (d:=d) ?_ h2 rfl;simp only[resolve,hc,harr];exact h1
 ·rename_i recv name hc;split at h
  case h_2=>cases h
  rename_i rx hrx;unfold TD at h;split at h
  case h_2=>cases h
  rename_i t v;split at h
  case h_2=>cases h
  rename_i l hl;split at h
  case h_2=>cases h
  rename_i f hm;split at h
  case h_2=>cases h
  rename_i a hfn;injection h with h;subst h;have hv:=hρ _ _ hrx;generalize hrecv:ρ recv=rv' at hv;cases hv with
  | @iface _ _ v' hv=>
  refine ResOk.bind_ok (r:=resolve ρ c rt) (d:={target:= .fn (.method name) #[],args:=#[.iface t v']++(c.args.toList.map ρ).toArray}) ?_ ?_ rfl
  ·simp only[resolve,hc,harr,hrecv,am]
  ·refine⟨#[v']++(c.args.toList.map ρ).toArray,?_,?_,a,hfn⟩
   ·have h0:(#[Value.iface t v']++(c.args.toList.map ρ).toArray)[0]? =some (.iface t v'):=by simp
    have h1:(#[Value.iface t v']++(c.args.toList.map ρ).toArray).extract 1 (#[Value.iface t v']++(c.args.toList.map ρ).toArray).size=(c.args.toList.map ρ).toArray:=by
     apply fz;simp;exact bp (by simp)
    simp only[invoke,h0,h1,callMethod,ag,run_program,ae,C.meth t l name f hl hm];exact Gd C hfn _ _
   ·simp only[gv];exact .cons hv ha
theorem TG{ev:Operand→Option Value}{ρ:Operand→Value}(hρ:Zk μ ev ρ){c:Call}{x:KN}(h:QF ev c=some x)(rt:TypeId):
  ResOk P T μ B A w (do pure (.defer (←resolve ρ c rt))) x:=by
 unfold QF at h;split at h
 case h_2=>cases h
 rename_i args f hargs hc;have ha:=IR hρ hargs;have harr:c.args.map ρ=(c.args.toList.map ρ).toArray:=by apply fz;simp
 split at h
 case h_2=>cases h
 rename_i fid first captured hf
 injection h with h;subst h;obtain⟨captured⟩:=captured;have hv:=hρ _ _ hf;obtain⟨xs',ys',he,h1,h2⟩:=Fw hv;refine⟨{target:= .fn (.func fid) ys',args:=xs'++(c.args.toList.map ρ).toArray},?_, .fn _ (fun l hc=>by cases hc) h2,?_⟩
 ·simp only[resolve,hc,harr,he,Deferred.ofValue,ag,am,ae]
 ·simp only[KT,gv];exact h1.app ha
set_option maxHeartbeats 2000000 in
theorem aU(C:YN P T)(hB:B≤w.heap.size){ev:Operand→Option Value}{ρ:Operand→Value}(hρ:Zk μ ev ρ){o:Oper}{ob:Yj}{mk:Nat→Value}(h:kK T ev o.op=some (ob,mk)):
  ∃s,execOp ρ o=(do pure (.value (←s)))∧Jm P μ B w s ob mk:=by
 obtain⟨dst,op,rt,pos,after,guard⟩:=o;simp only at h;cases op with
 |alloc t=>
  exact⟨Instr.alloc t true (.tuple #[]),by unfold execOp;rfl,Pz C hB h⟩
 |box t v=>
  have h:(match ev v with|some v=>O8 v|none=>none)=some (ob,mk):=h;split at h
  ·rename_i v hv;exact⟨Instr.box t (ρ _),by unfold execOp;rfl,I1 hB (hρ _ _ hv) h⟩
  ·cases h
 |buildSlice t n ps=>
  have h:(match evP ev ps.toList with|some l=>Ji T t n l|none=>none)=some (ob,mk):=h;split at h
  ·rename_i l hl;have hp:=AX hρ hl;exact⟨Instr.buildSlice t n (ps.map fun(i,x)=>(i,ρ x)),by unfold execOp;rfl,GF C hB (ps':=ps.map fun(i,x)=>(i,ρ x)) (by simpa using hp) h⟩
  ·cases h
 |makeMap t r=>
  have h:(match evO ev r with|some v=>GE T t v|none=>none)=some (ob,mk):=h;split at h
  ·rename_i v hv;exact⟨Instr.makeMap t (r.map ρ),by unfold execOp;rfl,ZW C hB (evO_ok hρ hv) h⟩
  ·cases h
 |makeSlice t a b=>
  have h:(match ev a,ev b with|some v,some u=>JN T t v u|_,_=>none)=some (ob,mk):=h;split at h
  ·rename_i v u hv hu;exact⟨Instr.makeSlice t (ρ a) (ρ b),by unfold execOp;rfl,Hi C hB (hρ _ _ hv) (hρ _ _ hu) h⟩
  ·cases h
 |_=>exact absurd h (by unfold kK;exact nofun)
set_option maxHeartbeats 1000000 in
theorem EI(C:YN P T)(R:Yi μ B A w.heap){ev:Operand→Option Value}{ρ:Operand→Value}(hρ:Zk μ ev ρ){o:Oper}{x:KN}(h:aop T A ev o.op=some x):ResOk P T μ B A w (execOp ρ o) x:=by
 have VH:∀{v:Operand} {y:KN},rp A (ev v)=some y→ResOk P T μ B A w (pure (.value (ρ v))) y:=by
  intro v y hy;unfold rp at hy;split at hy
  ·rename_i u hu;injection hy with hy;subst hy;exact⟨_,w,μ,rfl,Mu.Ext.refl _ μ,R,hρ _ _ hu,bg _ _,JP.refl _ _⟩
  ·cases hy
 obtain⟨dst,op,rt,pos,after,guard⟩:=o;simp only at h;cases op with
 |move v=>exact VH h
 |assign v=>exact VH h
 |pick c a b=>
  have h:TB A (ev c) (ev a) (ev b)=some x:=h;unfold TB at h;split at h
  ·rename_i hc;have hcv:=hρ _ _ hc;generalize hrc:ρ c=cv at hcv;cases hcv;have:=VH h;simp only[execOp,hrc,asBool];exact this
  ·rename_i hc;have hcv:=hρ _ _ hc;generalize hrc:ρ c=cv at hcv;cases hcv;have:=VH h;simp only[execOp,hrc,asBool];exact this
  ·cases h
 |alloc t=>exact HJ h fun y hy=>LO C R hy
 |box t v=>
  have h:(match ev v with|some v=>rv (SA A v)|none=>none)=some x:=h;split at h
  ·rename_i u hu;exact HJ h fun y hy=>NR R (hρ _ _ hu) hy
  ·cases h
 |build t ps=>
  have h:(match evP ev ps.toList with|some l=>rp A (QT T t l)|none=>none)=some x:=h;split at h
  ·rename_i l hl;have hp:=AX hρ hl;refine V4 R h fun y hy=>LN C (ps':=ps.map fun(i,x)=>(i,ρ x)) (by simpa using hp) hy w
  ·cases h
 |buildSlice t n ps=>
  have h:(match evP ev ps.toList with|some l=>rv (Gk T A t n l)|none=>none)=some x:=h;split at h
  ·rename_i l hl;have hp:=AX hρ hl;exact HJ h fun y hy=>QS C R (ps':=ps.map fun(i,x)=>(i,ρ x)) (by simpa using hp) hy
  ·cases h
 |insert t m k v=>
  have h:(match ev m,ev k,ev v with|some v,some u,some z=>ru (JD T A t v u z)|_,_,_=>none)=some x:=h;split at h
  ·rename_i a b c ha hb hc;exact Nj h fun y hy=>Ha C R (hρ _ _ ha) (hρ _ _ hb) (hρ _ _ hc) hy
  ·cases h
 |load t a=>
  have h:(match ev a with|some v=>rv (HW T A t v)|none=>none)=some x:=h;split at h
  ·rename_i u hu;exact HJ h fun y hy=>TW C R (hρ _ _ hu) hy
  ·cases h
 |store t a v=>
  have h:(match ev a,ev v with|some v,some u=>ru (P6 T A t v u)|_,_=>none)=some x:=h;split at h
  ·rename_i a b ha hb;exact Nj h fun y hy=>LB C R (hρ _ _ ha) (hρ _ _ hb) hy
  ·cases h
 |ready g=>cases h
 |waits g=>cases h
 |nilCheck v=>
  have h:(match ev v with|some v=>dH A v|none=>none)=some x:=h;split at h
  ·rename_i u hu;have hv:=hρ _ _ hu;have fin:∀v',ρ v=v'→XI μ u v'→(execOp ρ ⟨dst, .nilCheck v,rt,pos,after,guard⟩).run P w= .ok (.value v') w→Uz P μ B A w (execOp ρ ⟨dst, .nilCheck v,rt,pos,after,guard⟩) u A:=
    fun v' _ h2 h3=>⟨v',w,μ,h3,Mu.Ext.refl _ μ,R,h2,bg _ _,JP.refl _ _⟩
   unfold dH at h;split at h
   ·injection h with h;subst h;generalize hr:ρ v=rv' at hv;cases hv with
    |ptr he=>exact fin _ hr (.ptr he) (by simp[execOp,hr])
   ·injection h with h;subst h;rename_i f a b;obtain⟨a⟩:=a;obtain⟨b⟩:=b;obtain⟨xs',ys',hr,h1,h2⟩:=Fw hv;exact fin _ hr (XF.func (by intro l hc;cases hc) h1 h2) (by simp[execOp,hr])
   ·injection h with h;subst h;rename_i l a b;generalize hr:ρ v=rv' at hv;cases hv with
    |func fn hy hn hm hx hz=>exact absurd rfl (hy l)
    |yield he=>exact fin _ hr (.yield he) (by simp[execOp,hr])
   ·injection h with h;subst h;generalize hr:ρ v=rv' at hv;cases hv with
    |iface _ hv=>exact fin _ hr (.iface _ hv) (by simp[execOp,hr])
   ·cases h
  ·cases h
 |binOp op t a b yt=>
  have h:(match ev a,ev b with|some v,some u=>rp A (TZ T A op t a b v u)|_,_=>none)=some x:=h;split at h
  ·rename_i u v hu hv;exact V4 R h fun y hy=>NS C R (hρ _ _ hu) (hρ _ _ hv) hy
  ·cases h
 |unOp op t a=>
  have h:(match ev a with|some v=>rp A (dM op v)|none=>none)=some x:=h;split at h
  ·rename_i u hu;exact V4 R h fun y hy=>Sx (hρ _ _ hu) hy w
  ·cases h
 |convert s d a=>
  have h:(match ev a with|some v=>rv (Vr T A s d v)|none=>none)=some x:=h;split at h
  ·rename_i u hu;exact HJ h fun y hy=>BJ C R (hρ _ _ hu) hy
  ·cases h
 |sliceToArrayPointer d a=>cases h
 |makeInterface t a=>
  have h:(match ev a with|some v=>rp A (QO T t v)|none=>none)=some x:=h;split at h
  ·rename_i u hu;exact V4 R h fun y hy=>LJ C (hρ _ _ hu) hy w
  ·cases h
 |makeFunc fn first captured=>
  have h:(match evL ev first.toList,evL ev captured.toList with|some a,some b=>TF A fn a b|_,_=>none)=some x:=h;split at h
  ·rename_i a b ha hb;unfold TF at h;split at h
   ·injection h with h;subst h;refine⟨_,w,μ,rfl,Mu.Ext.refl _ μ,R,?_,bg _ _,JP.refl _ _⟩;exact XF.func (by intro l hc;cases hc) (by simpa using IR hρ ha) (by simpa using IR hρ hb)
   ·cases h
  ·cases h
 |makeMap t r=>
  have h:(match evO ev r with|some h=>rv (QM T A t h)|none=>none)=some x:=h;split at h
  ·rename_i u hu;exact HJ h fun y hy=>BH C R (evO_ok hρ hu) hy
  ·cases h
 |makeChan t s=>cases h
 |makeSlice t l c=>
  have h:(match ev l,ev c with|some v,some u=>rv (Hr T A t v u)|_,_=>none)=some x:=h;split at h
  ·rename_i u v hu hv;exact HJ h fun y hy=>UI C R (hρ _ _ hu) (hρ _ _ hv) hy
  ·cases h
 |slice t a lo hi mx=>
  cases mx with
  |some m=>
   cases hi with
   |none=>cases h
   |some hi=>
    have h:(match ev a,evO ev lo,ev hi,ev m with|some v,some l,some h,some m=>rp A (HS T A t v l h m)|_,_,_,_=>none)=some x:=h;split at h
    ·rename_i u l hh mm hu hl hhh hmm;exact V4 R h fun y hy=>Fq C R (hρ _ _ hu) (evO_ok hρ hl) (hρ _ _ hhh) (hρ _ _ hmm) hy
    ·cases h
  |none=>
   have h:(match ev a,evO ev lo,evO ev hi with|some v,some l,some h=>rp A (QL T A t v l h)|_,_,_=>none)=some x:=h;split at h
   ·rename_i u l hh hu hl hhh;exact V4 R h fun y hy=>LC C R (hρ _ _ hu) (evO_ok hρ hl) (evO_ok hρ hhh) hy
   ·cases h
 |fieldAddr t a f=>
  have h:(match ev a with|some v=>rp A (JF T t v f)|none=>none)=some x:=h;split at h
  ·rename_i u hu;exact V4 R h fun y hy=>UK C (hρ _ _ hu) hy w
  ·cases h
 |field t a f=>
  have h:(match ev a with|some v=>rp A (QP T t v f)|none=>none)=some x:=h;split at h
  ·rename_i u hu;exact V4 R h fun y hy=>LK C (hρ _ _ hu) hy w
  ·cases h
 |indexAddr t a i=>
  have h:(match ev a,ev i with|some v,some u=>rp A (JE T t v u)|_,_=>none)=some x:=h;split at h
  ·rename_i u v hu hv;exact V4 R h fun y hy=>UJ C (hρ _ _ hu) (hρ _ _ hv) hy w
  ·cases h
 |index t a i=>
  have h:(match ev a,ev i with|some v,some u=>rp A (QN T t v u)|_,_=>none)=some x:=h;split at h
  ·rename_i u v hu hv;exact V4 R h fun y hy=>LI C (hρ _ _ hu) (hρ _ _ hv) hy w
  ·cases h
 |lookup t a i ok=>
  have h:(match ev a,ev i with|some v,some u=>rp A (HV T A t v u ok)|_,_=>none)=some x:=h;split at h
  ·rename_i u v hu hv;exact V4 R h fun y hy=>Fs C R (hρ _ _ hu) (hρ _ _ hv) hy
  ·cases h
 |mapUpdate t m k v=>
  have h:(match ev m,ev k,ev v with|some v,some u,some z=>ru (JD T A t v u z)|_,_,_=>none)=some x:=h;split at h
  ·rename_i a b c ha hb hc;exact Nj h fun y hy=>Ha C R (hρ _ _ ha) (hρ _ _ hb) (hρ _ _ hc) hy
  ·cases h
 |mapEntry t m k=>
  have h:(match ev m,ev k with|some v,some u=>rv (GQ T A t v u)|_,_=>none)=some x:=h;split at h
  ·rename_i a b ha hb;exact HJ h fun y hy=>P8 C R (hρ _ _ ha) (hρ _ _ hb) hy
  ·cases h
 |entryStore t m s v=>
  have h:(match ev m,ev s,ev v with|some v,some u,some z=>ru (JV A v u z)|_,_,_=>none)=some x:=h;split at h
  ·rename_i a b c ha hb hc;exact Nj h fun y hy=>QQ R (hρ _ _ ha) (hρ _ _ hb) (hρ _ _ hc) hy
  ·cases h
 |range t a=>
  have h:(match ev a with|some v=>rv (P7 T A t v)|none=>none)=some x:=h;split at h
  ·rename_i u hu;exact HJ h fun y hy=>LD C R (hρ _ _ hu) hy
  ·cases h
 |next it isS=>
  cases isS with
  |true=>
   have h:(match ev it with|some v=>rv (HT A v)|none=>none)=some x:=h;split at h
   ·rename_i u hu;exact HJ h fun y hy=>BF R (hρ _ _ hu) hy rt
   ·cases h
  |false=>
   have h:(match ev it with|some v=>(match HU A v with|some rs=>some (.branch rs)|none=>none)|none=>none)=some x:=h;split at h
   ·rename_i u hu;split at h
    ·rename_i rs hrs;injection h with h;subst h;obtain⟨r,hr,v',w',μ',h1,h2⟩:=BG (P:=P) R (hρ _ _ hu) hrs rt;exact⟨r,hr,v',w',μ',by simp[execOp,h1],h2⟩
    ·cases h
   ·cases h
 |entry it=>
  have h:(match ev it with|some v=>rp A (QR A v)|none=>none)=some x:=h;split at h
  ·rename_i u hu;exact V4 R h fun y hy=>LL R (hρ _ _ hu) hy
  ·cases h
 |typeAssert a xt t ok=>
  have h:(match ev a with|some v=>rp A (HY T v t ok)|none=>none)=some x:=h;split at h
  ·rename_i u hu;exact V4 R h fun y hy=>Fu C (hρ _ _ hu) hy w
  ·cases h
 |extract a i=>
  have h:(match ev a with|some v=>rp A (Gj v i)|none=>none)=some x:=h;split at h
  ·rename_i u hu;exact V4 R h fun y hy=>BI (hρ _ _ hu) hy w
  ·cases h
 |call c=>exact Nx C R hρ h rt
 |go c=>cases h
 |defer c=>exact TG hρ h rt
 |panic a=>
  have h:(match ev a with|some v=>TC v|none=>none)=some x:=h;split at h
  ·rename_i u hu;unfold TC at h;split at h
   ·rename_i t v;injection h with h;subst h;have hv:=hρ _ _ hu;generalize hr:ρ a=rv' at hv;cases hv with
    |iface _ hv=>exact⟨_,by simp[execOp,hr,Instr.panic], .iface _ hv⟩
   ·cases h
  ·cases h
 |send a b=>cases h
 |recv a b c=>cases h
 |select a b=>cases h
end
end
noncomputable section
inductive YJ where
 |code (c:Code)
 |inBlock (id:Nat)
 |inLoop (body:Code)
 |inScope (body:Code)
 |inRegion (ops:Array Oper) (rest:List Oper)
 |inDraw (ops:Array Oper) (t:Nat) (V:List (Nat×Value)) (base:Nat)
 |inRangeFunc (l:Nat)
 |endRangeFunc (l:Nat)
 |beginRound
inductive Qc where
 |run
 |returning
 |panicking (chain:List PanicEntry)
structure Xz where
 fn:FuncId
 nt:Nat
 vars:List (Option Value)
 over:List (Nat×Value)
 todo:List YJ
 defers:List Deferred
 mode:Qc
 kind:CallKind
 roundOf:Option Nat
structure ASt where
 fr:Xz
 cs:List Xz
 A:Xx
inductive V0 where
 |next (s:ASt)
 |branch (l:List ASt)
 |done (f:FuncId) (v:Value)
 |stuck
def Xz.put(fr:Xz)(d:Option Tmp)(v:Value):Option Xz:=
 match d with
 |none=>some fr
 |some t=>
  match Nat.blt t fr.nt,Ia fr.vars fr.over t v with
  |true,(vs,ov)=>some {fr with vars:=vs,over:=ov}
  |false,_=>none
def Xz.finish(fr:Xz)(v:Value):Option Xz:=
 match fr.todo with
 | .inRegion ops (o::rest)::k=>({fr with todo:= .inRegion ops rest::k}).put o.dst v
 | .inRangeFunc l::k=>some {fr with todo:= .endRangeFunc l::k}
 | .beginRound::k=>some {fr with todo:=k}
 |_=>none
def Kz:Op→Bool
 | .move _| .assign _| .pick .. | .load .. | .nilCheck _| .binOp .. | .unOp .. | .convert .. | .makeInterface .. | .makeFunc .. | .slice .. | .fieldAddr .. | .field .. | .indexAddr .. | .index .. | .lookup .. | .build .. | .extract .. | .typeAssert .. | .entry _=>true
 | .call {callee:= .builtin .len, .. }| .call {callee:= .builtin .min, .. }| .call {callee:= .builtin .max, .. }=>true
 |_=>false
def Bb:Op→Bool
 | .alloc _| .box .. | .buildSlice .. | .makeMap .. | .makeSlice .. =>true
 |_=>false
def Gu(o:Op):Bool:=match Kz o,Bb o with|false,false=>true|_,_=>false
def JK(ops:List Oper)(i:Nat):List Nat:=
 match ops with
 |[]=>[]
 |o::r=>(match Gu o.op with|false=>JK r (Nat.succ i)|true=>i::JK r (Nat.succ i))
def aT(ops:List Oper)(i:Nat):List Nat:=
 match ops with
 |[]=>[]
 |o::r=>(match Bb o.op with|false=>aT r (Nat.succ i)|true=>i::aT r (Nat.succ i))
def Xz.drawFinish(fr:Xz)(v:Value):Option Xz:=
 match fr.mode,fr.todo with
 | .run, .inDraw ops t V base::k=>
  (match t with
   |0=>none
   |t'+1=>(match nth (JK ops.toList 0) t' with|some c=>(match XK V c with|none=>some {fr with todo:= .inDraw ops t ((c,v)::V) base::k}|some _=>none)|none=>none))
 | .run,_=>fr.finish v
 |_,_=>none
def HA(id:Nat):List YJ→Option (List YJ)
 | .inBlock id'::k=>(match Nat.beq id' id with|true=>some k|false=>HA id k)
 |_::k=>HA id k
 |[]=>none
def RZ(v:Option Value)(want:Bool):Option Bool:=
 match v,want with
 |some (.bool true),true=>some true
 |some (.bool false),false=>some true
 |some (.bool true),false=>some false
 |some (.bool false),true=>some false
 |some (.tuple _),_=>some false
 |_,_=>none
def Uw(fr:Xz)(ops:List Oper)(o:Oper):Option Bool:=
 match o.guard with
 |none=>some true
 |some (j,want)=>
  match nth ops j with
  |some g=>(match g.dst with|some t=>RZ (G0 fr.vars fr.over t) want|none=>none)
  |none=>none
def DL(m:Qc)(vs:List PanicEntry):Qc:=
 match m with
 | .panicking chain=> .panicking (vs++chain)
 |_=> .panicking vs
def ZY(T:Tab)(f:FuncId)(args:List Value)(kind:CallKind):Option Xz:=
 match T.fn.get f with
 |some a=>some {fn:=f,nt:=a.ntmps,vars:=app (List.rec (motive:=fun _=>List (Option Value)) [] (fun v _ r=>some v::r) args) (Nat.rec (motive:=fun _=>List (Option Value)) [] (fun _ r=>none::r) (Nat.sub a.nvars (len args))),over:=[],todo:=[.code a.body],defers:=[],mode:= .run,kind:=kind,roundOf:=none}
 |none=>none
def R6(s:ASt)(rs:List (Value×Xx)):Option (List ASt):=
 match rs with
 |[]=>some []
 |r::rest=>(match s.fr.finish r.1,R6 s rest with|some fr,some l=>some ({s with fr:=fr,A:=r.2}::l)|_,_=>none)
def EG(s:ASt)(v:Value)(A:Xx):V0:=(match s.fr.finish v with|some fr=> .next {s with fr:=fr,A:=A}|none=> .stuck)
def Dr(T:Tab)(s:ASt)(f:FuncId)(args:List Value):V0:=(match ZY T f args .normal with|some fr=> .next {s with fr:=fr,cs:=s.fr::s.cs}|none=> .stuck)
def FX(s:ASt)(d:Deferred):V0:=(match s.fr.roundOf,({s.fr with defers:=d::s.fr.defers}:Xz).finish undef with|none,some fr=> .next {s with fr:=fr}|_,_=> .stuck)
def EH(s:ASt):V0:=
  (match s.fr.roundOf,s.fr.kind,s.cs with
   |none, .deferred,c::rest=>
    (match c.mode with
     | .panicking ({v:=v,recovered:=false,goexit:=false}::older)=>
      (match s.fr.finish v with|some fr=> .next {s with fr:=fr,cs:={c with mode:= .panicking ({v:=v,recovered:=true}::older)}::rest}|none=> .stuck)
     | .run=> .stuck
     | .returning=>(match s.fr.finish .nilIface with|some fr=> .next {s with fr:=fr}|none=> .stuck)
     |_=> .stuck)
   |_,_,_=> .stuck)
def Dq(s:ASt)(v:Value):V0:= .next {s with fr:={s.fr with mode:=DL s.fr.mode [{v:=v,recovered:=false}]}}
def Dp(s:ASt)(l:Nat)(L:MN)(vs:List (Option Value))(ov:List (Nat×Value)):V0:=
  .next {s with fr:={fn:=L.fn,nt:=L.nt,vars:=vs,over:=ov,todo:=[.code L.assign, .beginRound, .code L.body],defers:=[],mode:= .run,kind:= .normal,roundOf:=some l},cs:=s.fr::s.cs}
def I0(s:ASt)(rs:List (Value×Xx)):V0:=(match R6 s rs with|some l=> .branch l|none=> .stuck)
def Jj(T:Tab)(s:ASt)(r:KN):V0:=
 match r with
 | .val v A=>EG s v A
 | .skip A=>EG s undef A
 | .enter f args=>Dr T s f args
 | .defer d=>FX s d
 | .recover=>EH s
 | .panic v=>Dq s v
 | .round l L vs ov=>Dp s l L vs ov
 | .branch rs=>I0 s rs
def mem(x:Nat)(l:List Nat):Bool:=match l with|[]=>false|y::r=>(match Nat.beq y x with|true=>true|false=>mem x r)
def uni(a b:List Nat):List Nat:=match a with|[]=>b|x::r=>(match mem x b with|true=>uni r b|false=>x::uni r b)
def EE(acc:List (List Nat))(es:List Edge):List Nat:=
 match es with
 |[]=>[]
 |e::r=>(match Region.binds .any e with|true=>uni (e.on::(match nth acc e.on with|some l=>l|none=>[])) (EE acc r)|false=>EE acc r)
def ED(acc:List (List Nat))(ops:List Oper):List (List Nat):=
 match ops with
 |[]=>acc
 |o::r=>ED (app acc [EE acc o.after.toList]) r
structure DI where
 bef:List (List Nat)
 chain:List Nat
 als:List Nat
 dsts:List (Nat×Nat)
def dstsOf(ops:List Oper)(i:Nat):List (Nat×Nat):=
 match ops with
 |[]=>[]
 |o::r=>(match o.dst with|some d=>(d,i)::dstsOf r (Nat.succ i)|none=>dstsOf r (Nat.succ i))
def XU(ops:List Oper):DI:={bef:=ED [] ops,chain:=JK ops 0,als:=aT ops 0,dsts:=dstsOf ops 0}
def before(D:DI)(i j:Nat):Bool:=match nth D.bef j with|some l=>mem i l|none=>false
def Kl(D:DI)(j:Nat)(pending:List Nat):Bool:=match pending with|[]=>true|c::r=>(match before D c j with|true=>false|false=>Kl D j r)
def Km(D:DI)(j:Nat)(done:List Nat):Bool:=match done with|[]=>true|c::r=>(match before D j c with|true=>false|false=>Km D j r)
def mP(D:DI)(V:List (Nat×Value))(vars:List (Option Value))(over:List (Nat×Value))(j t:Nat):Option Value:=
 match XK D.dsts t with
 |some k=>(match before D k j with|true=>XK V k|false=>(match Nat.beq k j with|true=>G0 vars over t|false=>(match before D j k with|true=>G0 vars over t|false=>none)))
 |none=>G0 vars over t
def dev(N:Nat)(D:DI)(V:List (Nat×Value))(vars:List (Option Value))(over:List (Nat×Value))(j:Nat)(x:Operand):Option Value:=
 match x with
 | .tmp t=>mP D V vars over j t
 |x=>UZ N vars over x
def Vf(D:DI)(V:List (Nat×Value))(o:Oper)(j:Nat):Option Bool:=
 match o.guard with
 |none=>some true
 |some (g,want)=>(match before D g j with|true=>RZ (XK V g) want|false=>none)
def qop(T:Tab)(A:Xx)(ev:Operand→Option Value)(o:Op):Option Value:=
 match Kz o with
 |false=>none
 |true=>
  match aop T A ev o with
  |some (.val v _)=>
   (match o with
    | .convert _ _ _=>(match v with| .slice _ _ _=>none|v=>some v)
    |_=>some v)
  |_=>none
def EW:Value→Value→Bool
 | .bool a, .bool b=>(match a,b with|true,true=>true|false,false=>true|_,_=>false)
 | .int k a, .int k' b=>(match decide (k=k')with|true=>iEq a b|false=>false)
 | .pointer none, .pointer none=>true
 | .pointer (some ⟨a,b,none⟩), .pointer (some ⟨c,d,none⟩)=>(match Nat.beq a c with|true=>Nat.beq b d|false=>false)
 | .slice none a b, .slice none c d=>(match Nat.beq a c with|true=>Nat.beq b d|false=>false)
 | .slice (some ⟨a,b,none⟩) l m, .slice (some ⟨c,d,none⟩) n p=>(match Nat.beq a c,Nat.beq b d,Nat.beq l n,Nat.beq m p with|true,true,true,true=>true|_,_,_,_=>false)
 | .map none, .map none=>true
 | .map (some a), .map (some b)=>Nat.beq a b
 | .nilFunc, .nilFunc=>true
 | .nilIface, .nilIface=>true
 |_,_=>false
def cO(a b:Value):Bool:=
 match a,b with
 | .string ⟨⟨x⟩⟩, .string ⟨⟨y⟩⟩=>UD x y
 |a,b=>EW a b
def C0(xs ys:List Value):Bool:=
 match xs,ys with
 |[],[]=>true
 |x::xs,y::ys=>(match cO x y with|true=>C0 xs ys|false=>false)
 |_,_=>false
def vEq(a b:Value):Bool:=
 match a,b with
 | .agg ⟨xs⟩, .agg ⟨ys⟩=>C0 xs ys
 | .tuple ⟨xs⟩, .tuple ⟨ys⟩=>C0 xs ys
 | .iface t x, .iface u y=>(match Nat.beq t u with|true=>cO x y|false=>false)
 | .func (.func f) ⟨xs⟩ ⟨ys⟩, .func (.func g) ⟨zs⟩ ⟨us⟩=>(match Nat.beq f g,C0 xs zs,C0 ys us with|true,true,true=>true|_,_,_=>false)
 |a,b=>cO a b
def Vs:Yj→Bool
 | .cells _ (.grown _)=>false
 |_=>true
def T7(D:DI)(V:List (Nat×Value))(done pending:List Nat)(js:List Nat):Bool:=
 match js with
 |[]=>false
 |j::r=>
  match XK V j with
  |some _=>T7 D V done pending r
  |none=>(match Kl D j pending,Km D j done with|true,true=>true|_,_=>T7 D V done pending r)
def dpre(T:Tab)(D:DI)(vars:List (Option Value))(over:List (Nat×Value))(done pending:List Nat)(base:Nat)(ops:List Oper)(j:Nat)(A:Xx)(V:List (Nat×Value)):Option (Xx×List (Nat×Value)):=
 match ops with
 |[]=>some (A,V)
 |o::r=>
  match Gu o.op with
  |true=>dpre T D vars over done pending base r (Nat.succ j) A V
  |false=>
   match XK V j with
   |some _=>dpre T D vars over done pending base r (Nat.succ j) A V
   |none=>
    match Kl D j pending,Km D j done with
    |true,true=>
     (match Vf D V o j with
      |some true=>
       (match Bb o.op with
        |true=>
         (match kK T (dev T.nglob D V vars over j) o.op with
          |some (ob,mk)=>(match Vs ob,Nat.blt (Nat.add base j) 16000000 with|true,true=>dpre T D vars over done pending base r (Nat.succ j) (Up A (Nat.add base j) ob) ((j,mk (Nat.add base j))::V)|_,_=>none)
          |none=>none)
        |false=>
         (match qop T A (dev T.nglob D V vars over j) o.op with
          |some v=>dpre T D vars over done pending base r (Nat.succ j) A ((j,v)::V)
          |none=>dpre T D vars over done pending base r (Nat.succ j) A V))
      |some false=>dpre T D vars over done pending base r (Nat.succ j) A ((j,undef)::V)
      |none=>dpre T D vars over done pending base r (Nat.succ j) A V)
    |_,_=>dpre T D vars over done pending base r (Nat.succ j) A V
def UW(T:Tab)(D:DI)(A:Xx)(vars:List (Option Value))(over:List (Nat×Value))(done pending:List Nat)(ops:List Oper)(j:Nat)(V:List (Nat×Value)):Option (List (Nat×Value)):=
 match ops with
 |[]=>some V
 |o::r=>
  match Kz o.op with
  |false=>
   (match Bb o.op,Kl D j pending,Km D j done,XK V j with
    |true,true,true,none=>none
    |_,_,_,_=>UW T D A vars over done pending r (Nat.succ j) V)
  |true=>
   match Kl D j pending,Km D j done with
   |true,true=>
    (match(match Vf D V o j with
      |some true=>qop T A (dev T.nglob D V vars over j) o.op
      |some false=>some undef
      |none=>none)with
     |some v=>
      (match XK V j with
       |none=>UW T D A vars over done pending r (Nat.succ j) ((j,v)::V)
       |some u=>(match vEq u v with|true=>UW T D A vars over done pending r (Nat.succ j) V|false=>none))
     |none=>none)
   |_,_=>UW T D A vars over done pending r (Nat.succ j) V
def tY(x:Nat)(l:List Nat):Bool:=mem x l
def J8(es:List Edge)(j:Nat):Bool:=
 match es with
 |[]=>true
 |e::r=>(match Region.binds .any e,Nat.blt e.on j with|true,false=>false|_,_=>J8 r j)
def dX(l:List (Nat×Nat))(g:Nat):Bool:=match l with|[]=>false|p::r=>(match Nat.beq p.2 g with|true=>true|false=>dX r g)
def T1(D:DI)(ops:List Oper)(j:Nat):Bool:=
 match ops with
 |[]=>true
 |o::r=>
  match J8 o.after.toList j,(match o.guard with|none=>true|some (g,_)=>(match before D g j with|true=>dX D.dsts g|false=>false))with
  |true,true=>T1 D r (Nat.succ j)
  |_,_=>false
def VJ(D:DI)(c:List Nat):Bool:=
 match c with
 |a::b::r=>(match before D a b with|true=>VJ D (b::r)|false=>false)
 |_=>true
def N5(l:List (Nat×Nat))(k:Nat):Option Nat:=match l with|[]=>none|(a,b)::r=>(match Nat.beq a k with|true=>some b|false=>N5 r k)
def BP(l:List (Nat×Nat)):Bool:=
 match l with
 |[]=>true
 |p::r=>(match N5 r p.1 with|none=>BP r|some _=>false)
def T2(nt:Nat)(l:List (Nat×Nat)):Bool:=
 match l with
 |[]=>true
 |p::r=>(match Nat.blt p.1 nt with|true=>T2 nt r|false=>false)
def QV(ops:List Oper)(nt:Nat):Bool:=
 match T1 (XU ops) ops 0,VJ (XU ops) (XU ops).chain,BP (XU ops).dsts,T2 nt (XU ops).dsts with
 |true,true,true,true=>true
 |_,_,_,_=>false
def M3(l:List Nat)(n:Nat):List Nat:=match n,l with|0,_=>[]|n+1,x::r=>x::M3 r n|_,[]=>[]
def Et(V:List (Nat×Value))(ds:List (Nat×Nat))(fr:Xz):Option Xz:=
 match ds with
 |[]=>some fr
 |(d,j)::r=>(match XK V j with|some v=>(match fr.put (some d) v with|some fr'=>Et V r fr'|none=>none)|none=>none)
def ZX(s:ASt)(jump:Option Code):V0:=
 match s.fr.roundOf with
 |none=>
  (match jump with
   |none=> .next {s with fr:={s.fr with mode:= .returning}}
   |some .ret=> .next {s with fr:={s.fr with mode:= .returning}}
   |_=> .stuck)
 |some l=>
  match s.A.heap.get l,s.cs,s.fr.kind with
  |some (.loop L),c::rest, .normal=>
   (match c.drawFinish (.bool jump.isNone)with
    |some c'=> .next {fr:=c',cs:=rest,A:=Up s.A l (.loop {L with st:=if jump.isNone then .ready else .done,pending:=jump})}
    |none=> .stuck)
  |_,_,_=> .stuck
def Jo(over:List (Nat×Value)):List (Nat×Value):=match over with|a::b::c::d::_=>[a,b,c,d]|l=>l
def toS(s:ASt)(todo:List YJ):V0:= .next {s with fr:={s.fr with todo:=todo}}
def bA(T:Tab)(s:ASt)(c:Operand)(a b:Code)(k:List YJ):V0:=(match UZ T.nglob s.fr.vars s.fr.over c with|some (.bool true)=>toS s (.code a::k)|some (.bool false)=>toS s (.code b::k)|_=> .stuck)
def aY(s:ASt)(id:Nat)(k:List YJ):V0:=(match HA id k with|some k'=>toS s k'|none=>ZX s (some (.exit id)))
def tR(s:ASt)(ops:Array Oper)(k:List YJ):V0:= .next {s with fr:={s.fr with over:=Jo s.fr.over,todo:= .inRegion ops ops.toList::k}}
def aX(s:ASt)(ops:Array Oper)(k:List YJ):V0:=(match QV ops.toList s.fr.nt with|true=> .next {s with fr:={s.fr with over:=Jo s.fr.over,todo:= .inDraw ops 0 [] s.A.next::k},A:={s.A with next:=Nat.add s.A.next (len ops.toList)}}|false=> .stuck)
def aRF(T:Tab)(s:ASt)(f:Operand)(params:Array Tmp)(assign body:Code)(k:List YJ):V0:=
  (match UZ T.nglob s.fr.vars s.fr.over f with
   |some fv=>
    match s.fr.roundOf with
    |none=>
     (let A1:=Yv s.A (.deferred (some []))
      let L:MN:={st:= .ready,pending:=none,fn:=s.fr.fn,vars:=s.fr.vars,over:=s.fr.over,nt:=s.fr.nt,params:=params.toList,assign:=assign,body:=body,defers:=s.A.next}
      let A2:=Yv A1 (.loop L)
      match TE T A2 fv [.func (.yield A1.next) #[] #[]]with
      |some r=>Jj T {fr:={s.fr with todo:= .inRangeFunc A1.next::k,defers:={target:= .collected s.A.next,args:=#[]}::s.fr.defers},cs:=s.cs,A:=A2} r
      |none=> .stuck)
    |some l=>
     (match s.A.heap.get l with
      |some (.loop L0)=>
       (let L:MN:={st:= .ready,pending:=none,fn:=s.fr.fn,vars:=s.fr.vars,over:=s.fr.over,nt:=s.fr.nt,params:=params.toList,assign:=assign,body:=body,defers:=L0.defers}
        let A2:=Yv s.A (.loop L)
        match TE T A2 fv [.func (.yield s.A.next) #[] #[]]with
        |some r=>Jj T {fr:={s.fr with todo:= .inRangeFunc s.A.next::k},cs:=s.cs,A:=A2} r
        |none=> .stuck)
      |_=> .stuck)
   |none=> .stuck)
def DE(T:Tab)(s:ASt)(c:Code)(k:List YJ):V0:=
 match c with
 | .skip| .label _=>toS s k
 | .seq a b=>toS s (.code a:: .code b::k)
 | .cond c a b=>bA T s c a b k
 | .block id b=>toS s (.code b:: .inBlock id::k)
 | .loop b=>toS s (.code b:: .inLoop b::k)
 | .scope b=>toS s (.code b:: .inScope b::k)
 | .exit id=>aY s id k
 | .ret=>ZX s (some .ret)
 | .region _ ops false=>tR s ops k
 | .region _ ops true=>aX s ops k
 | .rangeFunc f params assign body=>aRF T s f params assign body k
 |_=> .stuck
def OA(T:Tab)(D:DI)(A:Xx)(vars:List (Option Value))(over:List (Nat×Value))(done pending:List Nat)(base:Nat)(ops:List Oper)(V:List (Nat×Value)):Option (Xx×List (Nat×Value)):=
 match T7 D V done pending D.als with
 |false=>(match UW T D A vars over done pending ops 0 V with|some V1=>some (A,V1)|none=>none)
 |true=>
  match dpre T D vars over done pending base ops 0 A V with
  |some (A1,V1)=>(match UW T D A1 vars over done pending ops 0 V1 with|some V2=>some (A1,V2)|none=>none)
  |none=>none
def aZ(T:Tab)(s:ASt)(ops:Array Oper)(t:Nat)(V:List (Nat×Value))(base:Nat)(k:List YJ):V0:=
 match OA T (XU ops.toList) s.A s.fr.vars s.fr.over (M3 (XU ops.toList).chain t) (Kg (XU ops.toList).chain t) base ops.toList V with
 |some (A1,V1)=>
  (match nth (XU ops.toList).chain t with
   |none=>(match Et V1 (XU ops.toList).dsts {s.fr with todo:=k}with|some fr=> .next {s with fr:=fr,A:=A1}|none=> .stuck)
   |some c=>
    match nth ops.toList c with
    |some o=>
     (match Vf (XU ops.toList) V1 o c,XK V1 c with
      |some false,none=> .next {s with fr:={s.fr with todo:= .inDraw ops (Nat.succ t) ((c,undef)::V1) base::k},A:=A1}
      |some true,none=>
       (match aop T A1 (dev T.nglob (XU ops.toList) V1 s.fr.vars s.fr.over c) o.op with
        |some (.val v A)=> .next {s with fr:={s.fr with todo:= .inDraw ops (Nat.succ t) ((c,v)::V1) base::k},A:=A}
        |some (.skip A)=> .next {s with fr:={s.fr with todo:= .inDraw ops (Nat.succ t) ((c,undef)::V1) base::k},A:=A}
        |some (.enter f args)=>(match ZY T f args .normal with|some fr=> .next {fr:=fr,cs:={s.fr with todo:= .inDraw ops (Nat.succ t) V1 base::k}::s.cs,A:=A1}|none=> .stuck)
        |_=> .stuck)
      |_,_=> .stuck)
    |none=> .stuck)
 |none=> .stuck
def MK(T:Tab)(s:ASt)(ops:Array Oper)(o:Oper):V0:=
  (match Uw s.fr ops.toList o with
   |some true=>(match aop T s.A (UZ T.nglob s.fr.vars s.fr.over) o.op with|some r=>Jj T s r|none=> .stuck)
   |some false=>(match s.fr.finish undef with|some fr=> .next {s with fr:=fr}|none=> .stuck)
   |none=> .stuck)
def DF(s:ASt)(k:List YJ):V0:=
  (match s.fr.roundOf with
   |some l=>(match s.A.heap.get l with
    |some (.loop L)=>(match L.st with| .ready=> .next {s with fr:={s.fr with todo:=k},A:=Up s.A l (.loop {L with st:= .busy})}|_=> .stuck)
    |_=> .stuck)
   |none=> .stuck)
def DD(s:ASt)(l:Nat)(k:List YJ):V0:=
  (match s.A.heap.get l with
   |some (.loop L)=>(match L.st with
    | .busy=> .stuck
    |_=> .next {s with fr:={s.fr with todo:=(match L.pending with|some c=> .code c::k|none=>k)},A:=Up s.A l (.loop {L with st:= .exhausted})})
   |_=> .stuck)
def nB(T:Tab)(s:ASt)(ops:Array Oper)(rest:List Oper)(k:List YJ):V0:=match rest with|[]=>toS s k|o::_=>MK T s ops o
def nC(T:Tab)(s:ASt)(i:YJ)(k:List YJ):V0:=
 match i with
 | .code c=>DE T s c k
 | .inBlock _=>toS s k
 | .inScope _=>toS s k
 | .inLoop b=>toS s (.code b:: .inLoop b::k)
 | .inRegion ops rest=>nB T s ops rest k
 | .inDraw ops t V base=>aZ T s ops t V base k
 | .beginRound=>DF s k
 | .endRangeFunc l=>DD s l k
 | .inRangeFunc _=> .stuck
def U0(T:Tab)(s:ASt):V0:=
 match s.fr.todo with
 |[]=>ZX s none
 |i::k=>nC T s i k
def VV(T:Tab)(A:Xx)(fr:Xz)(rs:List ResultVar):Option (List Value):=
 match rs with
 |[]=>some []
 | .tmp t::r=>(match G0 fr.vars fr.over t,VV T A fr r with|some v,some l=>some (v::l)|_,_=>none)
 | .cell a t::r=>(match G0 fr.vars fr.over a with
  |some p=>(match HW T A t p,VV T A fr r with|some (v,_),some l=>some (v::l)|_,_=>none)
  |none=>none)
def tup(vs:List Value):Value:=match vs with|[v]=>v|vs=> .tuple ⟨vs⟩
def FO(l:List PanicEntry):List PanicEntry:=l.dropWhile (!·.goexit)
def Ud(ds:List (Nat×Nat))(vars:List (Option Value)):List (Option Value):=
 match ds with
 |[]=>vars
 |(d,_)::r=>Ud r (MT none vars d)
def R5(T:Tab)(s:ASt):V0:=
 match s.fr.defers with
 | {target:= .collected b, .. }::ds=>
  (match s.A.heap.get b with
   |some (.deferred (some calls))=> .next {s with fr:={s.fr with defers:=app calls ds},A:=Up s.A b (.deferred none)}
   |_=> .stuck)
 | {target:= .fn (.func f) captured,args:=args}::ds=>
  (match ZY T f (app args.toList captured.toList) .deferred with
   |some fr=> .next {fr:=fr,cs:={s.fr with defers:=ds}::s.cs,A:=s.A}
   |none=> .stuck)
 |_::_=> .stuck
 |[]=>
  match s.fr.mode with
  | .run=> .stuck
  | .panicking chain=>(match s.cs,T.fn.get s.fr.fn with|c::rest,some _=>(match c.todo with
   | .inDraw ops _ _ _::_=> .next {s with fr:={c with mode:=DL c.mode chain,vars:=Ud (XU ops.toList).dsts c.vars,over:=[],todo:=[]},cs:=rest}
   |_=> .next {s with fr:={c with mode:=DL c.mode chain},cs:=rest})|_,_=> .stuck)
  | .returning=>
   match T.fn.get s.fr.fn with
   |none=> .stuck
   |some a=>
    match VV T s.A s.fr a.results with
    |none=> .stuck
    |some vs=>
     match s.cs,s.fr.kind,s.fr.roundOf with
     |[], .normal,none=> .done s.fr.fn (tup vs)
     |c::rest, .normal,none=>(match c.drawFinish (tup vs)with|some c'=> .next {s with fr:=c',cs:=rest}|none=> .stuck)
     |c::rest, .deferred,none=>
      (match c.mode with
       | .panicking ({recovered:=true, .. }::older)=>
        (match FO older with
         |[]=> .next {s with fr:={c with mode:= .returning},cs:=rest}
         |r=> .next {s with fr:={c with mode:= .panicking r},cs:=rest})
       | .run=> .stuck
       |_=> .next {s with fr:=c,cs:=rest})
     |_,_,_=> .stuck
def O3(T:Tab)(s:ASt):V0:=
 match s.fr.mode with
 | .run=>U0 T s
 |_=>R5 T s
end
section
def U1(μ:Mu)(a b:PanicEntry):Prop:=XI μ a.v b.v∧a.recovered=b.recovered∧a.goexit=b.goexit
theorem U1.mono{μ μ':Mu}(h:Mu.Le μ μ'){a b:PanicEntry}(k:U1 μ a b):U1 μ' a b:=⟨k.1.mono h,k.2⟩
inductive JO(μ:Mu):Qc→FrameMode→Prop
 |run:JO μ .run .run
 |returning:JO μ .returning .returning
 |panicking {a b:List PanicEntry} (h:Y4 (U1 μ) a b):JO μ (.panicking a) (.panicking b)
theorem JO.mono{μ μ':Mu}(h:Mu.Le μ μ'){a:Qc}{b:FrameMode}(k:JO μ a b):JO μ' a b:=by
 cases k with
 |run=>exact .run
 |returning=>exact .returning
 |panicking hl=>exact .panicking (hl.mono fun _ _=>U1.mono h)
inductive Kc(μ:Mu):YJ→Item→Prop
 |code (c:Code):Kc μ (.code c) (.code c)
 |inBlock (id:Nat):Kc μ (.inBlock id) (.inBlock id)
 |inLoop (c:Code):Kc μ (.inLoop c) (.inLoop c)
 |inScope (c:Code):Kc μ (.inScope c) (.inScope c)
 |inRegion {ops:Array Oper} {i:Nat} (h:i≤ops.size):Kc μ (.inRegion ops (ops.toList.drop i)) (.inRegion ops (List.range' i (ops.size - i)))
 |inRangeFunc {l:Nat} {e:Ent} (h:μ l=some e):Kc μ (.inRangeFunc l) (.inRangeFunc e.blk)
 |endRangeFunc {l:Nat} {e:Ent} (h:μ l=some e):Kc μ (.endRangeFunc l) (.endRangeFunc e.blk)
 |beginRound:Kc μ .beginRound .beginRound
theorem Kc.mono{μ μ':Mu}(h:Mu.Le μ μ'){a:YJ}{b:Item}(k:Kc μ a b):Kc μ' a b:=by
 cases k with
 |code c=>exact .code c
 |inBlock id=>exact .inBlock id
 |inLoop c=>exact .inLoop c
 |inScope c=>exact .inScope c
 |inRegion hi=>exact .inRegion hi
 |inRangeFunc hl=>exact .inRangeFunc (h _ _ hl)
 |endRangeFunc hl=>exact .endRangeFunc (h _ _ hl)
 |beginRound=>exact .beginRound
inductive J6(μ:Mu):Option Nat→Option Nat→Prop
 |none:J6 μ none none
 |some {l:Nat} {e:Ent} (h:μ l=some e):J6 μ (some l) (some e.blk)
theorem J6.mono{μ μ':Mu}(h:Mu.Le μ μ'){a b:Option Nat}(k:J6 μ a b):J6 μ' a b:=by
 cases k with
 |none=>exact .none
 |some hl=>exact .some (h _ _ hl)
structure DQ(μ:Mu)(fr:Xz)(fr':Frame):Prop where
 fn:fr'.fn=fr.fn
 kind:fr'.kind=fr.kind
 round:J6 μ fr.roundOf fr'.roundOf
 defers:Y4 (GH μ) fr.defers fr'.defers
 mode:JO μ fr.mode fr'.mode
theorem DQ.mono{μ μ':Mu}(h:Mu.Le μ μ'){a:Xz}{b:Frame}(k:DQ μ a b):DQ μ' a b:=
 ⟨k.fn,k.kind,k.round.mono h,k.defers.mono fun _ _=>GH.mono h,k.mode.mono h⟩
abbrev KZ(μ:Mu):List YJ→List Item→Prop:=Y4 (Kc μ)
theorem KZ.mono{μ μ':Mu}(h:Mu.Le μ μ'){a:List YJ}{b:List Item}(k:KZ μ a b):KZ μ' a b:=Y4.mono (fun _ _=>Kc.mono h) k
structure Plain(μ:Mu)(fr:Xz)(fr':Frame):Prop where
 core:DQ μ fr fr'
 tm:UB μ fr.nt fr.vars fr.over fr'.tmps
 todo:fr.mode= .run→KZ μ fr.todo fr'.todo
theorem Plain.mono{μ μ':Mu}(h:Mu.Le μ μ'){a:Xz}{b:Frame}(k:Plain μ a b):Plain μ' a b:=
 ⟨k.core.mono h,k.tm.mono h,fun hm=>(k.todo hm).mono h⟩
def PC(T:Tab)(A:Xx)(D:DI)(V:List (Nat×Value))(vars:List (Option Value))(over:List (Nat×Value))(base j:Nat)(o:Oper)(v:Value):Prop:=
 ∃Vi:List (Nat×Value),(∀k u,XK Vi k=some u→XK V k=some u)∧
  ((Vf D Vi o j=some false∧v=undef)∨
   (Vf D Vi o j=some true∧∃ob mk,kK T (dev T.nglob D Vi vars over j) o.op=some (ob,mk)∧v=mk (base+j)∧A.heap.get (base+j)=some ob∧Vs ob=true))
structure Zn(T:Tab)(μ:Mu)(A:Xx)(lo hi:Nat)(nt:Nat)(vars:List (Option Value))(over:List (Nat×Value))(ops:Array Oper)(t:Nat)(V:List (Nat×Value))(base:Nat)(rest:List Nat)(tm:Array Value):Prop where
 ok:QV ops.toList nt=true
 nt:nt≤tm.size
 lo:lo≤base
 hi:base+ops.size≤hi
 ord:∃S:List Nat,(S++rest).Pairwise (fun a b=>before (XU ops.toList) b a=false)∧(S++rest).Nodup∧∀i,i∈S++rest↔i<ops.size
 chain:rest.filter (fun i=>mem i (XU ops.toList).chain)=(XU ops.toList).chain.drop t
 done:∀i o,i∉rest→ops[i]? =some o→∃v,XK V i=some v∧∀d,o.dst=some d→∃v',tm[d]? =some v'∧XI μ v v'
 old:∀u v,G0 vars over u=some v→(∀k,XK (XU ops.toList).dsts u=some k→k∈rest)→∃v',tm[u]? =some v'∧XI μ v v'
 pend:∀j o,j∈rest→ops[j]? =some o→Bb o.op=true→μ (base+j)=none∧∀v,XK V j=some v→PC T A (XU ops.toList) V vars over base j o v
def Kept(n:Nat)(μ:Mu)(A A':Xx):Prop:=∀b o,b<n→μ b=none→A.heap.get b=some o→Vs o=true→A'.heap.get b=some o
theorem VK{o:Yj}(h:Vs o=true):o.notGrown:=by
 cases o with
 |cells xs k=>cases k with
  |fixed ro=>trivial
  |grown g=>cases h
 |_=>trivial
theorem JP.kept{μ:Mu}{A A':Xx}(h:JP μ A A')(n:Nat):Kept n μ A A':=fun b o _ h1 h2 h3=>h.2 b o h1 h2 (VK h3)
theorem PC.mono{T:Tab}{A A':Xx}{D:DI}{V V':List (Nat×Value)}{vars:List (Option Value)}{over:List (Nat×Value)}{base j:Nat}{o:Oper}{v:Value}
  (h:PC T A D V vars over base j o v) (hV:∀k u,XK V k=some u→XK V' k=some u)
  (hA:∀ob,A.heap.get (base+j)=some ob→Vs ob=true→A'.heap.get (base+j)=some ob):PC T A' D V' vars over base j o v:=by
 obtain⟨Vi,h1,h2⟩:=h;refine⟨Vi,fun k u hk=>hV k u (h1 k u hk),?_⟩;rcases h2 with h2|⟨h2,ob,mk,h3,h4,h5,h6⟩
 ·exact .inl h2
 ·exact .inr ⟨h2,ob,mk,h3,h4,hA ob h5 h6,h6⟩
theorem Zn.mono{T:Tab}{μ μ':Mu}{A A':Xx}{lo hi hi' nt:Nat}{vars:List (Option Value)}{over:List (Nat×Value)}{ops:Array Oper}{t:Nat}{V:List (Nat×Value)}{base:Nat}{rest:List Nat}{tm:Array Value}
  (h:Zn T μ A lo hi nt vars over ops t V base rest tm) (hm:Mu.Ext hi μ μ') (hA:Kept hi μ A A') (hhi:hi≤hi'):Zn T μ' A' lo hi' nt vars over ops t V base rest tm where
 ok:=h.ok
 nt:=h.nt
 lo:=h.lo
 hi:=bd h.hi hhi
 ord:=h.ord
 chain:=h.chain
 done:=fun i o h1 h2=>let⟨v,a,b⟩:=h.done i o h1 h2;⟨v,a,fun d hd=>let⟨v',c,e⟩:=b d hd;⟨v',c,e.mono hm.1⟩⟩
 old:=fun u v h1 h2=>let⟨v',a,b⟩:=h.old u v h1 h2;⟨v',a,b.mono hm.1⟩
 pend:=fun j o h1 h2 h3=>by
  obtain⟨a,b⟩:=h.pend j o h1 h2 h3;have hj:base+j<hi:=by
   have:=(aw.1 h2).1;have:=h.hi;omega
  exact⟨hm.2 _ hj a,fun v hv=>(b v hv).mono (fun _ _ h=>h) fun ob h5 h6=>hA _ _ hj a h5 h6⟩
inductive CV(T:Tab)(μ:Mu)(A:Xx)(lo hi:Nat)(fr:Xz)(fr':Frame):Prop
 |plain (h:Plain μ fr fr')
 |draw {ops:Array Oper} {t:Nat} {V:List (Nat×Value)} {base:Nat} {k:List YJ} {rest:List Nat} {k':List Item} (core:DQ μ fr fr') (run:fr.mode= .run)
   (h1:fr.todo= .inDraw ops t V base::k) (h2:fr'.todo= .inRegion ops rest::k') (h3:KZ μ k k')
   (h4:Zn T μ A lo hi fr.nt fr.vars fr.over ops t V base rest fr'.tmps)
inductive gN(T:Tab)(μ:Mu)(A:Xx)(lo hi:Nat)(fr:Xz)(fr':Frame):Prop
 |plain (h:Plain μ fr fr')
 |wait {ops:Array Oper} {t c:Nat} {V:List (Nat×Value)} {base:Nat} {k:List YJ} {rest:List Nat} {k':List Item} (core:DQ μ fr fr') (run:fr.mode= .run)
   (h1:fr.todo= .inDraw ops (Nat.succ t) V base::k) (h2:fr'.todo= .inRegion ops (c::rest)::k') (h3:KZ μ k k') (hc:nth (XU ops.toList).chain t=some c)
   (h4:Zn T μ A lo hi fr.nt fr.vars fr.over ops t V base (c::rest) fr'.tmps)
theorem gN.mono{T:Tab}{μ μ':Mu}{A A':Xx}{lo hi hi':Nat}{fr:Xz}{fr':Frame}(h:gN T μ A lo hi fr fr')(hm:Mu.Ext hi μ μ')(hA:Kept hi μ A A')(hhi:hi≤hi'):gN T μ' A' lo hi' fr fr':=by
 cases h with
 |plain h=>exact .plain (h.mono hm.1)
 |wait core run h1 h2 h3 hc h4=>exact .wait (core.mono hm.1) run h1 h2 (h3.mono hm.1) hc (h4.mono hm hA hhi)
inductive Stack(T:Tab)(μ:Mu)(A:Xx):Nat→List Xz→List Frame→Prop
 |nil (hi:Nat):Stack T μ A hi [] []
 |cons {lo hi:Nat} {c:Xz} {c':Frame} {cs:List Xz} {cs':List Frame} (h:gN T μ A lo hi c c') (hl:lo≤hi) (t:Stack T μ A lo cs cs'):Stack T μ A hi (c::cs) (c'::cs')
theorem Mu.Ext.le{n m:Nat}(h:n≤m){μ μ':Mu}(k:Mu.Ext m μ μ'):Mu.Ext n μ μ':=⟨k.1,fun b hb=>k.2 b (by omega)⟩
theorem Kept.le{n m:Nat}(h:n≤m){μ:Mu}{A A':Xx}(k:Kept m μ A A'):Kept n μ A A':=fun b o hb=>k b o (by omega)
theorem Stack.mono{T:Tab}{μ μ':Mu}{A A':Xx}{hi hi':Nat}{cs:List Xz}{cs':List Frame}(h:Stack T μ A hi cs cs')(hm:Mu.Ext hi μ μ')(hA:Kept hi μ A A')(hhi:hi≤hi'):Stack T μ' A' hi' cs cs':=by
 induction h generalizing hi' with
 |nil hi=>exact .nil _
 |cons h hl t ih=>exact .cons (h.mono hm hA hhi) (bd hl hhi) (ih (hm.le hl) (hA.le hl) (ak _))
structure I4(T:Tab)(B:Nat)(μ:Mu)(s:ASt)(fr':Frame)(cs':List Frame)(w:World):Prop where
 mem:Yi μ B s.A w.heap
 glob:MM μ T.nglob
 fr:∃lo,lo≤s.A.next∧CV T μ s.A lo s.A.next s.fr fr'∧Stack T μ s.A lo s.cs cs'
def ZK(P:Program)(T:Tab)(B:Nat)(cs0:List Frame)(m:Machine)(w:World)(s':ASt):Prop:=
 ∃μ fr' cs' w',I4 T B μ s' fr' cs' w'∧Steps P m (lone fr' (cs'++cs0) w')∧Below B w w'
end
section
variable {P:Program} {T:Tab} {B:Nat} {cs0:List Frame}
def Out(P:Program)(T:Tab)(B:Nat)(cs0:List Frame)(fr':Frame)(cs':List Frame)(w:World):V0→Prop
 | .next s'=>ZK P T B cs0 (lone fr' (cs'++cs0) w) w s'
 | .branch l=>∃s'∈l,ZK P T B cs0 (lone fr' (cs'++cs0) w) w s'
 | .done f v=>∃μ v',fr'.leaving P w (.returned v')∧XI μ v v'∧fr'.fn=f∧cs'=[]
 | .stuck=>True
theorem MM.mono{μ μ':Mu}{N:Nat}(h:MM μ N)(hm:Mu.Le μ μ'):MM μ' N:=fun g hg=>hm _ _ (h g hg)
def MS(tm:Array Value)(d:Option Tmp)(v:Value):Array Value:=match d with|some d=>tm.setIfInBounds d v|none=>tm
theorem dI{μ:Mu}{fr fr1:Xz}{tm:Array Value}(h:UB μ fr.nt fr.vars fr.over tm){d:Option Tmp}{v v':Value}(hv:XI μ v v')(hp:fr.put d v=some fr1):
  UB μ fr.nt fr1.vars fr1.over (MS tm d v')∧fr1= {fr with vars:=fr1.vars,over:=fr1.over}:=by
 cases d with
 |none=>injection hp with hp;subst hp;exact⟨h,rfl⟩
 |some t=>
  have hp:(match Nat.blt t fr.nt,Ia fr.vars fr.over t v with|true,(vs,ov)=>some {fr with vars:=vs,over:=ov}|false,_=>none)=some fr1:=hp;split at hp
  ·rename_i vs ov ht he;injection hp with hp;subst hp;have:=h.set (t:=t) (v:=v) (v':=v') (by simpa using ht) hv;rw[he]at this;exact⟨this,rfl⟩
  ·cases hp
theorem Q7{μ:Mu}{ops:Array Oper}{o:Oper}{rest:List Oper}{y:Item}(h:Kc μ (.inRegion ops (o::rest)) y):
  ∃i,i<ops.size∧ops[i]? =some o∧rest=ops.toList.drop (i+1)∧y= .inRegion ops (i::List.range' (i+1) (ops.size - (i+1))):=by
 generalize hx:YJ.inRegion ops (o::rest)=x at h;cases h with
 | @inRegion ops' i hi=>
  injection hx with h1 h2;subst h1;have hlt:i<ops.size:=by
   rcases cp i ops.size with h|h
   ·exact h
   ·rw[cg (by simpa using h)]at h2;cases h2
  have hd:=bj (l:=ops.toList) (i:=i) (by simpa using hlt);rw[hd]at h2;injection h2 with h2 h3;refine⟨i,hlt,?_,h3,?_⟩
  ·rw[h2];simp[hlt]
  ·have:ops.size - i=(ops.size - (i+1))+1:=by omega
   rw[this,gy]
 |_=>cases hx
theorem JI{μ:Mu}{fr fr1:Xz}{fr':Frame}(h:Plain μ fr fr')(hr:fr.mode= .run){v v':Value}(hv:XI μ v v')(hf:fr.finish v=some fr1):Plain μ fr1 (fr'.finish v'):=by
 unfold Xz.finish at hf;split at hf
 ·rename_i ops o rest k ht;have htd:=h.todo hr;rw[ht]at htd;obtain⟨y,k',hk,hy,hk'⟩:=htd.cons_left;obtain⟨i,hi,ho,hrr,rfl⟩:=Q7 hy;obtain⟨p1,p2⟩:=dI (fr:={fr with todo:= .inRegion ops rest::k}) (tm:=fr'.tmps) h.tm hv hf;have hc:=h.core;have hfin:fr'.finish v'= {fr' with tmps:=MS fr'.tmps o.dst v',todo:= .inRegion ops (List.range' (i+1) (ops.size - (i+1)))::k'}:=by
   simp only[Frame.finish,hk,ho,fa];cases o.dst<;>rfl
  rw[hfin];rw[p2];exact⟨⟨hc.fn,hc.kind,hc.round,hc.defers,hc.mode⟩,p1,fun _=> .cons (hrr▸ .inRegion (by omega)) hk'⟩
 ·rename_i l k ht;injection hf with hf;subst hf;have htd:=h.todo hr;rw[ht]at htd;obtain⟨y,k',hk,hy,hk'⟩:=htd.cons_left;cases hy with
  | @inRangeFunc _ e hl=>
   have hc:=h.core;have hfin:fr'.finish v'= {fr' with todo:= .endRangeFunc e.blk::k'}:=by simp only[Frame.finish,hk]
   rw[hfin];exact⟨⟨hc.fn,hc.kind,hc.round,hc.defers,hc.mode⟩,h.tm,fun _=> .cons (.endRangeFunc hl) hk'⟩
 ·rename_i k ht;injection hf with hf;subst hf;have htd:=h.todo hr;rw[ht]at htd;obtain⟨y,k',hk,hy,hk'⟩:=htd.cons_left;cases hy;have hc:=h.core;have hfin:fr'.finish v'= {fr' with todo:=k'}:=by simp only[Frame.finish,hk]
  rw[hfin];exact⟨⟨hc.fn,hc.kind,hc.round,hc.defers,hc.mode⟩,h.tm,fun _=>hk'⟩
 ·cases hf
theorem M0{μ:Mu}{fr:Xz}{fr':Frame}(h:Plain μ fr fr')(hr:fr.mode= .run):(match fr'.todo with| .call _ true _ _::_=>CallKind.wrapped|_=> .normal)= .normal:=by
 have ht:=h.todo hr;generalize hx:fr.todo=x at ht;generalize hy:fr'.todo=y at ht;cases x with
 |nil=>rw[ht.nil_left]
 |cons a x=>
  obtain⟨b,y',rfl,hab,_⟩:=ht.cons_left;cases hab<;>rfl
theorem T5(n t:Nat):(Nat.rec (motive:=fun _=>List (Option Value)) [] (fun _ r=>none::r) n)[t]? =some none∨(Nat.rec (motive:=fun _=>List (Option Value)) [] (fun _ r=>none::r) n:List (Option Value))[t]? =none:=by
 induction n generalizing t with
 |zero=>exact .inr rfl
 |succ n ih=>
  cases t with
  |zero=>exact .inl rfl
  |succ t=>simpa using ih t
theorem D5(xs:List Value):(List.rec (motive:=fun _=>List (Option Value)) [] (fun v _ r=>some v::r) xs)=xs.map some:=by
 induction xs with
 |nil=>rfl
 |cons x xs ih=>exact ee (some x::·) ih
theorem Qm(C:YN P T){μ:Mu}{f:FuncId}{args:List Value}{args':Array Value}(ha:XF μ args args'.toList){kind:CallKind}{fr1:Xz}(h:ZY T f args kind=some fr1):
  Plain μ fr1 (Frame.enter P f args' kind):=by
 unfold ZY at h;split at h
 case h_2=>cases h
 rename_i a hf;injection h with h;subst h;obtain⟨fn,h1,h2,h3,h4⟩:=C.fn f a hf;have he:Frame.enter P f args' kind= {fn:=f,tmps:=args'++Array.replicate (a.ntmps - args'.size) undef,todo:=[.code a.body],defers:=[],mode:= .run,kind:=kind}:=by
  simp[Frame.enter,h1,h2,h3]
 rw[he];refine⟨⟨rfl,rfl, .none, .nil, .run⟩,⟨?_,?_⟩,fun _=> .cons (.code _) .nil⟩
 ·simp;omega
 ·intro t v hv;unfold G0 at hv;rw[YA,KT,D5]at hv;rcases cp t args.length with hlt|hge
  ·rw[bu (by simpa using hlt)]at hv;simp only[an,aa hlt,bt]at hv;injection hv with hv;subst hv;obtain⟨y,hy,hr⟩:=ha.get (aa hlt);refine⟨y,?_,hr⟩;have hlt':t<args'.size:=by have:=ha.1;simp at this;omega
   rw[fq hlt'];simpa using hy
  ·rw[bz (by simpa using hge)]at hv;rcases T5 (Nat.sub a.nvars (len args)) (t - (args.map some).length)with h0|h0
   ·rw[h0]at hv;cases hv
   ·rw[h0]at hv;cases hv
theorem F5{s:ASt}:∀{rs:List (Value×Xx)} {l:List ASt},R6 s rs=some l→∀r∈rs,∃fr,s.fr.finish r.1=some fr∧{s with fr:=fr,A:=r.2}∈l:=by
 intro rs
 induction rs with
 |nil=>intro l _ r hr;cases hr
 |cons r0 rs ih=>
  intro l h r hr;unfold R6 at h;split at h
  case h_2=>cases h
  rename_i fr l' hf hl;injection h with h;subst h;rcases av.1 hr with rfl|hr
  ·exact⟨fr,hf,by simp⟩
  ·obtain⟨fr2,a,b⟩:=ih hl r hr;exact⟨fr2,a,by simp[b]⟩
theorem Sk{μ:Mu}{m:Qc}{fr':Frame}(h:JO μ m fr'.mode){vs vs':List PanicEntry}(hv:Y4 (U1 μ) vs vs'):JO μ (DL m vs) (fr'.raise vs').mode:=by
 generalize hm:fr'.mode=m' at h;cases h with
 |run=>simp only[Frame.raise,hm];exact .panicking hv
 |returning=>simp only[Frame.raise,hm];exact .panicking hv
 |panicking hl=>simp only[Frame.raise,hm];exact .panicking (hv.app hl)
theorem U9{μ:Mu}{fr:Xz}{fr':Frame}(h:DQ μ fr fr'){vs vs':List PanicEntry}(hv:Y4 (U1 μ) vs vs'):DQ μ {fr with mode:=DL fr.mode vs} (fr'.raise vs'):=by
 have hm:=Sk h.mode hv;refine⟨?_,?_,?_,?_,hm⟩
 ·rw[←h.fn];unfold Frame.raise;split<;>rfl
 ·rw[←h.kind];unfold Frame.raise;split<;>rfl
 ·have:=h.round;unfold Frame.raise;split<;>exact this
 ·have:=h.defers;unfold Frame.raise;split<;>exact this
theorem Hn{μ:Mu}{fr:Xz}{fr':Frame}(h:Plain μ fr fr'){vs vs':List PanicEntry}(hv:Y4 (U1 μ) vs vs'):Plain μ {fr with mode:=DL fr.mode vs} (fr'.raise vs'):=by
 refine⟨U9 h.core hv,?_,?_⟩
 ·have:=h.tm;unfold Frame.raise;split<;>exact this
 ·intro hm;exfalso;have hm:DL fr.mode vs= .run:=hm;unfold DL at hm;split at hm<;>cases hm
theorem RV(C:YN P T){μ:Mu}{s:ASt}{fr':Frame}{cs':List Frame}{w w0:World}{m:Machine}{lo:Nat}
  (R:Yi μ B s.A w.heap) (G:MM μ T.nglob) (hlo:lo≤s.A.next) (hp:Plain μ s.fr fr') (hrn:s.fr.mode= .run) (hs:Stack T μ s.A lo s.cs cs')
  {sem:Sem Next} (hstep:∀fr2 cs2 w2,(stepG.apply P true fr' (cs'++cs0) none sem w).bare= .go {frame:=fr2,callers:=cs2,status:= .running,dying:=none} w2→Steps P m (lone fr2 cs2 w2))
  (hw:Below B w0 w) {r:KN} (hr:ResOk P T μ B s.A w sem r):
  (∀s',Jj T s r= .next s'→ZK P T B cs0 m w0 s')∧(∀l,Jj T s r= .branch l→∃s'∈l,ZK P T B cs0 m w0 s')∧(∀f v,Jj T s r≠ .done f v):=by
 have hval:∀{v:Value} {A':Xx} {fr1:Xz},Uz P μ B s.A w sem v A'→s.fr.finish v=some fr1→ZK P T B cs0 m w0 {s with fr:=fr1,A:=A'}:=by
  intro v A' fr1 ⟨v',w',μ',h1,h2,h3,h4,h5,h6⟩ hf;refine⟨μ',fr'.finish v',cs',w',⟨h3,G.mono h2.1,lo,bd hlo h6.1, .plain (JI (hp.mono h2.1) hrn h4 hf),hs.mono (h2.le hlo) (h6.kept _) (ak _)⟩,?_,hw.trans h5⟩;refine hstep _ _ _ ?_;simp[stepG.apply,h1]
 cases r with
 |val v A'=>
  have hr:Uz P μ B s.A w sem v A':=hr;simp only[Jj,EG];split
  ·rename_i fr1 hf;refine⟨?_,nofun,nofun⟩;intro s' e;injection e with e;subst e;exact hval hr hf
  ·exact⟨nofun,nofun,nofun⟩
 |skip A'=>
  obtain⟨w',h1,h3,h5,h6⟩:=hr;simp only[Jj,EG];split
  ·rename_i fr1 hf;refine⟨?_,nofun,nofun⟩;intro s' e;injection e with e;subst e;refine⟨μ,fr'.finish undef,cs',w',⟨h3,G,lo,bd hlo h6.1, .plain (JI hp hrn (XF.tuple .nil) hf),hs.mono (Mu.Ext.refl _ _) (h6.kept _) (ak _)⟩,?_,hw.trans h5⟩;refine hstep _ _ _ ?_;simp[stepG.apply,h1]
  ·exact⟨nofun,nofun,nofun⟩
 |enter f args=>
  obtain⟨args',h1,h2,a,ha⟩:=hr;simp only[Jj,Dr];split
  ·rename_i fr1 hf;refine⟨?_,nofun,nofun⟩;intro s' e;injection e with e;subst e;refine⟨μ,Frame.enter P f args' .normal,fr'::cs',w,⟨R,G,s.A.next,ak _, .plain (Qm C h2 hf), .cons (.plain hp) hlo hs⟩,?_,hw⟩;refine hstep _ _ _ ?_;have hk:=M0 hp hrn;simp only[stepG.apply,fy,h1,if_true,ex,jy];exact ee (fun kd=>GStep.go {frame:=Frame.enter P f args' kd,callers:=fr'::(cs'++cs0),status:= .running,dying:=none} w) hk
  ·exact⟨nofun,nofun,nofun⟩
 |defer d=>
  obtain⟨d',h1,h2⟩:=hr;simp only[Jj,FX];split
  ·rename_i fr1 hro hf;refine⟨?_,nofun,nofun⟩;intro s' e;injection e with e;subst e;have hp1:Plain μ {s.fr with defers:=d::s.fr.defers} {fr' with defers:=d'::fr'.defers}:=⟨⟨hp.core.fn,hp.core.kind,hp.core.round, .cons h2 hp.core.defers,hp.core.mode⟩,hp.tm,hp.todo⟩;refine⟨μ,({fr' with defers:=d'::fr'.defers}:Frame).finish undef,cs',w,⟨R,G,lo,hlo, .plain (JI hp1 hrn (XF.tuple .nil) hf),hs⟩,?_,hw⟩;refine hstep _ _ _ ?_;simp only[stepG.apply,fy,h1,if_true,ex,jy]
  ·exact⟨nofun,nofun,nofun⟩
 |panic v=>
  obtain⟨v',h1,h2⟩:=hr;simp only[Jj,Dq];refine⟨?_,nofun,nofun⟩;intro s' e;injection e with e;subst e;refine⟨μ,fr'.raise [{v:=v',recovered:=false}],cs',w,⟨R,G,lo,hlo, .plain (Hn hp (.cons ⟨h2,rfl,rfl⟩ .nil)),hs⟩,?_,hw⟩;refine hstep _ _ _ ?_;simp[stepG.apply,h1]
 |round l L vs ov=>
  obtain⟨e,tm,h1,h2,h3,h4⟩:=hr;simp only[Jj,Dp];refine⟨?_,nofun,nofun⟩;intro s' e;injection e with e;subst e;refine⟨μ,Frame.round e.blk L.fn tm L.assign L.body .normal,fr'::cs',w,⟨R,G,s.A.next,ak _, .plain ⟨⟨rfl,rfl, .some h1, .nil, .run⟩,h4,fun _=> .cons (.code _) (.cons .beginRound (.cons (.code _) .nil))⟩, .cons (.plain hp) hlo hs⟩,?_,hw⟩;refine hstep _ _ _ ?_;simp only[stepG.apply,fy,h3,if_true,ex,jy];rfl
 |branch rs=>
  obtain⟨r,hr1,hr2⟩:=hr;simp only[Jj,I0];split
  ·rename_i l hl;refine⟨nofun,?_,nofun⟩;intro l' e;injection e with e;subst e;obtain⟨fr1,hf,hm⟩:=F5 hl r hr1;exact⟨_,hm,hval hr2 hf⟩
  ·exact⟨nofun,nofun,nofun⟩
 |recover=>
  have h1:sem.run P w= .ok .recover w:=hr;simp only[Jj,EH];split
  case h_2=>exact⟨nofun,nofun,nofun⟩
  rename_i c rest hro hkd hcs;have hro':fr'.roundOf=none:=by
   have:=hp.core.round;rw[hro]at this;generalize fr'.roundOf=ro at this;cases this;rfl
  have hkd':fr'.kind= .deferred:=by rw[hp.core.kind,hkd]
  rw[hcs]at hs;generalize hcs':cs'=cs2 at hs;cases hs with
  | @cons lo2 _ _ c' _ cs2' hc hl ht=>
  subst hcs';split
  ·rename_i v older hmode;split
   case h_2=>exact⟨nofun,nofun,nofun⟩
   rename_i fr1 hf;refine⟨?_,nofun,nofun⟩;intro s' e;injection e with e;subst e;cases hc with
   |wait core run=>rw[hmode]at run;cases run
   |plain hc=>
   have hm:=hc.core.mode;rw[hmode]at hm;generalize hm':c'.mode=mm at hm;cases hm with
   |panicking hl2=>
   obtain⟨y,older',rfl,hy,ho⟩:=hl2.cons_left;obtain⟨v',rc,gx⟩:=y;obtain⟨hv,rfl,rfl⟩:=hy;refine⟨μ,fr'.finish v',{c' with mode:= .panicking ({v:=v',recovered:=true}::older')}::cs2',w,⟨R,G,lo,hlo, .plain (JI hp hrn hv hf), .cons (.plain ⟨⟨hc.core.fn,hc.core.kind,hc.core.round,hc.core.defers, .panicking (.cons ⟨hv,rfl,rfl⟩ ho)⟩,hc.tm,fun h=>by cases h⟩) hl ht⟩,?_,hw⟩;refine hstep _ _ _ ?_;simp[stepG.apply,h1,hro',tryRecover,hkd',hm']
  ·exact⟨nofun,nofun,nofun⟩
  ·rename_i hmode;split
   case h_2=>exact⟨nofun,nofun,nofun⟩
   rename_i fr1 hf;refine⟨?_,nofun,nofun⟩;intro s' e;injection e with e;subst e;have hm':c'.mode= .returning:=by
    have hm:JO μ c.mode c'.mode:=by cases hc with
     |plain hc=>exact hc.core.mode
     |wait core=>exact core.mode
    rw[hmode]at hm;generalize c'.mode=mm at hm;cases hm;rfl
   refine⟨μ,fr'.finish .nilIface,c'::cs2',w,⟨R,G,lo,hlo, .plain (JI hp hrn .nilIface hf),by rw[hcs];exact .cons hc hl ht⟩,?_,hw⟩;refine hstep _ _ _ ?_;simp[stepG.apply,h1,hro',tryRecover,hkd',hm']
  ·exact⟨nofun,nofun,nofun⟩
end
section
variable {P:Program} {T:Tab} {B:Nat} {cs0:List Frame}
theorem HN{μ:Mu}{fr:Xz}{fr':Frame}(G:MM μ T.nglob)(h:UB μ fr.nt fr.vars fr.over fr'.tmps):Zk μ (UZ T.nglob fr.vars fr.over) fr'.eval:=by
 intro x v hx;cases x with
 |tmp t=>
  have hx:G0 fr.vars fr.over t=some v:=hx;obtain⟨v',h1,h2⟩:=h.2 t v hx;simp only[Frame.eval,bi,h1];exact h2
 |const c=>
  have hx:(match YQ c with|true=>some c|false=>none)=some v:=hx;split at hx
  ·rename_i hc;injection hx with hx;subst hx;exact Yu hc μ
  ·cases hx
 |global g=>
  have hx:(match Nat.blt g T.nglob with|true=>some (Value.pointer (some ⟨g,0,none⟩))|false=>none)=some v:=hx;split at hx
  ·rename_i hc;injection hx with hx;subst hx;exact .ptr (e:=⟨g,0,none,0⟩) (G g (by simpa using hc))
  ·cases hx
 |func f=>
  injection hx with hx;subst hx;exact XF.func (fun l h=>by cases h) .nil .nil
theorem bR{μ:Mu}{s:ASt}{fr':Frame}{cs':List Frame}{w:World}{lo:Nat}(R:Yi μ B s.A w.heap)(G:MM μ T.nglob)(hlo:lo≤s.A.next)(hs:Stack T μ s.A lo s.cs cs')
  {fr1:Xz} {fr1':Frame} (hp:Plain μ fr1 fr1')
  (hstep:(stepG P true {frame:=fr',callers:=cs'++cs0,status:= .running,dying:=none} w).bare= .go {frame:=fr1',callers:=cs'++cs0,status:= .running,dying:=none} w):
  ZK P T B cs0 (lone fr' (cs'++cs0) w) w {s with fr:=fr1}:=
 ⟨μ,fr1',cs',w,⟨R,G,lo,hlo, .plain hp,hs⟩, .one (dp hstep),bg _ _⟩
theorem WL{μ:Mu}{id:Nat}:∀{k:List YJ} {k':List Item},KZ μ k k'→
  (∀r,HA id k=some r→∃r',exitTo id k'=some r'∧KZ μ r r')∧(HA id k=none→exitTo id k'=none):=by
 intro k
 induction k with
 |nil=>intro k' h;rw[h.nil_left];exact⟨nofun,fun _=>rfl⟩
 |cons x k ih=>
  intro k' h;obtain⟨y,k2,rfl,hxy,ht⟩:=h.cons_left;cases hxy with
  |inBlock id'=>
   simp only[HA,exitTo];by_cases e:id'=id
   ·subst e;simp;exact ht
   ·have h1:Nat.beq id' id=false:=by cases h:Nat.beq id' id with|false=>rfl|true=>exact absurd (ap h) e
    have h2:(id'==id)=false:=by simpa using e
    rw[h1];simp only[h2];exact ih ht
  |_=>simpa[HA,exitTo]using ih ht
end
end Go.Proofs.YtbkpmfjfpcoehaaGreatDoor.Sim
