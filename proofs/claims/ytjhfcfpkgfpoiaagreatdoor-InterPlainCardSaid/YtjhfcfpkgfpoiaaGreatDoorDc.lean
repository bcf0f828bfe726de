/- Values, boxes, rows and maps of a call as plain data, and rules for code over them. No condition. -/
import Derived.Orders
import Derived.Scope
import Derived.Test.YtjhfcfpkgfpoiaaGreatDoorDb
namespace Go.Proofs.YtjhfcfpkgfpoiaaGreatDoor.Dw
open Go Go.RowKit
set_option maxRecDepth 100000
section
section
variable {P:Program} {base:Nat} {E M:Nat→Prop} {w0 w w':World} {β β':Vl} {st:St} {a:Act} {N:Nat→Prop} {ty:TypeId→Option Ty} {tm:Array Value}
def Xml(b:Nat)(v:Cv)(x:Cx):Cx:=match x with| .own c=>if c=b then .c v else .own c|x=>x
def Xuv(b:Nat)(v:Cv):EV→EV
 | .one x=> .one (Xml b v x)
 | .agg xs=> .agg (xs.map (Xml b v))
 | .tup l=>if l.all (KP b)then .tup l else .any
 | .ep esz els i off=> .ep esz els i off
 | .rp c esz i off=>if c=b then .any else .rp c esz i off
 | .any=> .any
def Xmm(b:Nat)(v:Cv):OB→OB
 | .box xs=> .box (xs.map (Xml b v))
 | .row z t esz els=> .row z t esz els
 | .map es=> .map es
def del{α:Type}(b:Nat):List (Nat×α)→List (Nat×α)
 |[]=>[]
 |(k,v)::r=>if k=b then del b r else(k,v)::del b r
theorem Xgw{α:Type}(b:Nat)(l:List (Nat×α))(t:Nat):look (del b l) t=if t=b then none else look l t:=by
 induction l with
 |nil=>simp[del,look]
 |cons p r ih=>
  obtain⟨k,v⟩:=p;simp only[del];by_cases h:k=b
  ·rw[if_pos h,ih];by_cases g:t=b
   ·rw[if_pos g,if_pos g]
   ·rw[if_neg g,if_neg g];simp only[look];rw[if_neg (by rw[h];exact fun q=>g q.symm)]
  ·rw[if_neg h];simp only[look];by_cases g:k=t
   ·rw[if_pos g,if_pos g,if_neg (by rw[←g];exact h)]
   ·rw[if_neg g,if_neg g,ih]
def Hr(b:Nat)(v:Cv)(st:St):St:={env:=Xbw (Xuv b v) st.env,H:=Xbw (Xmm b v) (del b st.H)}
def less(β:Vl)(b:Nat):Vl:=fun c=>if c=b then none else β c
theorem Rel.freeze(R:Rel base E M w0 β st tm w){b:Nat}{z:Bool}{t:TypeId}{esz:Nat}{els:List (List Cv)}(hb:look st.H b=some (.row z t esz els)):
  Rel base E M w0 (less β b) (Hr b (.sl z esz els) st) tm w∧
   (∀x u,Yz w (X6 M w β) β x u→(∀c,refs x=some c→look st.H c≠none)→Yz w (X6 M w (less β b)) (less β b) (Xml b (.sl z esz els) x) u∧∀c,refs (Xml b (.sl z esz els) x)=some c→look (Hr b (.sl z esz els) st).H c≠none):=by
 obtain⟨u,hu,ho⟩:=R.obj b _ hb;obtain⟨cells,o1,o2,o3⟩:=ZF ho;obtain⟨⟨A,c0,he⟩,o4,o5⟩:=Gy o1;have hN:∀g,X6 M w β g→X6 M w (less β b) g:=fun g hg=>⟨hg.1,fun c u' hc=>by
  unfold less at hc;split at hc
  ·cases hc
  ·exact hg.2 c u' hc⟩
 have hbl:∀g,blk u=some g→X6 M w (less β b) g:=fun g hg=>⟨⟨o5 g hg,R.may g (R.at_ b u g hu hg).1⟩,fun c u' hc=>by
  unfold less at hc;split at hc
  ·cases hc
  ·rename_i hne;exact fun h=>hne (R.inj c b u' u g hc hu h hg)⟩
 have hv:XN w (X6 M w (less β b)) (.sl z esz els) u:=by
  rcases o1.2 with⟨rfl,h0⟩|⟨g,cap,cur,rfl, -,hg,hn, -⟩
  ·have:els=[]:=List.eq_nil_of_length_eq_zero h0;subst this;have:z=true:=o2.2 rfl;subst this;exact .nil
  ·have hzf:z=false:=by
    cases hz:z with
    |false=>rfl
    |true=>have:=o2.1 hz;cases this
   subst hzf;refine .sl (fun i j=>cells.getD (i*esz+j) undef) rfl hn o3.el (fun i j c hc=>?_) (fun i j c hc=>?_)
   ·obtain⟨x,h1,h2⟩:=o3.rel i j c hc;refine⟨hbl g rfl,?_⟩;rw[o1.cells rfl _ _ h1,List.getD_eq_getElem?_getD,h1];rfl
   ·obtain⟨x,h1,h2⟩:=o3.rel i j c hc;rw[List.getD_eq_getElem?_getD,h1];exact h2.mono hN fun p _=>rfl
 have hlk:∀c,look (Hr b (.sl z esz els) st).H c=if c=b then none else(look st.H c).map (Xmm b (.sl z esz els)):=by
  intro c;simp only[Hr,Gi,Xgw];split<;>rfl
 have hX:∀x u,Yz w (X6 M w β) β x u→(∀c,refs x=some c→look st.H c≠none)→Yz w (X6 M w (less β b)) (less β b) (Xml b (.sl z esz els) x) u∧∀c,refs (Xml b (.sl z esz els) x)=some c→look (Hr b (.sl z esz els) st).H c≠none:=by
  intro x y hx hr;have hlook:∀c,c≠b→look st.H c≠none→look (Hr b (.sl z esz els) st).H c≠none:=by
   intro c hcb hc;rw[hlk,if_neg hcb];cases hq:look st.H c with
   |none=>exact absurd hq hc
   |some o=>simp
  have hle:∀c,c≠b→less β b c=β c:=fun c hc=>if_neg hc;cases x with
  |c v=>exact⟨XN.mono hx hN fun p _=>rfl,fun c hc=>by cases hc⟩
  |own c=>
   by_cases hcb:c=b
   ·subst hcb;obtain⟨h1,_⟩:=hx;rw[hu]at h1;injection h1 with h1;subst h1;simp only[Xml];rw[if_pos trivial];exact⟨hv,fun c hc=>by cases hc⟩
   ·simp only[Xml];rw[if_neg hcb];exact⟨⟨by rw[hle c hcb];exact hx.1,hx.2⟩,fun d hd=>by injection hd with hd;subst hd;exact hlook _ hcb (hr _ rfl)⟩
  |ptr c off=>
   have hcb:c≠b:=by
    rintro rfl;obtain⟨g,h1,_⟩:=hx;rw[hu,he]at h1;cases h1
   obtain⟨g,h1,h2⟩:=hx;exact⟨⟨g,by rw[hle c hcb];exact h1,h2⟩,fun d hd=>by injection hd with hd;subst hd;exact hlook _ hcb (hr _ rfl)⟩
  |map c=>
   have hcb:c≠b:=by
    rintro rfl;obtain⟨g,h1,_⟩:=hx;rw[hu,he]at h1;cases h1
   obtain⟨g,h1,h2⟩:=hx;exact⟨⟨g,by rw[hle c hcb];exact h1,h2⟩,fun d hd=>by injection hd with hd;subst hd;exact hlook _ hcb (hr _ rfl)⟩
  |dead=>exact⟨hx,fun c hc=>by cases hc⟩
 have hXs:∀xs us,Y5 (Yz w (X6 M w β) β) xs us→(∀x∈xs,∀c,refs x=some c→look st.H c≠none)→Y5 (Yz w (X6 M w (less β b)) (less β b)) (xs.map (Xml b (.sl z esz els))) us:=by
  intro xs us h hr;refine⟨by simpa using h.1,fun i x y hx hy=>?_⟩;rw[List.getElem?_map]at hx;cases hq:xs[i]? with
  |none=>rw[hq]at hx;cases hx
  |some x0=>rw[hq]at hx;simp at hx;subst hx;exact(hX x0 y (h.2 i x0 y hq hy) (hr x0 (List.mem_of_getElem? hq))).1
 have hV:∀v u,X9 w (X6 M w β) β v u→(∀c,X1 v c→look st.H c≠none)→X9 w (X6 M w (less β b)) (less β b) (Xuv b (.sl z esz els) v) u∧∀c,X1 (Xuv b (.sl z esz els) v) c→look (Hr b (.sl z esz els) st).H c≠none:=by
  intro v y hvv hr;have clean:∀v,KP b v=true→¬X1 v b:=by
   intro v hcl hrr;cases v with
   |one x=>cases hrr with|one h=>exact Kc hcl h
   |agg xs=>cases hrr with|agg hm h=>exact Kc ((List.all_eq_true.1 hcl) _ hm) h
   |_=>cases hcl
  have mono:¬X1 v b→X9 w (X6 M w (less β b)) (less β b) v y∧∀c,X1 v c→look (Hr b (.sl z esz els) st).H c≠none:=by
   intro hnb;refine⟨hvv.mono hN (fun p _=>rfl) fun c hc=>if_neg (fun(q:c=b)=>hnb (q▸hc)),fun c hc=>?_⟩;rw[hlk,if_neg (fun(q:c=b)=>hnb (q▸hc))];cases hq:look st.H c with
   |none=>exact absurd hq (hr c hc)
   |some o=>simp
  cases v with
  |one x=>
   cases hvv with|one hx=>
   obtain⟨h1,h2⟩:=hX x y hx (fun c hc=>hr c (.one hc));exact⟨.one h1,fun c hc=>by cases hc with|one hc=>exact h2 c hc⟩
  |agg xs=>
   cases hvv with| @agg _ us hx=>
   refine⟨.agg (hXs _ _ hx fun x hx c hc=>hr c (.agg hx hc)),fun c hc=>?_⟩;cases hc with|agg hm hc=>
   obtain⟨x0,hx0,rfl⟩:=List.mem_map.1 hm;obtain⟨i,hi,rfl⟩:=List.getElem_of_mem hx0;obtain⟨y,hy,hr'⟩:=hx.get (List.getElem?_eq_getElem hi);exact(hX _ y hr' fun c hc=>hr c (.agg (List.getElem_mem hi) hc)).2 c hc
  |tup l=>
   simp only[Xuv];split
   ·rename_i hl;refine mono fun hrr=>?_;cases hrr with|tup hm hrr=>exact clean _ ((List.all_eq_true.1 hl) _ hm) hrr
   ·exact⟨.any,fun c hc=>by cases hc⟩
  |ep esz' els' i off=>exact mono fun hrr=>by cases hrr
  |rp c esz' i off=>
   simp only[Xuv];split
   ·exact⟨.any,fun c hc=>by cases hc⟩
   ·rename_i hne;exact mono fun hrr=>by cases hrr;exact hne rfl
  |any=>exact⟨.any,fun c hc=>by cases hc⟩
 have hE:∀t v,look (Hr b (.sl z esz els) st).env t=some v→∃v0,look st.env t=some v0∧Xuv b (.sl z esz els) v0=v:=by
  intro t v hv;simp only[Hr,Gi,Option.map_eq_some_iff]at hv;exact hv
 refine⟨⟨R.fr,R.le,fun t v hv=>?_,fun c o hc=>?_,fun c u' g hc hg=>?_,fun c d u1 u2 g h1 h2 g1 g2=>?_,fun c u' hc=>?_,⟨fun t v c hv hr=>?_,fun k xs x c hk hx hr=>?_⟩,R.may⟩,hX⟩
 ·obtain⟨v0,h1,rfl⟩:=hE t v hv;obtain⟨y,hy,hr⟩:=R.env t v0 h1;exact⟨y,hy,(hV v0 y hr fun c hc=>R.cl.env t v0 c h1 hc).1⟩
 ·rw[hlk]at hc;split at hc
  ·cases hc
  ·rename_i hcb;simp only[Option.map_eq_some_iff]at hc;obtain⟨o0,h1,rfl⟩:=hc;obtain⟨y,hy,hr⟩:=R.obj c o0 h1;refine⟨y,by simp only[less];rw[if_neg hcb];exact hy,?_⟩;cases o0 with
   |box xs=>
    obtain⟨g,arr,t',rfl,k1,k2⟩:=hr;exact⟨g,arr,t',rfl,k1,hXs _ _ k2 fun x hx d hd=>R.cl.obj c xs x d h1 hx hd⟩
   |row z' t' esz' els'=>exact ORel.mono hr hN (fun p _=>rfl) (fun g _=>rfl) (fun xs x b h=>by cases h)
   |map es=>exact ORel.mono hr hN (fun p _=>rfl) (fun g _=>rfl) (fun xs x b h=>by cases h)
 ·unfold less at hc;split at hc
  ·cases hc
  ·exact R.at_ c u' g hc hg
 ·unfold less at h1 h2;split at h1
  ·cases h1
  ·split at h2
   ·cases h2
   ·exact R.inj c d u1 u2 g h1 h2 g1 g2
 ·unfold less at hc;split at hc
  ·cases hc
  ·rename_i hcb;rw[hlk,if_neg hcb];cases hq:look st.H c with
   |none=>exact absurd hq (R.dom c u' hc)
   |some o=>simp
 ·obtain⟨v0,h1,rfl⟩:=hE t v hv;obtain⟨y,hy,hr'⟩:=R.env t v0 h1;exact(hV v0 y hr' fun c hc=>R.cl.env t v0 c h1 hc).2 c hr
 ·rw[hlk]at hk;split at hk
  ·cases hk
  ·simp only[Option.map_eq_some_iff]at hk;obtain⟨o0,h1,h2⟩:=hk;cases o0 with
   |box ys=>
    simp only[Xmm]at h2;injection h2 with h2;subst h2;obtain⟨x0,hx0,rfl⟩:=List.mem_map.1 hx;obtain⟨y,hy,hr'⟩:=R.obj k _ h1;obtain⟨g,arr,t',rfl,k1,k2⟩:=hr';obtain⟨i,hi,rfl⟩:=List.getElem_of_mem hx0;obtain⟨y,hy',hr''⟩:=k2.get (List.getElem?_eq_getElem hi);exact(hX _ y hr'' fun c hc=>R.cl.obj k ys _ c h1 (List.getElem_mem hi) hc).2 c hr
   |row=>cases h2
   |map=>cases h2
end
end
section
section
variable {P:Program} {base:Nat} {E M:Nat→Prop} {w0 w w':World} {β β':Vl} {st:St} {a:Act} {N:Nat→Prop} {ty:TypeId→Option Ty} {tm:Array Value}
theorem Rel.newRow(R:Rel base E M w0 β st tm w){d:Nat}(hd:look st.H d=none){arr:Array Value}{t:TypeId}{esz n:Nat}{els:List (List Cv)}(hn:n=els.length)(hm:n≤maxLen)(hs:arr.size=n*esz)(hf:Flat w (X6 M w β) esz els arr.toList):
  Rel base E M w0 (upd β d (.slice (some ⟨w.heap.size,0,none⟩) n n)) {st with H:=put st.H d (.row false t esz els)} tm (w.alloc (.cells arr t)):=by
 refine R.new hd _ _ _ rfl (fun β' h1 h2 h3=>?_) (fun xs x c h=>by cases h);have hf':=hf.mono (w':=w.alloc (.cells arr t)) h3 fun p hp=>YN (Below.heap_alloc _ _ _ hp.1.1);exact⟨arr.toList,by rw[←hn];exact World.ownsRow_lit (base:=0) (e:=t) (size:=esz) w arr n (Nat.zero_le _) hm hs,by simp,hf'.el,hf'.rel⟩
theorem Jh{α:Type}{n i:Nat}{x y:α}(h:(List.replicate n x)[i]? =some y):y=x∧i<n:=by
 have hi:=(List.getElem?_eq_some_iff.1 h).1;simp at hi;simp[hi]at h;exact⟨h.symm,hi⟩
theorem Xch{n sz:Nat}{zero:List Cv}{zs:Array Value}(h:Y5 (XN w N) zero zs.toList)(hz:zero.length=sz):
  Flat w N sz (List.replicate n zero) ((Array.range (n*sz)).map fun k=>zs[k%zs.size]!).toList:=by
 have hl:zs.size=sz:=by have:=h.1;simp only[Array.length_toList]at this;omega
 refine⟨by simp,fun i es he=>?_,fun i j c hc=>?_⟩
 ·obtain⟨rfl,_⟩:=Jh he;exact hz
 ·unfold cellAt at hc;cases hq:(List.replicate n zero)[i]? with
  |none=>rw[hq]at hc;cases hc
  |some es=>
   obtain⟨rfl,hi⟩:=Jh hq;rw[hq]at hc;simp only[Option.bind_some]at hc;obtain⟨y,hy,hr⟩:=h.get hc;have hj:j<sz:=by have:=(List.getElem?_eq_some_iff.1 hc).1;omega
   refine⟨y,?_,hr⟩;have hk:i*sz+j<n*sz:=Xuc hi hj;have e:(i*sz+j)%sz=j:=by rw[Nat.mul_comm,Nat.mul_add_mod,Nat.mod_eq_of_lt hj]
   have hj':j<zs.size:=by omega
   have hy':zs[j]=y:=by
    have:zs[j]? =some y:=by simpa using hy
    rw[Array.getElem?_eq_getElem hj']at this;injection this
   simp[hk,hl,e];rw[getElem!_pos zs j hj'];exact hy'
def GF(ty:TypeId→Option Ty)(st:St)(d:Nat)(t:TypeId)(l c:EV):Option (Prop×St×EV):=
 match elemOf ty t,l,c,look st.H d with
 |some (none,el,Te), .one (.c (.sc (.int _ n))), .one (.c (.sc (.int _ m))),none=>
  some (0≤n∧n=m∧n≤1000000∧Te.bytes*n≤281474976710656,{st with H:=put st.H d (.row false el Te.size (List.replicate n.toNat Te.zero))}, .one (.own d))
 |_,_,_,_=>none
theorem Xx8(C:Vk P ty)(R:Rel base E M w0 β st tm w){d:Nat}{t:TypeId}{l c v:EV}{p:Prop}{st':St}(h:GF ty st d t l c=some (p,st',v))(hp:p){u u':Value}(hl:X9 w (X6 M w β) β l u)(hc:X9 w (X6 M w β) β c u'):
  ∃r w' β',(Instr.makeSlice t u u').run P w= .ok r w'∧Rel base E M w0 β' st' tm w'∧X9 w' (X6 M w' β') β' v r∧∀b,X1 v b→look st'.H b≠none:=by
 unfold GF at h;split at h
 ·rename_i el Te k n k' m he hd;obtain⟨h1,h2, -⟩:=YM C he w;simp only[Option.some.injEq,Prod.mk.injEq]at h;obtain⟨rfl,rfl,rfl⟩:=h;obtain⟨p1,rfl,p2,p3⟩:=hp;rw[hl.int,hc.int];have I:=C _ _ h2;obtain⟨info,z,i1,i2,i3,i4,i5,i6,i7,i8⟩:=I.info;have hzv:(zeroValue el).run P w= .ok z w:=by simp[Go.zeroValue,Go.typeInfo,i1,i4]
  obtain⟨q,rfl⟩:∃q:Nat,n=q:=⟨n.toNat,by omega⟩;have hmax:q≤maxLen:=by unfold maxLen;omega
  have hf:=Xch (w:=w) (N:=X6 M w β) (n:=q) (i5 w (X6 M w β)) i6;have hzsz:z.cells.size=Te.size:=by have:=(i5 w (X6 M w β)).1;simp only[Array.length_toList]at this;omega
  have hw:IntKind.i64.wrap (q:Int)=q:=by simp[IntKind.wrap,IntKind.bits,IntKind.signed];omega
  have R':=R.newRow hd (t:=el) (n:=q) (els:=List.replicate q Te.zero) (by simp) hmax (by simp) hf;refine⟨_,_,_,?_,by simpa using R', .one ⟨Yj ..,_,_,_,rfl⟩,fun b hb=>?_⟩
  ·have e1:¬((q:Int)<0):=by omega
   have e2:¬(Te.bytes*(q:Int)>281474976710656):=by omega
   have hroom:∀b,(askRoom b).run P w= .ok () w:=fun b=>by unfold askRoom;split<;>simp[mark,Sem.run]
   by_cases h0:q*Te.size=0
   ·simp[Instr.makeSlice,h1,asInt,asIntOf,Go.typeInfo,i1,i3,hw,e1,e2,sizeOf,i2,h0,newRow,Array.range_zero']
   ·simp[Instr.makeSlice,h1,asInt,asIntOf,Go.typeInfo,i1,i3,hw,e1,e2,sizeOf,i2,h0,hzv,newRow]
  ·cases hb with|one hb=>injection hb with hb;subst hb;simp[Yb]
 ·cases h
def chunks(esz n:Nat)(cs:List Cv):List (List Cv):=(List.range n).map fun i=>(cs.drop (i*esz)).take esz
theorem Xmw{esz n:Nat}{cs:List Cv}{us:List Value}(h:Y5 (XN w N) cs us)(hl:cs.length=n*esz):Flat w N esz (chunks esz n cs) us:=by
 refine⟨by simp[chunks,←h.1,hl],fun i es he=>?_,fun i j c hc=>?_⟩
 ·unfold chunks at he;rw[List.getElem?_map]at he;cases hq:(List.range n)[i]? with
  |none=>rw[hq]at he;cases he
  |some k=>
   have hk:=List.getElem?_eq_some_iff.1 hq;obtain⟨hi,hk⟩:=hk;simp at hi hk;subst hk;rw[hq]at he;simp at he;subst he;have:=Nat.mul_le_mul_right esz (show i+1≤n from hi);rw[Nat.add_mul,Nat.one_mul]at this;simp;omega
 ·unfold cellAt chunks at hc;rw[List.getElem?_map]at hc;cases hq:(List.range n)[i]? with
  |none=>rw[hq]at hc;cases hc
  |some k=>
   obtain⟨hi,hk⟩:=List.getElem?_eq_some_iff.1 hq;simp at hi hk;subst hk;rw[hq]at hc;simp only[Option.map_some,Option.bind_some]at hc;rw[List.getElem?_take]at hc;split at hc
   ·rw[List.getElem?_drop]at hc;exact h.get hc
   ·cases hc
def Xgy(ty:TypeId→Option Ty)(st:St)(d:Nat)(t:TypeId)(len:Nat)(ps:List (Nat×EV)):Option (Prop×St×EV):=
 match elemOf ty t,look st.H d with
 |some (none,el,Te),none=>
  (match Vd (fun i=>some (i*Te.size,Te.size)) ((List.replicate len Te.zero).flatten.map Cx.c) ps with
   |some (p,xs)=>(match Xd7 xs with
    |some cs=>some ((len≤1000000∧len*Te.size≤16777216∧cs.length=len*Te.size)∧p,{st with H:=put st.H d (.row false el Te.size (chunks Te.size len cs))}, .one (.own d))
    |none=>none)
   |none=>none)
 |_,_=>none
theorem Xmo{zero:List Cv}{zs:Array Value}(h:Y5 (XN w N) zero zs.toList)(n:Nat):Y5 (XN w N) (List.replicate n zero).flatten ((Array.range (n*zs.size)).map fun k=>zs[k%zs.size]!).toList:=by
 have hl:=h.1;simp only[Array.length_toList]at hl;have hf:=Xch (w:=w) (N:=N) (n:=n) h hl;refine⟨by simp[hl],fun k x y hx hy=>?_⟩;have hk:=(List.getElem?_eq_some_iff.1 hx).1;simp at hk;have hp:0<zs.size:=by
  rcases Nat.eq_zero_or_pos zs.size with h0|h0
  ·rw[hl,h0]at hk;simp at hk
  ·exact h0
 have hi:k / zs.size<n:=by rw[Nat.div_lt_iff_lt_mul hp];rw[←hl];exact hk
 have hj:k%zs.size<zs.size:=Nat.mod_lt _ hp;have e:k / zs.size*zs.size+k%zs.size=k:=by rw[Nat.mul_comm];exact Nat.div_add_mod _ _
 have hxz:zero[k%zs.size]? =some x:=by
  have key:∀(n k:Nat),(List.replicate n zero).flatten[k]? =if k<n*zero.length then zero[k%zero.length]? else none:=by
   intro n
   induction n with
   |zero=>intro k;simp
   |succ n ih=>
    intro k;rw[List.replicate_succ,List.flatten_cons];rcases Nat.lt_or_ge k zero.length with h|h
    ·rw[List.getElem?_append_left h,if_pos (by rw[Nat.add_mul];omega),Nat.mod_eq_of_lt h]
    ·rw[List.getElem?_append_right h,ih];have:(k - zero.length)%zero.length=k%zero.length:=by rw[Nat.mod_eq_sub_mod h]
     rw[this];by_cases hh:k - zero.length<n*zero.length
     ·rw[if_pos hh,if_pos (by rw[Nat.add_mul];omega)]
     ·rw[if_neg hh,if_neg (by rw[Nat.add_mul];omega)]
  rw[key,if_pos hk,hl]at hx;exact hx
 obtain⟨y',hy',hr⟩:=hf.rel (k / zs.size) (k%zs.size) x (by
  unfold cellAt;rw[List.getElem?_replicate,if_pos hi];exact hxz)
 rw[e]at hy';rw[hy']at hy;injection hy with hy;subst hy;exact hr
theorem Ybw(C:Vk P ty)(R:Rel base E M w0 β st tm w){d:Nat}{t:TypeId}{len:Nat}{ps:List (Nat×EV)}{v:EV}{p:Prop}{st':St}(h:Xgy ty st d t len ps=some (p,st',v))(hp:p){us:Array (Nat×Value)}
  (hu:Y5 (fun(p:Nat×EV) (q:Nat×Value)=>p.1=q.1∧X9 w (X6 M w β) β p.2 q.2) ps us.toList):
  ∃r w' β',(Instr.buildSlice t len us).run P w= .ok r w'∧Rel base E M w0 β' st' tm w'∧X9 w' (X6 M w' β') β' v r∧∀b,X1 v b→look st'.H b≠none:=by
 unfold Xgy at h;split at h
 ·rename_i el Te he hd;obtain⟨h1,h2, -⟩:=YM C he w;split at h
  ·rename_i p' xs hfl;split at h
   ·rename_i cs hcs;simp only[Option.some.injEq,Prod.mk.injEq]at h;obtain⟨rfl,rfl,rfl⟩:=h;obtain⟨⟨p1,p2,p3⟩,hp⟩:=hp;obtain rfl:=Xv1 hcs;have I:=C _ _ h2;obtain⟨info,z,i1,i2,i3,i4,i5,i6,i7,i8⟩:=I.info;have hzv:(zeroValue el).run P w= .ok z w:=by simp[Go.zeroValue,Go.typeInfo,i1,i4]
    have hzsz:z.cells.size=Te.size:=by have:=(i5 w (X6 M w β)).1;simp only[Array.length_toList]at this;omega
    have hzr:=Xmo (w:=w) (N:=X6 M w β) (i5 w (X6 M w β)) len;rw[hzsz]at hzr;obtain⟨r,r1,r2, -⟩:=Xhf hu (hzr.map_c (β:=β)) hfl hp;have r3:=r2.of_map_c;have hf:=Xmw r3 p3;have hrs:r.size=len*Te.size:=by have:=r3.1;simp only[Array.length_toList]at this;omega
    have R':=R.newRow hd (t:=el) (n:=len) (els:=chunks Te.size len cs) (by simp[chunks]) (by unfold maxLen;omega) hrs hf;refine⟨_,_,_,?_,R', .one ⟨Yj ..,_,_,_,rfl⟩,fun b hb=>?_⟩
    ·have e2:¬(len*Te.size>16777216):=by omega
     by_cases h0:len*Te.size=0
     ·have r1':Instr.fill (fun i=>some (i*Te.size,Te.size)) #[] us.toList=some r:=by simpa[h0,Array.range_zero']using r1
      simp[Instr.buildSlice,h1,I.sizeOf,h0,Array.range_zero',r1',newRow]
     ·simp[Instr.buildSlice,h1,I.sizeOf,h0,e2,hzv,hzsz,r1,newRow]
    ·cases hb with|one hb=>injection hb with hb;subst hb;simp[Yb]
   ·cases h
  ·cases h
 ·cases h
end
end
section
section
variable {P:Program} {base:Nat} {E M:Nat→Prop} {w0 w w':World} {β β':Vl} {st:St} {a:Act} {N:Nat→Prop} {ty:TypeId→Option Ty} {tm:Array Value}
def Yw(st:St)(d:Nat):Option (St×EV):=match look st.H d with|none=>some ({st with H:=put st.H d (.map [])}, .one (.map d))|some _=>none
theorem Xmd{d:Nat}{st':St}{v:EV}(h:Yw st d=some (st',v))(R:Rel base E M w0 β st tm w)(t:TypeId):
  ∃r w' β',(Instr.makeMap t none).run P w= .ok r w'∧Rel base E M w0 β' st' tm w'∧X9 w' (X6 M w' β') β' v r∧∀b,X1 v b→look st'.H b≠none:=by
 unfold Yw at h;split at h
 ·rename_i hd;simp only[Option.some.injEq,Prod.mk.injEq]at h;obtain⟨rfl,rfl⟩:=h;refine⟨.map (some w.heap.size),w.alloc (.map #[] 0),upd β d (.map (some w.heap.size)),?_,R.new hd _ _ _ rfl (fun β' h1 h2 h3=>?_) (fun ys x c hy=>by cases hy),?_,fun c hc=>?_⟩
  ·simp[Instr.makeMap,newObj];rfl
  ·exact⟨w.heap.size,#[],0,rfl,heap_alloc_new _ _,rfl,fun i x y hx=>by simp at hx⟩
  ·exact .one ⟨w.heap.size,Yj ..,rfl⟩
  ·cases hc with|one h=>injection h with h;subst h;simp[Yb]
 ·cases h
def Xh1(d:TypeDesc)(k v:Cv)(es:List (Cv×Cv)):Option (List (Cv×Cv)):=match Xbz d k es 0 with
 |some (some (i,_))=>some (es.set i (k,v))
 |some none=>some (es++[(k,v)])
 |none=>none
def Xf3(ty:TypeId→Option Ty)(st:St)(t:TypeId)(m k x:EV):Option St:=
 match mapOf ty t,m,k,x with
 |some (d,_), .one (.map b), .one (.c k), .one (.c v)=>(match look st.H b with
  |some (.map es)=>(match Xh1 d k v es with
   |some es'=>some {st with H:=put st.H b (.map es')}
   |none=>none)
  |_=>none)
 |_,_,_,_=>none
theorem Xrx(C:Vk P ty)(R:Rel base E M w0 β st tm w){t:TypeId}{m k x:EV}{st':St}(h:Xf3 ty st t m k x=some st'){u u' u2:Value}(hm:X9 w (X6 M w β) β m u)(hk:X9 w (X6 M w β) β k u')(hx:X9 w (X6 M w β) β x u2):
  ∃w',(Instr.mapUpdate t u u' u2).run P w= .ok () w'∧Rel base E M w0 β st' tm w':=by
 unfold Xf3 at h;split at h
 ·rename_i d z b k v hmo;obtain⟨kt,et,m1,m2,m3, -⟩:=Xnv C hmo;split at h
  ·rename_i es hb;cases hm with|one hm=>
   obtain⟨g,hβ,rfl⟩:=hm;obtain⟨u3,hu3,g2,arr,clock,rfl,hg,hl⟩:=R.obj b _ hb;rw[hβ]at hu3;injection hu3 with hu3;injection hu3 with hu3;injection hu3 with hu3;subst hu3;cases hk with|one hk=>
   cases hx with|one hx=>
   have hk:XN w (X6 M w β) k u':=hk;have hx:XN w (X6 M w β) v u2:=hx;have hun:(underlying t).run P w= .ok (.map kt et) w:=by simp[Go.underlying,m1]
   have hgo:(getObj g).run P w= .ok (.map arr clock) w:=by simp only[getObj,Sem.run,hg]
   have hck:=run_checkKey m2 m3 false 9999 u' w;have hlt:g<w.heap.size:=(Array.getElem?_eq_some_iff.1 hg).1;have hset:∀o,(setObj g o).run P w= .ok () (Sim.wr w g o):=fun o=>by simp only[setObj,Sem.run,hg];rfl
   have fin:∀(es':List (Cv×Cv)) (arr':Array MapEntry) (clock':Nat),Y5 (EntRel w (X6 M w β)) es' arr'.toList→Rel base E M w0 β {st with H:=put st.H b (.map es')} tm (Sim.wr w g (.map arr' clock')):=by
    intro es' arr' clock' hall;have hN:∀k,X6 M w β k→X6 M (Sim.wr w g (.map arr' clock')) β k:=fun k hk=>⟨by simpa using hk.1,hk.2⟩;have hce:∀q:Addr,X6 M w β q.block→(Sim.wr w g (.map arr' clock')).cell? q=w.cell? q:=fun q hq=>YN (Sim.Y1 (fun e=>hq.2 b _ hβ (by rw[e];rfl)) _);refine R.step b (.map es') _ (R.fr.wr (R.at_ b _ g hβ rfl).1 _) (by simp) (fun k hk=>?_) hβ (fun c _=>rfl) (fun c u2 k hc' h1 h2=>?_) (fun k hk=>?_) (.inl hβ) ?_ (fun zs y c hz=>by cases hz)
    ·have hne:k≠g:=fun q=>hk.2 b _ hβ (by rw[q];rfl);exact⟨by intro q;injection q with q;exact hne q.symm,Sim.Y1 hne _⟩
    ·have hne:k≠g:=fun q=>hc' (R.inj c b u2 _ k h1 hβ h2 (by rw[q];rfl));exact⟨Sim.Y1 hne _,by intro q;injection q with q;exact hne q.symm⟩
    ·injection hk with hk;subst hk;exact⟨(R.at_ b _ g hβ rfl).1,by simpa using hlt⟩
    ·exact⟨g,arr',clock',rfl,Sim.Ja hlt _,hall.mono fun p e h=>⟨h.1.mono hN hce,h.2.mono hN hce⟩⟩
   unfold Xh1 at h;cases hf:Xbz d k es 0 with
   |none=>rw[hf]at h;cases h
   |some r=>
    rw[hf]at h;obtain⟨r',f1,f2⟩:=Xn6 hk hl hf;have hfk:=run_findKey m2 f1 w;cases r with
    |none=>
     cases r' with
     |some q=>exact f2.elim
     |none=>
      simp only[Option.some.injEq]at h;subst h;refine⟨_,?_,fin _ (arr.push {key:=u',val:=u2,born:=clock}) (clock+1) ?_⟩
      ·simp only[Instr.mapUpdate,Sem.run_bind,hun,Result.andThen_ok,hgo,hck,hfk];exact hset _
      ·rw[Array.toList_push];exact hl.app (.cons ⟨hk,hx⟩ .nil)
    |some q=>
     obtain⟨j,v'⟩:=q;cases r' with
     |none=>exact f2.elim
     |some q'=>
      obtain⟨j',u4⟩:=q';simp only[Option.some.injEq]at h;subst h;obtain⟨rfl,q2,q3,e0,q4,q5⟩:=f2;rw[Nat.sub_zero]at q4;have hjl:j<arr.toList.length:=(List.getElem?_eq_some_iff.1 q4).1;have hja:arr[j]? =some e0:=by simpa using q4
      refine⟨_,?_,fin _ (arr.modify j fun e=>{e with key:=u',val:=u2}) clock ?_⟩
      ·simp only[Instr.mapUpdate,Sem.run_bind,hun,Result.andThen_ok,hgo,hck,hfk];have hks:(Instr.keyThatStays e0.key u').run P w= .ok u' w:=by simp[Instr.keyThatStays,q5]
       simp only[hja,Option.map_some,Option.getD_some,hks,Result.andThen_ok];exact hset _
      ·refine⟨by simp[hl.1],fun i p e hi he=>?_⟩;rw[List.getElem?_set]at hi;have hjs:j<arr.size:=by simpa using hjl
       by_cases hij:j=i
       ·subst hij;rw[if_pos rfl]at hi;split at hi
        ·injection hi with hi;subst hi;have:(arr.modify j fun e=>{e with key:=u',val:=u2})[j]? =some e:=by rw[←Array.getElem?_toList];exact he
         rw[Array.getElem?_modify,if_pos rfl,hja]at this;simp only[Option.map_some,Option.some.injEq]at this;subst this;exact⟨hk,hx⟩
        ·cases hi
       ·rw[if_neg hij]at hi;have:(arr.modify j fun e=>{e with key:=u',val:=u2})[i]? =some e:=by rw[←Array.getElem?_toList];exact he
        rw[Array.getElem?_modify,if_neg hij]at this;exact hl.2 i p e hi (by simpa using this)
  ·cases h
 ·cases h
def Xfi(ty:TypeId→Option Ty)(st:St)(t:TypeId)(x:EV)(lo hi:Option EV):Option (Prop×St×EV):=
 match x,elemOf ty t,lo,hi with
 | .one (.own b),some (none,el,Te),none,some (.one (.c (.sc (.int _ h))))=>(match look st.H b with
  |some (.row false el' esz els)=>some (el'=el∧esz=Te.size∧0≤h∧h≤els.length,{YL b st with H:=put (YL b st).H b (.row false el esz (els.take h.toNat))}, .one (.own b))
  |_=>none)
 |_,_,_,_=>none
theorem Yc1(C:Vk P ty)(R:Rel base E M w0 β st tm w){t:TypeId}{x v:EV}{lo hi:Option EV}{p:Prop}{st':St}(h:Xfi ty st t x lo hi=some (p,st',v))(hp:p){u:Value}{lo' hi':Option Value}(hx:X9 w (X6 M w β) β x u)(hl:OptE w (X6 M w β) β lo lo')(hh:OptE w (X6 M w β) β hi hi'):
  ∃r β',(Instr.sliceAt t u lo' hi' none).run P w= .ok r w∧Rel base E M w0 β' st' tm w∧X9 w (X6 M w β') β' v r∧∀b,X1 v b→look st'.H b≠none:=by
 unfold Xfi at h;split at h
 ·rename_i b el Te k hi0 he;obtain⟨h1,h2,hut⟩:=YM C he w;split at h
  ·rename_i el' esz els hb;simp only[Option.some.injEq,Prod.mk.injEq]at h;obtain⟨rfl,rfl,rfl⟩:=h;obtain⟨rfl,rfl,p1,p2⟩:=hp;cases hx with|one hx=>
   obtain⟨hβ,_⟩:=hx;obtain⟨u2,hu2,ho⟩:=R.obj b _ hb;rw[hβ]at hu2;injection hu2 with hu2;subst hu2;obtain⟨cells,o1,o2,o3⟩:=ZF ho;have hne:u≠ .slice none 0 0:=fun e=>by have:=o2.2 e;cases this
   rcases o1.2 with⟨e,_⟩|⟨g,cap,cur,rfl,_,q1,q2,q3,q4,q5⟩
   ·exact absurd e hne
   obtain rfl:lo'=none:=by cases lo' with|none=>rfl|some y=>exact hl.elim
   cases hi' with
   |none=>exact hh.elim
   |some y=>
   have hy:y= .int _ hi0:=X9.int hh;have hbd:=HF (P:=P) (isS:=true) (n:=els.length) (cap:=cap) (l:=0) (h:=hi0) (lo:=none) (hi:=some y) (.inl ⟨rfl,rfl⟩) (.inr ⟨_,by rw[hy]⟩) (by omega) p1 (by omega) w;obtain⟨R2,hn⟩:=R.kill b;have hlt:g<w.heap.size:=(Array.getElem?_eq_some_iff.1 q1).1;have hN:∀k,X6 M w β k→X6 M w (upd β b (.slice (some ⟨g,0,none⟩) hi0.toNat cap)) k:=by
    intro k hk;refine⟨hk.1,fun c u' hc=>?_⟩;by_cases hcb:c=b
    ·subst hcb;rw[Yj]at hc;injection hc with hc;subst hc;show some g≠some k;exact hk.2 c _ hβ
    ·rw[Kp _ _ hcb]at hc;exact hk.2 c u' hc
   have hfl:(els.take hi0.toNat).length=hi0.toNat:=by simp;omega
   have R3:=R2.step b (.row false el' Te.size (els.take hi0.toNat)) (.slice (some ⟨g,0,none⟩) hi0.toNat cap) (β':=upd β b (.slice (some ⟨g,0,none⟩) hi0.toNat cap)) (w':=w) R2.fr (Nat.le_refl _)
    (fun k hk=>⟨fun e=>hk.2 b _ hβ e,rfl⟩) (Yj ..) (fun c hc=>Kp _ _ hc) (fun c u' k hc c1 c2=>⟨rfl,fun e=>hc (R.inj c b u' _ k c1 hβ c2 e)⟩)
    (fun k hk=>R.at_ b _ k hβ hk) (.inr hn) (by
     refine⟨cells.take (hi0.toNat*Te.size),?_,by simp,fun i es he=>?_,fun i j c hc=>?_⟩
     ·rw[hfl];have hle:hi0.toNat*Te.size≤els.length*Te.size:=Nat.mul_le_mul_right _ (by omega);refine⟨by rw[List.length_take,o1.1];omega, .inr ⟨g,cap,cur,rfl,Nat.zero_le _,q1,by omega,q3,q4,?_⟩⟩;rw[←q5,List.take_take];congr 1;omega
     ·rw[List.getElem?_take]at he;split at he
      ·exact o3.el i es he
      ·cases he
     ·have hc':=hc;have hsub:cellAt els i j=some c∧i<hi0.toNat:=by
       unfold cellAt at hc⊢;rw[List.getElem?_take]at hc;split at hc
       ·rename_i hlt';exact⟨hc,hlt'⟩
       ·cases hc
      obtain⟨y',hy1,hy2⟩:=o3.rel i j c hsub.1;have hjl:=(cell_lt o3.el hsub.1).2;refine⟨y',?_,hy2.mono hN fun _ _=>rfl⟩;rw[List.getElem?_take,if_pos (Xuc hsub.2 hjl)];exact hy1) (fun ys y c hc=>by cases hc)
   refine⟨.slice (some ⟨g,0,none⟩) hi0.toNat cap,_,?_,R3, .one ⟨Yj ..,_,_,_,rfl⟩,fun c hc=>?_⟩
   ·simp only[Instr.sliceAt,Sem.run_bind,h1,Result.andThen_ok,Instr.slice,hbd,(C _ Te h2).sizeOf,Sem.run_pure,Option.map_some];by_cases hc0:cap=0
    ·simp[hc0]
    ·simp[hc0]
   ·cases hc with|one hc=>injection hc with hc;subst hc;simp[Yb]
  ·cases h
 ·cases h
def K9(ty:TypeId→Option Ty)(st:St)(d:Nat)(t t':TypeId)(s x:EV):Option (Prop×St×EV):=
 match s,x,elemOf ty t,ty t' with
 | .one (.c (.sl true _ [])), .one (.c (.sc (.int _ n))),some (none,el,Te),some T'=>(match T'.desc,look st.H d with
  | .int _,none=>some (0<n∧n≤281474976710656∧n*Te.bytes≤140737488355328∧0<Te.size,{st with H:=put st.H d (.row false el Te.size (List.replicate n.toNat Te.zero))}, .one (.own d))
  |_,_=>none)
 |_,_,_,_=>none
theorem Xrs(C:Vk P ty)(R:Rel base E M w0 β st tm w){d:Nat}{t t':TypeId}{s x v:EV}{p:Prop}{st':St}(h:K9 ty st d t t' s x=some (p,st',v))(hp:p){u u':Value}(hs:X9 w (X6 M w β) β s u)(hx:X9 w (X6 M w β) β x u')(ret:TypeId):
  ∃r w' β',(Builtin.append_ #[t,t'] ret #[u,u']).run P w= .ok r w'∧Rel base E M w0 β' st' tm w'∧X9 w' (X6 M w' β') β' v r∧∀b,X1 v b→look st'.H b≠none:=by
 unfold K9 at h;split at h
 ·rename_i esz k n el Te T' he hT';obtain⟨-,hTe,hut⟩:=YM C he w;split at h
  ·rename_i k' hd' hd;simp only[Option.some.injEq,Prod.mk.injEq]at h;obtain⟨rfl,rfl,rfl⟩:=h;obtain⟨p1,p2,p3,p4⟩:=hp;cases hs with|one hs=>
   have hs':XN w (X6 M w β) (.sl true _ []) u:=hs;cases hs';have hu':=hx.int;subst hu';obtain⟨info,z,i1,i2,i3,i4,i5,i6,i7,i8⟩:=(C _ _ hTe).info;have hzs:z.cells.size=Te.size:=by
    have:=(i5 w (X6 M w β)).1;simp only[Array.length_toList]at this;omega
   have hun':=(C t' T' hT').und;rw[hd']at hun';have hw:IntKind.i64.wrap n=n:=by
    simp only[IntKind.wrap,IntKind.bits,IntKind.signed];simp;omega
   obtain⟨m,rfl⟩:∃m:Nat,n=m:=⟨n.toNat,by omega⟩;have hm0:m≠0:=by omega
   have p3':m*Te.bytes≤140737488355328:=by have h:=p3;rw[←Int.natCast_mul]at h;omega
   have h63':¬(9223372036854775807<(m:Int)):=by omega
   have h48':¬(281474976710656<Builtin.nextslicecap m 0*info.bytes):=by rw[nextslicecap_zero (by omega),i3];omega
   have h48'':¬((281474976710656:Int)<(m:Int)*info.bytes):=by rw[i3];omega
   have hms:¬(m*info.size=0):=by rw[i2];exact Nat.mul_ne_zero hm0 (by omega)
   have hr:(Builtin.append_ #[t,t'] ret #[.slice none 0 0, .int k m]).run P w= .ok (.slice (some ⟨w.heap.size,0,none⟩) m (grownCap w m 0 el)) (w.drew.alloc (.cells (Builtin.zeroCells z.cells m++Builtin.zeroCells z.cells (grownCap w m 0 el - m)) el)):=by
    have h0:¬((m:Int)<0):=by omega
    have hA:(asInt (.int k m)).run P w= .ok (m:Int) w:=rfl;simp[Builtin.append_,run_underlying hut,run_underlying hun',sizeOf,typeInfo,zeroValue,i1,i4,hA,hw,h0,hm0,h63',h48',h48'',hms,Question.forced,run_firstCells_none,newRow,grownCap]
   have hzf:=Xch (w:=w) (N:=X6 M w β) (n:=m) (i5 w _) i6;have hge:=grownCap_ge w m 0 el;have hcm:grownCap w m 0 el≤maxLen:=grownCap_le_maxLen w m 0 el (by simp only[maxLen];omega);have Rd:Rel base E M w0 β st tm w.drew:=⟨⟨R.fr.os,R.fr.tape,R.fr.output,R.fr.size,R.fr.block⟩,R.le,fun t v hv=>by
    obtain⟨u,h1,h2⟩:=R.env t v hv;exact⟨u,h1,h2.mono (fun _ h=>h) (fun _ _=>rfl) fun _ _=>rfl⟩,fun b ob hb=>by
    obtain⟨u,h1,h2⟩:=R.obj b ob hb;exact⟨u,h1,h2.mono (fun _ h=>h) (fun _ _=>rfl) (fun _ _=>rfl) fun _ _ _ _ _ _=>rfl⟩,R.at_,R.inj,R.dom,R.cl,R.may⟩
   have R3:=Rd.new hd (.cells (Builtin.zeroCells z.cells m++Builtin.zeroCells z.cells (grownCap w m 0 el - m)) el) (.row false el Te.size (List.replicate m Te.zero)) (.slice (some ⟨w.heap.size,0,none⟩) m (grownCap w m 0 el)) rfl
    (fun β' g1 g2 g3=>?_) (fun xs y c hc=>by cases hc)
   ·refine⟨_,_,_,hr,by simpa using R3, .one ⟨Yj ..,_,_,_,rfl⟩,fun c hc=>?_⟩;cases hc with|one hc=>injection hc with hc;subst hc;simp[Yb]
   ·have hff:=hzf.mono (w':=w.drew.alloc (.cells (Builtin.zeroCells z.cells m++Builtin.zeroCells z.cells (grownCap w m 0 el - m)) el)) g3 fun q hq=>YN (Below.heap_alloc _ _ _ hq.1.1);have hzc:(Builtin.zeroCells z.cells m).toList=((Array.range (m*Te.size)).map fun k=>z.cells[k%z.cells.size]!).toList:=by simp[Builtin.zeroCells,hzs]
    refine⟨_,⟨by simp[hzs], .inr ⟨w.heap.size,_,_,by simp,Nat.zero_le _,heap_alloc_new w.drew _,by simpa using hge,hcm,?_,?_⟩⟩,by simp,hff.el,hff.rel⟩
    ·simp only[Array.size_append,size_zeroCells,hzs,←Nat.add_mul];congr 1;omega
    ·simp only[Array.toList_append,List.length_replicate];rw[←hzc];have:m*Te.size=(Builtin.zeroCells z.cells m).toList.length:=by simp[size_zeroCells,hzs]
     rw[this];exact List.take_left
  ·cases h
 ·cases h
end
end
section
inductive YX where
 |val (r:EV)
 |row (z:Bool) (t:TypeId) (esz:Nat) (els:List (List Cv))
def noB:Vl:=fun _=>none
def ResOk(M:Nat→Prop)(w w':World)(r:YX)(u:Value):Prop:=
 match r with
 | .val r=>X9 w' (fun g=>g<w'.heap.size∧M g) noB r u
 | .row z t esz els=>(∃cells,w'.ownsRow w.heap.size t esz u els.length cells∧Flat w' (fun g=>(g<w'.heap.size∧M g)∧blk u≠some g) esz els cells)∧(z=true↔u= .slice none 0 0)
def Xq(P:Program)(f:FuncId)(vs:List EV)(r:YX):Prop:=
 ∀(M:Nat→Prop) (w:World) (us:Array Value),(∀g,w.heap.size≤g→M g)→Y5 (X9 w (fun g=>g<w.heap.size∧M g) noB) vs us.toList→
  Calls P f us w fun e w'=>∃u,e= .returned u∧Below w.heap.size w w'∧ResOk M w w' r u
structure Ylv(P:Program)(f:FuncId):Prop where
 body:∃fn,P.funcs[f]? =some fn∧(fn.name== "runtime.NumGoroutine")=false∧fn.body.isNone=false
abbrev Spec:=FuncId→List EV→Option (Prop×YX)
def XF(P:Program)(spec:Spec):Prop:=∀f vs p r,spec f vs=some (p,r)→Ylv P f∧(p→Xq P f vs r)
section
variable {P:Program} {base:Nat} {E M:Nat→Prop} {w0 w w':World} {β β':Vl} {st:St} {a:Act} {N:Nat→Prop} {ty:TypeId→Option Ty} {tm:Array Value} {spec:Spec}
theorem X9.no_refs{v:EV}{u:Value}(h:X9 w N noB v u):∀b,¬X1 v b:=by
 induction h with
 | @one x u h=>
  intro b hb;cases hb with|one hb=>
  cases x with
  |own c=>obtain⟨h,_⟩:=h;cases h
  |ptr c off=>obtain⟨g,h,_⟩:=h;cases h
  |map c=>obtain⟨g,h,_⟩:=h;cases h
  |c v=>cases hb
  |dead=>cases hb
 | @agg xs us h=>
  intro b hb;cases hb with| @agg _ x _ hm hb=>
  obtain⟨i,hi,rfl⟩:=List.getElem_of_mem hm;obtain⟨y,hy,hr⟩:=h.get (List.getElem?_eq_getElem hi);generalize xs[i]=x at*
  cases x with
  |own c=>obtain⟨h,_⟩:=hr;cases h
  |ptr c off=>obtain⟨g,h,_⟩:=hr;cases h
  |map c=>obtain⟨g,h,_⟩:=hr;cases h
  |c v=>cases hb
  |dead=>cases hb
 | @tup l us hl h ih=>
  intro b hb;cases hb with| @tup _ x _ hm hb=>
  obtain⟨i,hi,rfl⟩:=List.getElem_of_mem hm;have hi':i<us.size:=by omega
  exact ih i l[i] us[i] (List.getElem?_eq_getElem hi) (Array.getElem?_eq_getElem hi') b hb
 |ep hs hi=>intro b hb;cases hb
 |rp h=>cases h
 |any=>intro b hb;cases hb
def Xbr(st:St):List Operand→Option (List EV)
 |[]=>some []
 |x::r=>match evO st x,Xbr st r with|some v,some l=>some (v::l)|_,_=>none
theorem Ya1(R:Rel base E M w0 β st a.tmps w):∀{xs:List Operand} {l:List EV},Xbr st xs=some l→Y5 (X9 w (X6 M w β) β) l (xs.map a.eval):=by
 intro xs
 induction xs with
 |nil=>intro l h;injection h with h;subst h;exact .nil
 |cons x xs ih=>
  intro l h;simp only[Xbr]at h;split at h
  ·rename_i v l' hv hl;injection h with h;subst h;exact .cons (evO_ok R hv).1 (ih hl)
  ·cases h
def Gw(x:Cx):Bool:=match x with| .c _=>true|_=>false
def Vr:EV→Bool
 | .one x=>Gw x
 | .agg xs=>xs.all Gw
 | .ep _ _ _ _=>true
 |_=>false
theorem Xit{x:Cx}{u:Value}(h:Gw x=true)(hx:Yz w N β x u):Yz w N β' x u:=by
 cases x<;>first|exact hx|cases h
theorem Xta{v:EV}{u:Value}(h:Vr v=true)(hv:X9 w N β v u):X9 w N β' v u:=by
 cases v with
 |one x=>cases hv with|one hx=>exact .one (Xit h hx)
 |agg xs=>
  cases hv with|agg hx=>
  exact .agg ⟨hx.1,fun i x y a b=>Xit ((List.all_eq_true.1 h) x (List.mem_of_getElem? a)) (hx.2 i x y a b)⟩
 |ep esz els i off=>cases hv with|ep hs hi=>exact .ep hs hi
 |_=>cases h
def setD(st:St)(d:Option Nat)(v:EV):St:=match d with|some d=>{st with env:=put st.env d v}|none=>st
theorem Rel.setD(R:Rel base E M w0 β st a.tmps w){d:Option Nat}{v:EV}{u:Value}(hd:∀t,d=some t→t<a.tmps.size)(hv:X9 w (X6 M w β) β v u)(hr:∀b,X1 v b→look st.H b≠none):
  Rel base E M w0 β (setD st d v) (a.put d u).tmps w:=by
 cases d with
 |none=>exact R
 |some d=>exact R.putv (hd d rfl) hv hr
theorem VK(a:Act)(d:Option Tmp)(u:Value):(a.put d u).tmps.size=a.tmps.size:=by cases d<;>simp[Act.put]
theorem put_defers(a:Act)(d:Option Tmp)(u:Value):(a.put d u).defers=a.defers:=by cases d<;>rfl
def VD(spec:Spec)(st:St)(f:Operand)(xs:List Operand):Option (Prop×YX):=
 match evO st f,Xbr st xs with
 |some (.one (.c (.sc (.func (.func f) ⟨[]⟩ ⟨[]⟩)))),some vs=>if vs.all Vr then spec f vs else none
 |_,_=>none
def Xec(st:St)(d:Option Nat)(r:YX):Option St:=
 match r with
 | .val v=>some (setD st d v)
 | .row z t esz els=>match d with
  |some d=>(match look st.H d with
   |none=>some {env:=put st.env d (.one (.own d)),H:=put st.H d (.row z t esz els)}
   |some _=>none)
  |none=>none
def opE(ty:TypeId→Option Ty)(spec:Spec)(st:St)(o:Oper):Option (Prop×St):=
 match o.op with
 | .alloc t=>(match o.dst with|some d=>(match K3 ty st d t with|some (st',v)=>some (True,setD st' (some d) v)|none=>none)|none=>none)
 | .box _ x=>(match o.dst with|some d=>(match K0 st d x with|some (st',v)=>some (True,setD st' (some d) v)|none=>none)|none=>none)
 | .store t x v=>(match evO st x,evO st v with
  |some vx,some vv=>(match KK ty st t vx vv with|some (p,st')=>some (p,setD st' o.dst .any)|none=>none)
  |_,_=>none)
 | .makeSlice t l c=>(match o.dst,evO st l,evO st c with
  |some d,some vl,some vc=>(match GF ty st d t vl vc with|some (p,st',v)=>some (p,setD st' (some d) v)|none=>none)
  |_,_,_=>none)
 | .buildSlice t len ps=>(match o.dst,JD st ps.toList with
  |some d,some l=>(match Xgy ty st d t len l with|some (p,st',v)=>some (p,setD st' (some d) v)|none=>none)
  |_,_=>none)
 | .call {callee:= .builtin .append,args:=⟨[s,x]⟩,argTypes:=⟨[t,t']⟩}=>(match o.dst,evO st s,evO st x with
  |some d,some vs,some vx=>if t=t' then(match Y4 ty st d t vs vx with|some (p,st',v)=>some (p,setD st' (some d) v)|none=>none)
   else(match K9 ty st d t t' vs vx with|some (p,st',v)=>some (p,setD st' (some d) v)|none=>none)
  |_,_,_=>none)
 | .makeMap _ none=>(match o.dst with|some d=>(match Yw st d with|some (st',v)=>some (True,setD st' (some d) v)|none=>none)|none=>none)
 | .mapUpdate t m k x| .insert t m k x=>(match evO st m,evO st k,evO st x with
  |some vm,some vk,some vx=>(match Xf3 ty st t vm vk vx with|some st'=>some (True,setD st' o.dst .any)|none=>none)
  |_,_,_=>none)
 | .slice t x lo hi none=>
  (match evO st x,(match lo with|none=>some none|some x=>(evO st x).map some),(match hi with|none=>some none|some x=>(evO st x).map some)with
   |some v,some l,some h=>(match Xfi ty st t v l h with
    |some (p,st',r)=>some (p,setD st' o.dst r)
    |none=>(match Kq ty t v l h with|some (p,r)=>some (p,setD st o.dst r)|none=>none))
   |_,_,_=>none)
 | .call {callee:= .value f,args:=xs, .. }=>(match VD spec st f xs.toList with
  |some (p,r)=>(match Xec st o.dst r with|some st'=>some (p,st')|none=>none)
  |none=>none)
 |_=>match KM ty st o with
  |some (p,v)=>some (p,setD st o.dst v)
  |none=>none
def Xwa(P:Program)(st:St)(o:Oper)(st':St):Prop:=
 ∀{base:Nat} {E M:Nat→Prop} {w0 w:World} {β:Vl} {a:Act} (K:Act→World→Prop) (Q:Exit→Act→World→Prop),(∀t,o.dst=some t→t<a.tmps.size)→Rel base E M w0 β st a.tmps w→
  (∀a' w' β',a'.defers=a.defers→a'.tmps.size=a.tmps.size→Rel base E M w0 β' st' a'.tmps w'→K a' w')→o.wp P a w K Q
theorem Ky{o:Oper}{st1 st':St}{v:EV}(h:Xon P st o st1 v)(he:st'=setD st1 o.dst v):Xwa P st o st':=by
 intro base E M w0 w β a K Q hd R J;obtain⟨u,w',β',hr,R',hv,href⟩:=h R;subst he;have:=J (a.put o.dst u) w' β' (put_defers ..) (VK ..) (R'.setD hd hv href);unfold Oper.wp;rcases hr with hr|⟨hr,rfl⟩
 ·rw[hr];exact this
 ·rw[hr];exact this
theorem Xs9(C:Vk P ty){o:Oper}{p:Prop}{v:EV}(h:KM ty st o=some (p,v))(hp:p):Xon P st o st v:=by
 intro base E M w0 w β a R;obtain⟨u,h1,h2,h3⟩:=Ybh C h hp R;exact⟨u,w,β, .inl h1,R,h2,h3⟩
theorem Xvk(S:XF P spec){o:Oper}{f:Operand}{xs ts:Array _}(ho:o.op= .call {callee:= .value f,args:=xs,argTypes:=ts}){p:Prop}{r:YX}(h:VD spec st f xs.toList=some (p,r))(hp:p){st':St}(hr:Xec st o.dst r=some st'):
  Xwa P st o st':=by
 intro base E M w0 w β a K Q hd R J;unfold VD at h;split at h
 ·rename_i g vs hf hvs;split at h
  ·rename_i hall;obtain⟨⟨fn,k1,k2,k3⟩,hcall⟩:=S g vs p r h;have hfe:=(evO_ok R hf).1.sc;have hargs:=Ya1 R hvs;have hrun:(execOp a.eval o).run P w= .ok (.enter g (xs.map a.eval)) w:=by
    simp only[execOp,ho,resolve,Sem.run_bind,hfe,Deferred.ofValue,Sem.run_pure,Result.andThen_ok,invoke,callFunc];have k2':¬fn.name= "runtime.NumGoroutine" :=by simpa using k2
    have k3':¬fn.body=none:=by intro q;rw[q]at k3;cases k3
    simp[program,Sem.run,k1,k2',k3']
   have hM:∀g,w.heap.size≤g→(X6 M w β g∨w.heap.size≤g):=fun g hg=> .inr hg;have hargs':Y5 (X9 w (fun g=>g<w.heap.size∧(X6 M w β g∨w.heap.size≤g)) noB) vs (xs.map a.eval).toList:=by
    refine⟨by simpa using hargs.1,fun i x y hx hy=>?_⟩;have h1:=hargs.2 i x y hx (by simpa using hy);have h2:=Xta (β':=noB) ((List.all_eq_true.1 hall) x (List.mem_of_getElem? hx)) h1;exact h2.mono (fun g hg=>⟨hg.1.1, .inl hg⟩) (fun _ _=>rfl) (fun _ _=>rfl)
   have hc:=hcall hp _ w (xs.map a.eval) hM hargs';unfold Oper.wp;rw[hrun];simp only[Oper.upon];refine hc.mono fun e w' ⟨u,he,hb,hres⟩=>?_;subst he;simp only;have hfr:Fr base E w0 w':=R.fr.trans (Fr.of_below (hb.mono R.le));cases r with
   |val v=>
    simp only[Xec,Option.some.injEq]at hr;subst hr;have hN:∀g,(g<w'.heap.size∧(X6 M w β g∨w.heap.size≤g))→X6 M w' β g:=by
     rintro g ⟨h1,h2|h2⟩
     ·exact⟨⟨h1,h2.1.2⟩,h2.2⟩
     ·refine⟨⟨h1,R.may g (.inl (Nat.le_trans R.le h2))⟩,fun b u' hb' hg=>?_⟩;have:=(R.at_ b u' g hb' hg).2;omega
    have hfree:∀g,X6 M w β g→X6 M w' β g:=fun g hg=>⟨⟨Nat.lt_of_lt_of_le hg.1.1 hb.size,hg.1.2⟩,hg.2⟩;have hcell:∀q:Addr,X6 M w β q.block→w'.cell? q=w.cell? q:=fun q hq=>hb.cell hq.1.1;have R':Rel base E M w0 β st a.tmps w':=by
     refine⟨hfr,Nat.le_trans R.le hb.size,fun t v hv=>?_,fun b ob hbo=>?_,fun b u' g h1 h2=>?_,R.inj,R.dom,R.cl,R.may⟩
     ·obtain⟨y,h1,h2⟩:=R.env t v hv;exact⟨y,h1,h2.mono hfree hcell fun _ _=>rfl⟩
     ·obtain⟨y,h1,h2⟩:=R.obj b ob hbo;exact⟨y,h1,h2.mono hfree hcell (fun g hg=>hb.block g (R.at_ b y g h1 hg).2) fun _ _ _ _ _ _=>rfl⟩
     ·obtain⟨h3,h4⟩:=R.at_ b u' g h1 h2;exact⟨h3,Nat.lt_of_lt_of_le h4 hb.size⟩
    have hv:X9 w' (X6 M w' β) β v u:=(X9.mono hres hN (fun _ _=>rfl) fun b hb'=>absurd hb' (X9.no_refs hres b));exact J _ w' β (put_defers ..) (VK ..) (R'.setD hd hv fun b hb'=>absurd hb' (X9.no_refs hres b))
   |row z t esz els=>
    simp only[Xec]at hr;split at hr
    ·rename_i d hdst;split at hr
     ·rename_i hH;injection hr with hr;subst hr;obtain⟨⟨cells,ho1,ho2⟩,hz⟩:=hres;have ho1':w'.ownsRow 0 t esz u els.length cells:=⟨ho1.1,ho1.2.imp id fun⟨g,cap,cur,h1,h2,h3⟩=>⟨g,cap,cur,h1,Nat.zero_le _,h3⟩⟩;have hblk:∀g,blk u=some g→w.heap.size≤g∧g<w'.heap.size:=by
       intro g hg;obtain⟨-,q1,q2⟩:=Gy ho1';refine⟨?_,q2 g hg⟩;exact(ho1.lt g (by rw[←q1];exact hg)).1
      have hN:∀g,((g<w'.heap.size∧(X6 M w β g∨w.heap.size≤g))∧blk u≠some g)→X6 M w' (upd β d u) g:=by
       rintro g ⟨⟨h1,h2⟩,h3⟩;refine⟨⟨h1,?_⟩,fun b u' hb' hg=>?_⟩
       ·rcases h2 with h2|h2
        ·exact h2.1.2
        ·exact R.may g (.inl (Nat.le_trans R.le h2))
       ·by_cases hbd:b=d
        ·subst hbd;rw[Yj]at hb';injection hb' with hb';subst hb';exact h3 hg
        ·rw[Kp _ _ hbd]at hb';rcases h2 with h2|h2
         ·exact h2.2 b u' hb' hg
         ·have:=(R.at_ b u' g hb' hg).2;omega
      have R':=R.step (w':=w') (β':=upd β d u) d (.row z t esz els) u hfr hb.size (fun g hg=>⟨fun h=>by have:=(hblk g h).1;have:=hg.1.1;omega,hb.block g hg.1.1⟩) (Yj ..) (fun c hc=>Kp _ _ hc)
       (fun c u' g hc h1 h2=>⟨hb.block g (R.at_ c u' g h1 h2).2,fun h=>by have:=(hblk g h).1;have:=(R.at_ c u' g h1 h2).2;omega⟩)
       (fun g hg=>⟨.inl (Nat.le_trans R.le (hblk g hg).1),(hblk g hg).2⟩) (.inr (Xew.of_none R.cl hH))
       (by
        have hf:=ho2.mono (w':=w') hN fun _ _=>rfl;exact⟨cells,ho1',hz,hf.el,hf.rel⟩)
       (fun xs x c h=>by cases h)
      have hput:(a.put o.dst u)=a.put (some d) u:=by rw[hdst]
      rw[hput];refine J _ w' (upd β d u) (put_defers ..) (VK ..) ?_;exact R'.setD (d:=some d) (a:=a) (fun t ht=>hd t (by rw[hdst];exact ht)) (.one ⟨Yj ..,(Gy ho1').1.elim fun A ⟨c,e⟩=>⟨A,_,c,e⟩⟩) (fun b hb'=>by cases hb' with|one hb'=>injection hb' with hb';subst hb';simp[Yb])
     ·cases hr
    ·cases hr
  ·cases h
 ·cases h
theorem Yfb(C:Vk P ty)(S:XF P spec){o:Oper}{p:Prop}{st':St}(h:opE ty spec st o=some (p,st'))(hp:p):Xwa P st o st':=by
 unfold opE at h;split at h
 ·rename_i t ho;split at h
  ·rename_i d hd;split at h
   ·rename_i st1 v h1;simp only[Option.some.injEq,Prod.mk.injEq]at h;obtain⟨rfl,rfl⟩:=h;exact Ky (Xv0 C ho h1) (by rw[hd])
   ·cases h
  ·cases h
 ·rename_i t x ho;split at h
  ·rename_i d hd;split at h
   ·rename_i st1 v h1;simp only[Option.some.injEq,Prod.mk.injEq]at h;obtain⟨rfl,rfl⟩:=h;exact Ky (Xvo ho h1) (by rw[hd])
   ·cases h
  ·cases h
 ·rename_i t x v ho;split at h
  ·rename_i vx vv hx hv;split at h
   ·rename_i p' st1 h1;simp only[Option.some.injEq,Prod.mk.injEq]at h;obtain⟨rfl,rfl⟩:=h;refine Ky (st1:=st1) (v:= .any) ?_ rfl;intro base E M w0 w β a R;obtain⟨e1, -⟩:=evO_ok R hx;obtain⟨e2,e3⟩:=evO_ok R hv;obtain⟨w',r1,r2⟩:=Xsb C R h1 hp e1 e2 e3;exact⟨undef,w',β, .inr ⟨by simp[execOp,ho,r1],rfl⟩,r2, .any,fun b hb=>by cases hb⟩
   ·cases h
  ·cases h
 ·rename_i t l c ho;split at h
  ·rename_i d vl vc hd hl hc;split at h
   ·rename_i p' st1 v h1;simp only[Option.some.injEq,Prod.mk.injEq]at h;obtain⟨rfl,rfl⟩:=h;refine Ky (st1:=st1) (v:=v) ?_ (by rw[hd]);intro base E M w0 w β a R;obtain⟨r,w',β',r1,r2,r3,r4⟩:=Xx8 C R h1 hp (evO_ok R hl).1 (evO_ok R hc).1;exact⟨r,w',β', .inl (by simp[execOp,ho,r1]),r2,r3,r4⟩
   ·cases h
  ·cases h
 ·rename_i t len ps ho;split at h
  ·rename_i d l hd hl;split at h
   ·rename_i p' st1 v h1;simp only[Option.some.injEq,Prod.mk.injEq]at h;obtain⟨rfl,rfl⟩:=h;refine Ky (st1:=st1) (v:=v) ?_ (by rw[hd]);intro base E M w0 w β a R;obtain⟨k1, -⟩:=Xoh R hl;obtain⟨r,w',β',r1,r2,r3,r4⟩:=Ybw C R h1 hp (us:=ps.map fun(p:Nat×Operand)=>(p.1,a.eval p.2)) (by simpa using k1);refine⟨r,w',β', .inl ?_,r2,r3,r4⟩;have:(ps.map fun x=>match x with|(i,x)=>(i,a.eval x))=ps.map fun(p:Nat×Operand)=>(p.1,a.eval p.2):=rfl;simp only[execOp,ho,Sem.run_bind,r1,Result.andThen_ok,Sem.run_pure]
   ·cases h
  ·cases h
 ·rename_i s x t t' ho;split at h
  ·rename_i d vs vx hd hs hx;split at h
   ·rename_i ht;subst ht;split at h
    ·rename_i p' st1 v h1;simp only[Option.some.injEq,Prod.mk.injEq]at h;obtain⟨rfl,rfl⟩:=h;refine Ky (st1:=st1) (v:=v) ?_ (by rw[hd]);intro base E M w0 w β a R;obtain⟨r,w',β',r1,r2,r3,r4⟩:=Xrb C R h1 hp (evO_ok R hs).1 (evO_ok R hx).1 o.type;exact⟨r,w',β', .inl (by simp[execOp,ho,resolve,invoke,builtin,r1]),r2,r3,r4⟩
    ·cases h
   ·split at h
    ·rename_i p' st1 v h1;simp only[Option.some.injEq,Prod.mk.injEq]at h;obtain⟨rfl,rfl⟩:=h;refine Ky (st1:=st1) (v:=v) ?_ (by rw[hd]);intro base E M w0 w β a R;obtain⟨r,w',β',r1,r2,r3,r4⟩:=Xrs C R h1 hp (evO_ok R hs).1 (evO_ok R hx).1 o.type;exact⟨r,w',β', .inl (by simp[execOp,ho,resolve,invoke,builtin,r1]),r2,r3,r4⟩
    ·cases h
  ·cases h
 ·rename_i t ho;split at h
  ·rename_i d hd;split at h
   ·rename_i st1 v h1;simp only[Option.some.injEq,Prod.mk.injEq]at h;obtain⟨rfl,rfl⟩:=h;refine Ky (st1:=st1) (v:=v) ?_ (by rw[hd]);intro base E M w0 w β a R;obtain⟨r,w',β',r1,r2,r3,r4⟩:=Xmd (P:=P) h1 R t;exact⟨r,w',β', .inl (by simp[execOp,ho,r1]),r2,r3,r4⟩
   ·cases h
  ·cases h
 ·rename_i t m k x ho;split at h
  ·rename_i vm vk vx hm hk hx;split at h
   ·rename_i st1 h1;simp only[Option.some.injEq,Prod.mk.injEq]at h;obtain⟨rfl,rfl⟩:=h;refine Ky (st1:=st1) (v:= .any) ?_ rfl;intro base E M w0 w β a R;obtain⟨w',r1,r2⟩:=Xrx C R h1 (evO_ok R hm).1 (evO_ok R hk).1 (evO_ok R hx).1;exact⟨undef,w',β, .inr ⟨by simp[execOp,ho,r1],rfl⟩,r2, .any,fun b hb=>by cases hb⟩
   ·cases h
  ·cases h
 ·rename_i t m k x ho;split at h
  ·rename_i vm vk vx hm hk hx;split at h
   ·rename_i st1 h1;simp only[Option.some.injEq,Prod.mk.injEq]at h;obtain⟨rfl,rfl⟩:=h;refine Ky (st1:=st1) (v:= .any) ?_ rfl;intro base E M w0 w β a R;obtain⟨w',r1,r2⟩:=Xrx C R h1 (evO_ok R hm).1 (evO_ok R hk).1 (evO_ok R hx).1;exact⟨undef,w',β, .inr ⟨by simp[execOp,ho,r1],rfl⟩,r2, .any,fun b hb=>by cases hb⟩
   ·cases h
  ·cases h
 ·rename_i t x lo hi ho;split at h
  ·rename_i v l h' hv1 hlo hhi;split at h
   ·rename_i p' st1 r' h1;simp only[Option.some.injEq,Prod.mk.injEq]at h;obtain⟨rfl,rfl⟩:=h;refine Ky (st1:=st1) (v:=r') ?_ rfl;intro base E M w0 w β a R;obtain⟨r,β',r1,r2,r3,r4⟩:=Yc1 C R h1 hp (evO_ok R hv1).1 (Xas R hlo) (Xas R hhi);exact⟨r,w,β', .inl (by simp[execOp,ho,r1]),r2,r3,r4⟩
   ·split at h
    ·rename_i p' r' h1;simp only[Option.some.injEq,Prod.mk.injEq]at h;obtain⟨rfl,rfl⟩:=h;refine Ky (st1:=st) (v:=r') ?_ rfl;intro base E M w0 w β a R;obtain⟨r,r1,r2,r3⟩:=Xih C h1 hp (evO_ok R hv1).1 (Xas R hlo) (Xas R hhi);exact⟨r,w,β, .inl (by simp[execOp,ho,r1]),R,r2,fun b hb=>(r3 b hb).elim⟩
    ·cases h
  ·cases h
 ·rename_i f xs ts _ ho;split at h
  ·rename_i p' r h1;split at h
   ·rename_i st1 h2;simp only[Option.some.injEq,Prod.mk.injEq]at h;obtain⟨rfl,rfl⟩:=h;exact Xvk S ho h1 hp h2
   ·cases h
  ·cases h
 ·split at h
  ·rename_i p' v h1;simp only[Option.some.injEq,Prod.mk.injEq]at h;obtain⟨rfl,rfl⟩:=h;exact Ky (Xs9 C h1 hp) rfl
  ·cases h
end
end
section
section
variable {P:Program} {base:Nat} {E M:Nat→Prop} {w0 w w':World} {β β':Vl} {st:St} {a:Act} {N:Nat→Prop} {ty:TypeId→Option Ty} {tm:Array Value} {spec:Spec}
def Kb(st:St)(ops:List Oper)(o:Oper):Option Bool:=
 match o.guard with
 |none=>some true
 |some (j,want)=>match ops[j]? with
  |some g=>match g.dst with
   |some t=>match look st.env t with
    |some (.one (.c (.sc (.bool b))))=>some (b==want)
    |some (.tup _)=>some false
    |_=>none
   |none=>none
  |none=>none
theorem Gj(R:Rel base E M w0 β st a.tmps w){ops:List Oper}{o:Oper}{c:Bool}(h:Kb st ops o=some c):Region.wanted o (yielded ops.toArray a.tmps)=c:=by
 unfold Kb at h;split at h
 ·rename_i hg;injection h with h;subst h;simp[Region.wanted,hg]
 ·rename_i j want hg;split at h
  ·rename_i g hj;split at h
   ·rename_i t ht;split at h
    ·rename_i b hb;injection h with h;subst h;obtain⟨u,hu,hr⟩:=R.env t _ hb;rw[hr.bool]at hu;simp only[Region.wanted,hg,yielded];have hj':ops.toArray[j]? =some g:=by simpa using hj
     rw[hj'];simp only[Option.bind_some,ht,hu];cases b<;>cases want<;>rfl
    ·rename_i l hb;injection h with h;subst h;obtain⟨u,hu,hr⟩:=R.env t _ hb;cases hr with| @tup _ us hl _=>
     simp only[Region.wanted,hg,yielded];have hj':ops.toArray[j]? =some g:=by simpa using hj
     rw[hj'];simp only[Option.bind_some,ht,hu];cases want<;>rfl
    ·cases h
   ·cases h
  ·cases h
def Xaf(ty:TypeId→Option Ty)(spec:Spec)(st:St)(o:Oper)(K:St→Prop):Prop:=
 match o.op with
 | .pick c x y=>(match evO st c with
  |some (.one (.c (.sc (.bool b))))=>if b=true then(match evO st x with|some v=>K (setD st o.dst v)|none=>False)else(match evO st y with|some v=>K (setD st o.dst v)|none=>False)
  |_=>False)
 |_=>match opE ty spec st o with
  |some (p,st')=>p∧K st'
  |none=>False
theorem Xl9(C:Vk P ty)(S:XF P spec){o:Oper}{K:St→Prop}(h:Xaf ty spec st o K)(R:Rel base E M w0 β st a.tmps w)(hd:∀t,o.dst=some t→t<a.tmps.size){K':Act→World→Prop}{Q:Exit→Act→World→Prop}
  (J:∀st' a' w' β',K st'→a'.defers=a.defers→a'.tmps.size=a.tmps.size→Rel base E M w0 β' st' a'.tmps w'→K' a' w'):o.wp P a w K' Q:=by
 unfold Xaf at h;split at h
 ·rename_i c x y ho;split at h
  ·rename_i b hc;have hcv:=(evO_ok R hc).1.bool;cases b with
   |true=>
    have h1:=h;rw[if_pos rfl]at h1;split at h1
    ·rename_i v hv;obtain⟨e1,e2⟩:=evO_ok R hv;have:(execOp a.eval o).run P w= .ok (.value (a.eval x)) w:=by simp[execOp,ho,hcv,asBool]
     unfold Oper.wp;rw[this];exact J _ (a.put o.dst (a.eval x)) w β h1 (put_defers ..) (VK ..) (R.setD hd e1 e2)
    ·exact h1.elim
   |false=>
    have h2:=h;rw[if_neg (by simp)]at h2;split at h2
    ·rename_i v hv;obtain⟨e1,e2⟩:=evO_ok R hv;have:(execOp a.eval o).run P w= .ok (.value (a.eval y)) w:=by simp[execOp,ho,hcv,asBool]
     unfold Oper.wp;rw[this];exact J _ (a.put o.dst (a.eval y)) w β h2 (put_defers ..) (VK ..) (R.setD hd e1 e2)
    ·exact h2.elim
  ·exact h.elim
 ·split at h
  ·rename_i p st' hop;exact Yfb C S hop h.1 K' Q hd R fun a' w' β' h1 h2 h3=>J st' a' w' β' h.2 h1 h2 h3
  ·exact h.elim
def Xbs(ty:TypeId→Option Ty)(spec:Spec)(ops:List Oper):List Oper→(St→Prop)→St→Prop
 |[],Q,st=>Q st
 |o::r,Q,st=>match Kb st ops o with
  |some true=>Xaf ty spec st o (Xbs ty spec ops r Q)
  |some false=>Xbs ty spec ops r Q (setD st o.dst (.tup []))
  |none=>False
def GY(n:Nat)(ops:List Oper):Bool:=ops.all fun o=>match o.dst with|some d=>Nat.blt d n|none=>true
theorem Xdn{n:Nat}{ops:List Oper}(h:GY n ops=true){o:Oper}(ho:o∈ops):∀t,o.dst=some t→t<n:=by
 intro t ht;have:=(List.all_eq_true.1 h) o ho;rw[ht]at this
 rwa[Nat.blt_eq]at this
theorem Ybb(C:Vk P ty)(S:XF P spec){ops:List Oper}{Q:St→Prop}{Q':Exit→Act→World→Prop}{n:Nat}{df:List Deferred}(hops:GY n ops=true)
  (hQ:∀st' a' w' β',Q st'→a'.defers=df→a'.tmps.size=n→Rel base E M w0 β' st' a'.tmps w'→Q' .normal a' w'):
  ∀(r:List Oper) (k:Nat) (st:St) (a:Act) (w:World) (β:Vl),ops.drop k=r→a.defers=df→a.tmps.size=n→Rel base E M w0 β st a.tmps w→Xbs ty spec ops r Q st→wpOps P ops.toArray Q' (List.range' k r.length) a w:=by
 intro r
 induction r with
 |nil=>
  intro k st a w β hk hdf hn R h;exact hQ st a w β h hdf hn R
 |cons o r ih=>
  intro k st a w β hk hdf hn R h;have hok:ops[k]? =some o:=by
   have:(ops.drop k)[0]? =some o:=by rw[hk];rfl
   simpa using this
  have hk':ops.drop (k+1)=r:=by
   have:(ops.drop k).drop 1=r:=by rw[hk];rfl
   simpa[Nat.add_comm]using this
  have hdst:=Xdn hops (List.mem_of_getElem? hok);rw[List.length_cons,List.range'_succ,wpOps_cons];unfold wpOp;have hok':ops.toArray[k]? =some o:=by simpa using hok
  rw[hok'];simp only;simp only[Xbs]at h;split at h
  ·rename_i hc;have hw:=Gj R hc
   ·rw[if_pos hw];refine .inl (Xl9 C S h R (by rw[hn];exact hdst) fun st' a' w' β' h1 h2 h3 h4=>ih (k+1) st' a' w' β' hk' (by rw[h2,hdf]) (by rw[h3,hn]) h4 h1)
  ·rename_i hc;have hw:=Gj R hc
   ·rw[if_neg (by rw[hw];simp)];exact ih (k+1) _ _ w β hk' (by rw[put_defers,hdf]) (by rw[VK,hn]) (R.setD (by rw[hn];exact hdst) (.tup (us:=#[]) rfl fun i x u h=>by simp at h) fun b hb=>by cases hb with|tup h1 h2=>simp at h1) h
  ·exact h.elim
structure St.Le(s s':St):Prop where
 env:∀t v,look s'.env t=some v→look s.env t=some v
 H:∀b ob,look s'.H b=some ob→look s.H b=some ob
 cl:Xwb s'
theorem Rel.le_{st':St}(R:Rel base E M w0 β st tm w)(h:St.Le st st'):∃β',Rel base E M w0 β' st' tm w:=by
 let β':Vl:=fun b=>if look st'.H b=none then none else β b
 have hin:∀b,look st'.H b≠none→β' b=β b:=fun b hb=>if_neg hb;have hsub:∀b u,β' b=some u→β b=some u:=by
  intro b u hb;by_cases h0:look st'.H b=none
  ·have:β' b=none:=if_pos h0;rw[this]at hb;cases hb
  ·rw[hin b h0]at hb;exact hb
 have hN:∀g,X6 M w β g→X6 M w β' g:=fun g hg=>⟨hg.1,fun b u hb=>hg.2 b u (hsub b u hb)⟩;refine⟨β',R.fr,R.le,fun t v hv=>?_,fun b ob hb=>?_,fun b u g hb hg=>R.at_ b u g (hsub b u hb) hg,fun b c u v g h1 h2=>R.inj b c u v g (hsub _ _ h1) (hsub _ _ h2),fun b u hb=>?_,h.cl,R.may⟩
 ·obtain⟨u,hu,hr⟩:=R.env t v (h.env t v hv);exact⟨u,hu,hr.mono hN (fun _ _=>rfl) fun b hb=>hin b (h.cl.env t v b hv hb)⟩
 ·obtain⟨u,hu,hr⟩:=R.obj b ob (h.H b ob hb);refine⟨u,by rw[hin b (by rw[hb];simp)];exact hu,hr.mono hN (fun _ _=>rfl) (fun _ _=>rfl) fun xs x c hxs hx hc=>hin c ?_⟩;subst hxs;exact h.cl.obj b xs x c hb hx hc
 ·intro h0;have:β' b=none:=if_pos h0;rw[this]at hb;cases hb
theorem Rel.adopt(R:Rel base E M w0 β st tm w){t b:Nat}{e:Nat}(ht:look st.env t=some (.one (.c (.sl true e []))))(hb:look st.H b=none)(el:TypeId)(esz:Nat):
  ∃β',Rel base E M w0 β' {env:=put st.env t (.one (.own b)),H:=put st.H b (.row true el esz [])} tm w:=by
 have hβ:β b=none:=by
  cases hq:β b with
  |none=>rfl
  |some y=>exact absurd hb (R.dom b y hq)
 obtain⟨u,hu,hr⟩:=R.env t _ ht;cases hr with|one hr=>
 have hr':XN w (X6 M w β) (.sl true e []) u:=hr;have hun:u= .slice none 0 0:=by cases hr';rfl
 subst hun;have R':=R.step (w':=w) (β':=upd β b (.slice none 0 0)) b (.row true el esz []) (.slice none 0 0) R.fr (Nat.le_refl _) (fun g hg=>⟨(by intro q;cases q),rfl⟩) (Yj ..) (fun c hc=>Kp _ _ hc)
  (fun c u' g hc h1 h2=>⟨rfl,(by intro q;cases q)⟩) (fun g hg=>by cases hg) (.inr (Xew.of_none R.cl hb))
  ⟨[],World.ownsRow_nil w 0 el esz,by simp,fun i es h=>by simp at h,fun i j c h=>by simp[cellAt]at h⟩ (fun xs x c h=>by cases h)
 have hlt:t<tm.size:=(Array.getElem?_eq_some_iff.1 hu).1;have R'':=R'.putv (d:=t) (v:= .one (.own b)) hlt (.one ⟨Yj ..,_,_,_,rfl⟩) (fun c hc=>by cases hc with|one hc=>injection hc with hc;subst hc;simp[Yb]);refine⟨upd β b (.slice none 0 0),?_⟩;have e:tm.setIfInBounds t (.slice none 0 0)=tm:=by
  apply Array.ext_getElem?;intro i;rw[Array.getElem?_setIfInBounds];by_cases hi:t=i
  ·subst hi;rw[if_pos rfl,if_pos hlt];exact hu.symm
  ·rw[if_neg hi]
 rw[e]at R'';exact R''
inductive Gh:St→St→Prop
 |le {s s':St} (h:St.Le s s'):Gh s s'
 |adopt {s:St} {t b e:Nat} (ht:look s.env t=some (.one (.c (.sl true e [])))) (hb:look s.H b=none) (el:TypeId) (esz:Nat):Gh s {env:=put s.env t (.one (.own b)),H:=put s.H b (.row true el esz [])}
 |frz {s:St} {b:Nat} {z:Bool} {t:TypeId} {esz:Nat} {els:List (List Cv)} (hb:look s.H b=some (.row z t esz els)):Gh s (Hr b (.sl z esz els) s)
 |trans {a b c:St} (h:Gh a b) (k:Gh b c):Gh a c
theorem Gh.ok{s s':St}(h:Gh s s'):∀{β:Vl},Rel base E M w0 β s tm w→∃β',Rel base E M w0 β' s' tm w:=by
 induction h with
 |le h=>intro β R;exact R.le_ h
 |adopt ht hb el esz=>intro β R;exact R.adopt ht hb el esz
 |frz hb=>intro β R;exact⟨_,(R.freeze hb).1⟩
 |trans _ _ ih1 ih2=>intro β R;obtain⟨β1,R1⟩:=ih1 R;exact ih2 R1
abbrev Xh4:=Exit→St→Prop
def Xfx(n:Nat)(base:Nat)(E M:Nat→Prop)(w0:World)(Q:Xh4):Exit→Act→World→Prop:=fun e a w=>∃st β,Q e st∧a.defers=[]∧a.tmps.size=n∧Rel base E M w0 β st a.tmps w
def Wp(P:Program)(n:Nat)(c:Code)(Q:Xh4)(st:St):Prop:=
 ∀⦃base:Nat⦄ ⦃E M:Nat→Prop⦄ ⦃w0 w:World⦄ ⦃β:Vl⦄ ⦃a:Act⦄,a.defers=[]→a.tmps.size=n→Rel base E M w0 β st a.tmps w→c.wp P (Xfx n base E M w0 Q) a w
variable {n:Nat} {Q:Xh4}
theorem Wp.gh{c:Code}{s s':St}(h:Gh s s')(k:Wp P n c Q s'):Wp P n c Q s:=by
 intro base E M w0 w β a hd hn R;obtain⟨β',R'⟩:=h.ok R;exact k hd hn R'
theorem Wp.skip{s:St}(h:Q .normal s):Wp P n .skip Q s:=by
 intro base E M w0 w β a hd hn R;exact wp_skip ⟨s,_,h,hd,hn,R⟩
theorem Wp.exit{s:St}{i:Nat}(h:Q (.exit i) s):Wp P n (.exit i) Q s:=by
 intro base E M w0 w β a hd hn R;exact wp_exit ⟨s,_,h,hd,hn,R⟩
theorem Wp.ret{s:St}(h:Q .ret s):Wp P n .ret Q s:=by
 intro base E M w0 w β a hd hn R;exact wp_ret ⟨s,_,h,hd,hn,R⟩
def XV(next:St→Prop)(Q:Xh4):Xh4:=fun e st=>match e with| .normal=>next st|e=>Q e st
def Xx(id:Nat)(Q:Xh4):Xh4:=fun e st=>match e with| .exit i=>if i=id then Q .normal st else Q (.exit i) st|e=>Q e st
theorem Wp.seq{x y:Code}{s:St}(h:Wp P n x (XV (Wp P n y Q) Q) s):Wp P n (.seq x y) Q s:=by
 intro base E M w0 w β a hd hn R;refine wp_seq (wp_mono (h hd hn R) fun e a' w' ⟨st,β',h1,h2,h3,h4⟩=>?_);cases e with
 |normal=>exact h1 h2 h3 h4
 |_=>exact⟨st,β',h1,h2,h3,h4⟩
theorem Wp.cond{c:Operand}{x y:Code}{s:St}{b:Bool}(hc:evO s c=some (bv b))(h1:b=true→Wp P n x Q s)(h2:b=false→Wp P n y Q s):Wp P n (.cond c x y) Q s:=by
 intro base E M w0 w β a hd hn R;have:=(evO_ok R hc).1.bool;exact wp_cond_split this (fun h=>h1 h hd hn R) (fun h=>h2 h hd hn R)
theorem Wp.block{id:Nat}{c:Code}{s:St}(h:Wp P n c (Xx id Q) s):Wp P n (.block id c) Q s:=by
 intro base E M w0 w β a hd hn R;refine wp_block (wp_mono (h hd hn R) fun e a' w' ⟨st,β',h1,h2,h3,h4⟩=>?_);cases e with
 |exit i=>
  simp only[Xx]at h1;simp only[Exit.inBlock];split
  ·rename_i hi;rw[if_pos hi]at h1;exact⟨st,β',h1,h2,h3,h4⟩
  ·rename_i hi;rw[if_neg hi]at h1;exact⟨st,β',h1,h2,h3,h4⟩
 |_=>exact⟨st,β',h1,h2,h3,h4⟩
theorem Wp.loop{c:Code}{s:St}(I:Nat→St→Prop)(k:Nat){s0:St}(hg:Gh s s0)(h0:I k s0)(hr:∀k s,I k s→Wp P n c (XV (fun s'=>∃s'' k',Gh s' s''∧k'<k∧I k' s'') Q) s):Wp P n (.loop c) Q s:=by
 intro base E M w0 w β a hd hn R;obtain⟨β0,R0⟩:=hg.ok R;intro b ks cs;have key:∀k (s:St) (a:Act) (w:World) (β:Vl),I k s→a.defers=[]→a.tmps.size=n→Rel base E M w0 β s a.tmps w→
   ∃e a' w',Xfx n base E M w0 Q e a' w'∧Arrives P (lone (b.at a (.code c:: .inLoop c::ks)) cs w) b ks cs e a' w':=by
  intro k
  induction k using Nat.strongRecOn with
  |_ k ih=>
   intro s a w β hI hd hn R;obtain⟨e,a₁,w₁,⟨st,β',h1,h2,h3,h4⟩,harr⟩:=hr k s hI hd hn R b (.inLoop c::ks) cs;cases e with
   |normal=>
    obtain⟨s2,k',g2,hlt,hI2⟩:=h1;obtain⟨β2,R2⟩:=g2.ok h4;obtain⟨e₂,a₂,w₂,hq₂,harr₂⟩:=ih k' hlt s2 a₁ w₁ β2 hI2 h2 h3 R2;exact⟨e₂,a₂,w₂,hq₂, .of_steps (Steps.trans harr (.one step_inLoop)) harr₂⟩
   |exit id=>exact⟨_,a₁,w₁,⟨st,β',h1,h2,h3,h4⟩, .pass (x:= .inLoop c) rfl (fun _ _=> .inl (by simp)) harr⟩
   |goto l=>exact⟨_,a₁,w₁,⟨st,β',h1,h2,h3,h4⟩, .pass (x:= .inLoop c) rfl (fun _ _=> .inl (by simp)) harr⟩
   |ret=>exact⟨_,a₁,w₁,⟨st,β',h1,h2,h3,h4⟩, .pass (x:= .inLoop c) rfl (fun _ _=> .inl (by simp)) harr⟩
   |panic ch=>exact⟨_,a₁,w₁,⟨st,β',h1,h2,h3,h4⟩, .pass (x:= .inLoop c) rfl (fun _ _=> .inl (by simp)) harr⟩
   |outgrown=>exact⟨_,a₁,w₁,⟨st,β',h1,h2,h3,h4⟩, .pass (x:= .inLoop c) rfl (fun _ _=> .inl (by simp)) harr⟩
 obtain⟨e,a',w',hq,harr⟩:=key k s0 a w β0 h0 hd hn R0;exact⟨e,a',w',hq, .of_steps (.one step_loop) harr⟩
theorem Wp.region(C:Vk P ty)(S:XF P spec){id:Nat}{ops:Array Oper}{s:St}(ho:GY n ops.toList=true)(h:Xbs ty spec ops.toList ops.toList (Q .normal) s):Wp P n (.region id ops false) Q s:=by
 intro base E M w0 w β a hd hn R;refine wp_region ?_;have:=Ybb (P:=P) C S (Q:=Q .normal) (Q':=Xfx n base E M w0 Q) (df:=[]) ho (fun st' a' w' β' h1 h2 h3 h4=>⟨st',β',h1,h2,h3,h4⟩) ops.toList 0 s a w β rfl hd hn R h;rw[List.range_eq_range'];simpa using this
end
end
end Go.Proofs.YtjhfcfpkgfpoiaaGreatDoor.Dw
