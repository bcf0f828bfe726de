/- Data of a call, and rules for code over it. No condition. -/
import Derived.Test.YtbkpmfjfpcoehaaGreatDoorDa
namespace Go.Proofs.YtbkpmfjfpcoehaaGreatDoor.Dw
open Go Go.RowKit
set_option maxRecDepth 100000
section
section
variable {P:Program} {base:Nat} {E M:Nat→Prop} {w0 w w':World} {β β':K3} {st:St} {a:Act} {N:Nat→Prop} {ty:TypeId→Option Ty} {tm:Array Value}
theorem Rel.putv(R:Rel base E M w0 β st tm w){d:Nat}{v:EV}{u:Value}(hd:d<tm.size)(hv:XY w (XP M w β) β v u)(hr:∀b,XR v b→look st.H b≠none):
  Rel base E M w0 β {st with env:=put st.env d v} (tm.setIfInBounds d u) w:=by
 refine⟨R.fr,R.le,fun t x hx=>?_,R.obj,R.at_,R.inj,R.dom,⟨fun t x b hx hb=>?_,R.cl.obj⟩,R.may⟩
 ·rw[X1]at hx;split at hx
  ·rename_i h;subst h;injection hx with hx;subst hx;exact⟨u,by simp[hd],hv⟩
  ·rename_i h;obtain⟨y,hy,hr⟩:=R.env t x hx;exact⟨y,by rw[db];simp[h,hy],hr⟩
 ·rw[X1]at hx;split at hx
  ·injection hx with hx;subst hx;exact hr b hb
  ·exact R.cl.env t x b hx hb
def U2(st:St)(b:Nat):Prop:=(∀t v,look st.env t=some v→¬XR v b)∧∀k xs x,look st.H k=some (.box xs)→x∈xs→refs x≠some b
theorem U2.of_none(R:DH st){b:Nat}(h:look st.H b=none):U2 st b:=
 ⟨fun t v hv hr=>R.env t v b hv hr h,fun k xs x hk hx hr=>R.obj k xs x b hk hx hr h⟩
theorem ORel.mono{ob:OB}{u:Value}{N':Nat→Prop}(h:ORel w N β ob u)(hN:∀g,N g→N' g)(hc:∀g,N g→w'.heap[g]? =w.heap[g]?)
  (hg:∀g,blk u=some g→w'.heap[g]? =w.heap[g]?) (hb:∀xs x b,ob= .box xs→x∈xs→refs x=some b→β' b=β b):ORel w' N' β' ob u:=by
 cases ob with
 |box xs=>
  obtain⟨g,arr,t,rfl,h1,h2⟩:=h;exact⟨g,arr,t,rfl,by rw[hg g rfl];exact h1,h2.1,fun i x y hx hy=>(h2.2 i x y hx hy).mono hN hc fun b hr=>hb xs x b rfl (bb hx) hr⟩
 |row z t esz els=>
  obtain⟨cells,h1,h2,h3,h4⟩:=h;refine⟨cells,⟨h1.1,?_⟩,h2,h3,fun i j c hc'=>by
   obtain⟨x,hx,hr⟩:=h4 i j c hc';exact⟨x,hx,hr.mono hN hc⟩⟩
  rcases h1.2 with h|⟨g,cap,cur,rfl,h5,h6,h7⟩
  ·exact .inl h
  ·exact .inr ⟨g,cap,cur,rfl,h5,by rw[hg g rfl];exact h6,h7⟩
 |map es=>
  obtain⟨g,arr,clock,rfl,h1,h2⟩:=h;exact⟨g,arr,clock,rfl,by rw[hg g rfl];exact h1,h2.1,fun i x y hx hy=>⟨(h2.2 i x y hx hy).1.mono hN hc,(h2.2 i x y hx hy).2.mono hN hc⟩⟩
theorem Rel.step(R:Rel base E M w0 β st tm w)(b:Nat)(ob:OB)(u:Value)
  (hfr:Fr base E w0 w') (hsz:w.heap.size≤w'.heap.size)
  (hfree:∀g,XP M w β g→blk u≠some g∧w'.heap[g]? =w.heap[g]?)
  (hβ:β' b=some u) (hβ':∀c,c≠b→β' c=β c)
  (hoth:∀c u' g,c≠b→β c=some u'→blk u'=some g→w'.heap[g]? =w.heap[g]?∧blk u≠some g)
  (hat:∀g,blk u=some g→(base≤g∨E g)∧g<w'.heap.size)
  (href:β b=some u∨U2 st b)
  (hobj:ORel w' (XP M w' β') β' ob u)
  (hcl:∀xs x c,ob= .box xs→x∈xs→refs x=some c→c=b∨look st.H c≠none):
  Rel base E M w0 β' {st with H:=put st.H b ob} tm w':=by
 have hN:∀g,XP M w β g→XP M w' β' g:=by
  intro g hg;refine⟨⟨bq hg.1.1 hsz,hg.1.2⟩,fun c u' hc=>?_⟩;by_cases h:c=b
  ·subst h;rw[hβ]at hc;injection hc with hc;subst hc;exact(hfree g hg).1
  ·rw[hβ' c h]at hc;exact hg.2 c u' hc
 have hc:∀g,XP M w β g→w'.heap[g]? =w.heap[g]?:=fun g hp=>(hfree _ hp).2;have hbb:∀c,(c=b→β b=some u∨False)→β' c=β c:=by
  intro c h;by_cases hcb:c=b
  ·subst hcb;rcases h rfl with h|h
   ·rw[hβ,h]
   ·exact h.elim
  ·exact hβ' c hcb
 refine⟨hfr,bd R.le hsz,fun t v hv=>?_,fun c oc hc'=>?_,fun c u' g hc' hg=>?_,fun c d u1 u2 g h1 h2 g1 g2=>?_,fun c u' hc'=>?_,⟨fun t v c hv hr=>?_,fun k xs x c hk hx hr=>?_⟩,R.may⟩
 ·obtain⟨y,hy,hr⟩:=R.env t v hv;refine⟨y,hy,hr.mono hN hc fun c hrc=>hbb c fun hcb=>?_⟩;rcases href with h|h
  ·exact .inl h
  ·subst hcb;exact absurd hrc (h.1 t v hv)
 ·rw[X1]at hc';split at hc'
  ·rename_i h;subst h;injection hc' with hc';subst hc';exact⟨u,hβ,hobj⟩
  ·rename_i h;obtain⟨y,hy,hr⟩:=R.obj c oc hc';refine⟨y,by rw[hβ' c (Ne.symm h)];exact hy,hr.mono hN hc (fun g hg=>(hoth c y g (Ne.symm h) hy hg).1) fun xs x d hxs hx hrd=>hbb d fun hdb=>?_⟩;rcases href with h'|h'
   ·exact .inl h'
   ·subst hdb;subst hxs;exact absurd hrd (h'.2 c xs x hc' hx)
 ·by_cases h:c=b
  ·subst h;rw[hβ]at hc';injection hc' with hc';subst hc';exact hat g hg
  ·rw[hβ' c h]at hc';obtain⟨h1,h2⟩:=R.at_ c u' g hc' hg;exact⟨h1,bq h2 hsz⟩
 ·by_cases hcb:c=b
  ·by_cases hdb:d=b
   ·rw[hcb,hdb]
   ·subst hcb;rw[hβ]at h1;injection h1 with h1;subst h1;rw[hβ' d hdb]at h2;exact absurd g1 (hoth d u2 g hdb h2 g2).2
  ·by_cases hdb:d=b
   ·subst hdb;rw[hβ]at h2;injection h2 with h2;subst h2;rw[hβ' c hcb]at h1;exact absurd g2 (hoth c u1 g hcb h1 g1).2
   ·rw[hβ' c hcb]at h1;rw[hβ' d hdb]at h2;exact R.inj c d u1 u2 g h1 h2 g1 g2
 ·rw[X1];split
  ·simp
  ·rename_i h;rw[hβ' c (Ne.symm h)]at hc';exact R.dom c u' hc'
 ·rw[X1];split
  ·simp
  ·exact R.cl.env t v c hv hr
 ·rw[X1];rw[X1]at hk;split
  ·simp
  ·rename_i h;split at hk
   ·injection hk with hk;rcases hcl xs x c hk hx hr with h'|h'
    ·exact absurd h'.symm h
    ·exact h'
   ·exact R.cl.obj k xs x c hk hx hr
def upd(β:K3)(b:Nat)(u:Value):K3:=fun c=>if c=b then some u else β c
theorem XZ(β:K3)(b:Nat)(u:Value):upd β b u b=some u:=if_pos rfl
theorem YG(β:K3){b c:Nat}(u:Value)(h:c≠b):upd β b u c=β c:=if_neg h
theorem Fr.alloc(h:Fr base E w0 w)(hb:base≤w.heap.size)(o:Obj):Fr base E w0 (w.alloc o):=
 h.trans ⟨rfl,rfl,rfl,by simp,fun k hk _=>gw _ _ _ (by omega)⟩
theorem Rel.new(R:Rel base E M w0 β st tm w){b:Nat}(hb:look st.H b=none)(o:Obj)(ob:OB)(u:Value)(hu:blk u=some w.heap.size)
  (hobj:∀β',(∀c,c≠b→β' c=β c)→β' b=some u→(∀g,XP M w β g→XP M (w.alloc o) β' g)→ORel (w.alloc o) (XP M (w.alloc o) β') β' ob u)
  (hcl:∀xs x c,ob= .box xs→x∈xs→refs x=some c→look st.H c≠none):
  Rel base E M w0 (upd β b u) {st with H:=put st.H b ob} tm (w.alloc o):=by
 have hN:∀g,XP M w β g→XP M (w.alloc o) (upd β b u) g:=by
  intro g hg;refine⟨⟨by have:=hg.1.1;simp;omega,hg.1.2⟩,fun c u' hc=>?_⟩;by_cases h:c=b
  ·subst h;rw[XZ]at hc;injection hc with hc;subst hc;rw[hu];intro q;injection q with q;have:=hg.1.1;omega
  ·rw[YG _ _ h]at hc;exact hg.2 c u' hc
 refine R.step b ob u (R.fr.alloc R.le o) (by simp) (fun g hg=>⟨?_,gw _ _ _ hg.1.1⟩) (XZ ..) (fun c hc=>YG _ _ hc) (fun c u' g hc h1 h2=>?_) (fun g hg=>?_) (.inr (U2.of_none R.cl hb)) ?_ ?_
 ·rw[hu];intro q;injection q with q;have:=hg.1.1;omega
 ·have hlt:=(R.at_ c u' g h1 h2).2;exact⟨gw _ _ _ hlt,by rw[hu];intro q;injection q with q;omega⟩
 ·rw[hu]at hg;injection hg with hg;subst hg;exact⟨.inl R.le,by simp⟩
 ·exact hobj _ (fun c hc=>YG _ _ hc) (XZ ..) hN
 ·exact fun xs x c h1 h2 h3=> .inr (hcl xs x c h1 h2 h3)
theorem O6(_R:Rel base E M w0 β st tm w){b:Nat}(hb:look st.H b=none){o:Obj}{β':K3}{xs:List Cx}{us:List Value}(h:Yx (Yq w (XP M w β) β) xs us)(hr:∀x∈xs,∀c,refs x=some c→look st.H c≠none)
  (h1:∀c,c≠b→β' c=β c) (h2:∀g,XP M w β g→XP M (w.alloc o) β' g):Yx (Yq (w.alloc o) (XP M (w.alloc o) β') β') xs us:=
 ⟨h.1,fun i x y hx hy=>(h.2 i x y hx hy).mono h2 (fun g hp=>gw _ _ _ hp.1.1) fun c hc=>h1 c fun q=>by subst q;exact hr x (bb hx) _ hc hb⟩
def I3(P:Program)(st:St)(o:Oper)(st':St)(v:EV):Prop:=
 ∀{base:Nat} {E M:Nat→Prop} {w0 w:World} {β:K3} {a:Act},Rel base E M w0 β st a.tmps w→
  ∃u w' β',((execOp a.eval o).run P w= .ok (.value u) w'∨((execOp a.eval o).run P w= .ok .skip w'∧u=undef))∧Rel base E M w0 β' st' a.tmps w'∧XY w' (XP M w' β') β' v u∧∀b,XR v b→look st'.H b≠none
def aH(st:St)(b:Nat)(xs:List Cx):Option (St×EV):=match look st.H b with|none=>some ({st with H:=put st.H b (.box xs)}, .one (.ptr b 0))|some _=>none
theorem Dl{b:Nat}{xs:List Cx}{st':St}{v:EV}(h:aH st b xs=some (st',v))(R:Rel base E M w0 β st tm w){arr:Array Value}(hx:Yx (Yq w (XP M w β) β) xs arr.toList)(hr:∀x∈xs,∀c,refs x=some c→look st.H c≠none)(t:TypeId):
  ∃β',Rel base E M w0 β' st' tm (w.alloc (.cells arr t))∧XY (w.alloc (.cells arr t)) (XP M (w.alloc (.cells arr t)) β') β' v (.pointer (some ⟨w.heap.size,0,none⟩))∧∀b,XR v b→look st'.H b≠none:=by
 unfold aH at h;split at h
 ·rename_i hb;simp only[ab,af]at h;obtain⟨rfl,rfl⟩:=h;refine⟨upd β b (.pointer (some ⟨w.heap.size,0,none⟩)),R.new hb _ _ _ rfl (fun β' h1 h2 h3=>?_) (fun ys x c hy hx' hc=>?_),?_,fun c hc=>?_⟩
  ·exact⟨w.heap.size,arr,t,rfl,cu _ _,O6 R hb hx hr h1 h3⟩
  ·injection hy with hy;subst hy;exact hr x hx' c hc
  ·exact .one ⟨w.heap.size,XZ ..,rfl⟩
  ·cases hc with|one h=>injection h with h;subst h;simp[X1]
 ·cases h
def EM(ty:TypeId→Option Ty)(st:St)(d:Nat)(t:TypeId):Option (St×EV):=match ty t with|some T=>aH st d (T.zero.map Cx.c)|none=>none
theorem Dx(C:KJ P ty){o:Oper}{d:Nat}{t:TypeId}(ho:o.op= .alloc t){st':St}{v:EV}(h:EM ty st d t=some (st',v)):I3 P st o st' v:=by
 intro base E M w0 w β a R;unfold EM at h;split at h
 ·rename_i T hT;obtain⟨info,z,i1,i2,i3,i4,i5,i6,i7,i8⟩:=(C t T hT).info;have hzv:(zeroValue t).run P w= .ok z w:=by simp[Go.zeroValue,Go.typeInfo,i1,i4]
  obtain⟨β',h1,h2,h3⟩:=Dl h R (arr:=z.cells) ((i5 w _).map_c) (fun x hx c hc=>(Vt hx hc).elim) t;refine⟨_,_,β', .inl ?_,h1,h2,h3⟩;simp[execOp,ho,Instr.alloc,hzv,newVar,newRow]
 ·cases h
def EC(st:St)(d:Nat)(x:Operand):Option (St×EV):=match evO st x with|some v=>(match Hg v with|some xs=>aH st d xs|none=>none)|none=>none
theorem Dk{o:Oper}{d:Nat}{t:TypeId}{x:Operand}(ho:o.op= .box t x){st':St}{v:EV}(h:EC st d x=some (st',v)):I3 P st o st' v:=by
 intro base E M w0 w β a R;unfold EC at h;split at h
 ·rename_i v1 hv1;split at h
  ·rename_i xs hxs;obtain⟨h1,h2⟩:=evO_ok R hv1;obtain⟨h3,h4⟩:=Zc hxs h1;obtain⟨β',k1,k2,k3⟩:=Dl h R (arr:=(a.eval x).cells) h3 (fun x hx c hc=>h2 c (h4 x hx c hc)) t;refine⟨_,_,β', .inl ?_,k1,k2,k3⟩;simp[execOp,ho,Instr.box,newVar,newRow]
  ·cases h
 ·cases h
end
end
section
section
variable {P:Program} {base:Nat} {E M:Nat→Prop} {w0 w w':World} {β β':K3} {st:St} {a:Act} {N:Nat→Prop} {ty:TypeId→Option Ty} {tm:Array Value}
def unC:Cx→Option Cv
 | .c v=>some v
 |_=>none
def CS:List Cx→Option (List Cv)
 |[]=>some []
 |x::r=>match unC x,CS r with|some v,some l=>some (v::l)|_,_=>none
theorem Dy:∀{xs:List Cx} {cs:List Cv},CS xs=some cs→xs=cs.map Cx.c:=by
 intro xs
 induction xs with
 |nil=>intro cs h;injection h with h;subst h;rfl
 |cons x r ih=>
  intro cs h;simp only[CS]at h;split at h
  ·rename_i v l hv hl;injection h with h;subst h;rw[ih hl];cases x<;>simp[unC]at hv;subst hv;rfl
  ·cases h
theorem Yx.of_map_c{cs:List Cv}{us:List Value}(h:Yx (Yq w N β) (cs.map Cx.c) us):Yx (XH w N) cs us:=
 ⟨by simpa using h.1,fun i x y hx hy=>h.2 i (.c x) y (by simp[hx]) hy⟩
def UH(xs:List Cv)(off:Nat)(ys:List Cv):List Cv:=xs.take off++ys++xs.drop (off+ys.length)
def U4(ty:TypeId→Option Ty)(st:St)(t:TypeId)(x v:EV):Option (Prop×St):=
 match ty t,Hg v with
 |some T,some ys=>
  match x with
  | .one (.ptr b off)=>(match look st.H b with
   |some (.box xs)=>some (ys.length=T.size∧off+ys.length≤xs.length,{st with H:=put st.H b (.box (over xs off ys))})
   |_=>none)
  | .rp b esz i off=>(match look st.H b,CS ys with
   |some (.row z t' esz' els),some cs=>some (esz'=esz∧ys.length=T.size∧i<els.length∧off+cs.length≤esz,{st with H:=put st.H b (.row z t' esz' (els.set i (UH (els.getD i []) off cs)))})
   |_,_=>none)
  |_=>none
 |_,_=>none
theorem Fr.wr{g:Nat}(h:Fr base E w0 w)(hg:base≤g∨E g)(o:Obj):Fr base E w0 (Sim.wr w g o):=
 h.trans ⟨rfl,rfl,rfl,by simp,fun k hk he=>Sim.YF (fun q=>by
  subst q;rcases hg with h|h
  ·omega
  ·exact he h) o⟩
theorem NK{xs ys:List Cv}{off j:Nat}(h:off+ys.length≤xs.length):(UH xs off ys)[j]? =if off≤j∧j<off+ys.length then ys[j - off]? else xs[j]?:=by
 unfold UH;rw[fg,gp,gp];have hk:(xs.take off).length=off:=by simp;omega
 rw[hk];by_cases h1:j<off
 ·rw[if_pos h1,if_neg (by omega),bm];simp[h1]
 ·rw[if_neg h1];by_cases h2:j<off+ys.length
  ·rw[if_pos (by omega),if_pos (by omega)]
  ·rw[if_neg (by omega),if_neg (by omega),cw]
   congr 1;omega
theorem BD{xs ys:List Cv}{off:Nat}(h:off+ys.length≤xs.length):(UH xs off ys).length=xs.length:=by simp[UH];omega
theorem T8{esz i i' off n j:Nat}(h1:off+n≤esz)(hj:j<esz):(i*esz+off≤i'*esz+j∧i'*esz+j<i*esz+off+n)↔(i'=i∧off≤j∧j<off+n):=by
 constructor
 ·rintro⟨a,b⟩;have hi:i'=i:=by
   rcases jd i' i with h|h|h
   ·have:=cr esz (show i'+1≤i from h);rw[dr,kn]at this;omega
   ·exact h
   ·have:=cr esz (show i+1≤i' from h);rw[dr,kn]at this;omega
  subst hi;omega
 ·rintro⟨rfl,a,b⟩;omega
theorem Ta(C:KJ P ty)(R:Rel base E M w0 β st tm w){t:TypeId}{x v:EV}{p:Prop}{st':St}(h:U4 ty st t x v=some (p,st'))(hp:p){u u':Value}(hx:XY w (XP M w β) β x u)(hv:XY w (XP M w β) β v u')(hrefs:∀b,XR v b→look st.H b≠none):
  ∃w',(Instr.storeAt t u u').run P w= .ok () w'∧Rel base E M w0 β st' tm w':=by
 unfold U4 at h;split at h
 ·rename_i T ys hT hys;obtain⟨hc,hcr⟩:=Zc hys hv;have hone:∀q∈u'.cells.toList,q.oneCell'=true:=by
   intro q hq;obtain⟨i,hi,rfl⟩:=be hq;have hl:=hc.1;exact(hc.2 i ys[i] _ (aa (by omega)) (aa hi)).one
  have hsz:=(C t T hT).sizeOf w;have hcl:=hc.1;simp only[cz]at hcl;split at h
  ·rename_i b off;split at h
   ·rename_i xs hb;simp only[ab,af]at h;obtain⟨rfl,rfl⟩:=h;obtain⟨p1,p2⟩:=hp;cases hx with|one hx=>
    obtain⟨g,hg,rfl⟩:=hx;obtain⟨arr,t',ha,hr⟩:=CQ (a:=⟨tm,[]⟩) R hb hg;have hal:=hr.1;simp only[cz]at hal;have hlt:g<w.heap.size:=(aw.1 ha).1;have hst:=Sim.Y0 P g off t' (0,0) u'.cells.toList 0 w arr ha hone (by simp;omega) (by simp);rw[dy]at hst;refine⟨Sim.wr w g (.cells (Sim.written arr off u'.cells.toList) t' (0,0)),?_,R.step b (.box (over xs off ys)) _ (R.fr.wr (R.at_ b _ g hg rfl).1 _) (by simp) (fun k hk=>?_) hg (fun c _=>rfl) (fun c u2 k hc' h1 h2=>?_) (fun k hk=>?_) (.inl hg) ?_ ?_⟩
    ·have hs:¬(u'.cells.size≠T.size):=by omega
     simp only[Instr.storeAt,Instr.sureAddr,ag,am,ae,storeVar,hsz];rw[if_neg hs];exact hst
    ·have hne:k≠g:=fun q=>hk.2 b _ hg (by rw[q];rfl);exact⟨by intro q;injection q with q;exact hne q.symm,Sim.YF hne _⟩
    ·have hne:k≠g:=fun q=>hc' (R.inj c b u2 _ k h1 hg h2 (by rw[q];rfl));exact⟨Sim.YF hne _,by intro q;injection q with q;exact hne q.symm⟩
    ·injection hk with hk;subst hk;exact⟨(R.at_ b _ g hg rfl).1,by simpa using hlt⟩
    ·have hN:∀k,XP M w β k→XP M (Sim.wr w g (.cells (Sim.written arr off u'.cells.toList) t' (0,0))) β k:=fun k hk=>⟨by simpa using hk.1,hk.2⟩;have hce:∀q,XP M w β q→(Sim.wr w g (.cells (Sim.written arr off u'.cells.toList) t' (0,0))).heap[q]? =w.heap[q]?:=fun q hq=>Sim.YF (fun e=>hq.2 b _ hg (by rw[e];rfl)) _;exact⟨g,_,t',rfl,Sim.Kx hlt _,(TU hr hc).mono fun x y h=>h.mono hN hce fun c _=>rfl⟩
    ·intro zs y c hz hy hc';injection hz with hz;subst hz;rcases Ip hy with h|h
     ·exact .inr (R.cl.obj b xs y c hb h hc')
     ·exact .inr (hrefs c (hcr y h c hc'))
   ·cases h
  ·rename_i b esz i off;split at h
   ·rename_i z t' esz' els cs hb hcs;simp only[ab,af]at h;obtain⟨rfl,rfl⟩:=h;obtain⟨rfl,p1,p2,p3⟩:=hp;obtain rfl:=Dy hcs;have hcv:=hc.of_map_c;have hcvl:=hcv.1;simp only[cz]at hcvl;cases hx with
    | @rp _ _ _ _ g n0 c0 hβ=>
    obtain⟨u2,hu2,cells,ho,hz,hl,hce⟩:=R.obj b _ hb;rw[hβ]at hu2;injection hu2 with hu2;subst hu2;rcases ho.2 with⟨h0,_⟩|⟨g',cap,cur,h0, -,hg',hn,hm,hcs',htk⟩
    ·cases h0
    injection h0 with h0 h01 h02;injection h0 with h0;injection h0 with h0;subst h0;subst h02;have hlt:g<w.heap.size:=(aw.1 hg').1;have hmul:i*esz'+esz'≤els.length*esz':=by
     have:=cr esz' (show i+1≤els.length from p2)
     rwa[dr,kn]at this
    have hmul2:els.length*esz'≤c0*esz':=cr _ hn;have hbnd:i*esz'+off+u'.cells.toList.length≤cur.size:=by simp;omega
    have hst:=Sim.Y0 P g (i*esz'+off) t' (0,0) u'.cells.toList 0 w cur hg' hone (by simpa using hbnd) (by simp);rw[dy]at hst;have hclen:=ho.1;refine⟨Sim.wr w g (.cells (Sim.written cur (i*esz'+off) u'.cells.toList) t' (0,0)),?_,R.step b (.row z t' esz' (els.set i (UH (els.getD i []) off cs))) _ (R.fr.wr (R.at_ b _ g hβ rfl).1 _) (by simp) (fun k hk=>?_) hβ (fun c _=>rfl) (fun c u2 k hc' h1 h2=>?_) (fun k hk=>?_) (.inl hβ) ?_ ?_⟩
    ·have hs:¬(u'.cells.size≠T.size):=by omega
     simp only[Instr.storeAt,Instr.sureAddr,ag,am,ae,storeVar,hsz];rw[if_neg hs];exact hst
    ·have hne:k≠g:=fun q=>hk.2 b _ hβ (by rw[q];rfl);exact⟨by intro q;injection q with q;exact hne q.symm,Sim.YF hne _⟩
    ·have hne:k≠g:=fun q=>hc' (R.inj c b u2 _ k h1 hβ h2 (by rw[q];rfl));exact⟨Sim.YF hne _,by intro q;injection q with q;exact hne q.symm⟩
    ·injection hk with hk;subst hk;exact⟨(R.at_ b _ g hβ rfl).1,by simpa using hlt⟩
    ·have hN:∀k,XP M w β k→XP M (Sim.wr w g (.cells (Sim.written cur (i*esz'+off) u'.cells.toList) t' (0,0))) β k:=fun k hk=>⟨by simpa using hk.1,hk.2⟩;have hcell:∀q,XP M w β q→(Sim.wr w g (.cells (Sim.written cur (i*esz'+off) u'.cells.toList) t' (0,0))).heap[q]? =w.heap[q]?:=fun q hq=>Sim.YF (fun e=>hq.2 b _ hβ (by rw[e];rfl)) _;have hel:(els.getD i []).length=esz':=hl i _ (by rw[ac,aa p2];rfl);have hge:els[i]? =some (els.getD i []):=by rw[ac,aa p2];rfl
     refine⟨((Sim.written cur (i*esz'+off) u'.cells.toList).toList.take (els.length*esz')),⟨?_, .inr ⟨g,c0,_,by simp[←h01],eu _,Sim.Kx hlt _,by simpa using hn,hm,by rw[Sim.Y7 hbnd];exact hcs',by simp⟩⟩,by rw[hz],fun i2 es hes=>?_,fun i2 j c hcc=>?_⟩
     ·have:=Sim.Y7 hbnd;simp only[cf,cz,jb];omega
     ·rw[cq]at hes;split at hes
      ·rename_i q;subst q
       try rw[if_pos p2]at hes
       injection hes with hes;subst hes;rw[BD (by omega)];exact hel
      ·exact hl i2 es hes
     ·have key:∀es,(els.set i (UH (els.getD i []) off cs))[i2]? =some es→es.length=esz'∧i2<els.length:=by
       intro es hes;have hi2:=(ah.1 hes).1;simp at hi2;refine⟨?_,hi2⟩;rw[cq]at hes;split at hes
       ·rename_i q;subst q
        try rw[if_pos p2]at hes
        injection hes with hes;subst hes;rw[BD (by omega)];exact hel
       ·exact hl i2 es hes
      unfold cellAt at hcc;cases hq:(els.set i (UH (els.getD i []) off cs))[i2]? with
      |none=>rw[hq]at hcc;cases hcc
      |some es=>
      rw[hq]at hcc;simp only[fa]at hcc;obtain⟨k1,k2⟩:=key es hq;have hj:j<esz':=by have:=(ah.1 hcc).1;omega
      have hidx:i2*esz'+j<els.length*esz':=by
       have:=cr esz' (show i2+1≤els.length from k2);rw[dr,kn]at this;omega
      have hw:((Sim.written cur (i*esz'+off) u'.cells.toList).toList.take (els.length*esz'))[i2*esz'+j]? =if i2=i∧off≤j∧j<off+cs.length then u'.cells.toList[j - off]? else cells[i2*esz'+j]?:=by
       rw[bm,if_pos hidx,eh,Sim.Yc hbnd];have hl':u'.cells.toList.length=cs.length:=by simp;omega
       rw[hl'];have hmb:=T8 (i:=i) (i':=i2) (off:=off) (n:=cs.length) (j:=j) p3 hj;by_cases hcase:i2=i∧off≤j∧j<off+cs.length
       ·rw[if_pos (hmb.2 hcase),if_pos hcase];obtain⟨rfl, -, -⟩:=hcase
        congr 1;omega
       ·rw[if_neg (fun q=>hcase (hmb.1 q)),if_neg hcase];rw[←htk,bm,if_pos (by simpa using hidx)];simp
      rw[hw];rw[cq]at hq;by_cases hii:i=i2
      ·subst hii;rw[if_pos rfl,if_pos p2]at hq;injection hq with hq;subst hq;rw[NK (by omega)]at hcc;by_cases hcase:off≤j∧j<off+cs.length
       ·rw[if_pos hcase]at hcc;rw[if_pos ⟨rfl,hcase⟩];obtain⟨y,hy,hr⟩:=hcv.get hcc;exact⟨y,hy,hr.mono hN hcell⟩
       ·rw[if_neg hcase]at hcc;rw[if_neg (fun q=>hcase q.2)];obtain⟨y,hy,hr⟩:=hce i j c (by unfold cellAt;rw[hge];exact hcc);exact⟨y,hy,hr.mono hN hcell⟩
      ·rw[if_neg hii]at hq;rw[if_neg (fun q=>hii q.1.symm)];obtain⟨y,hy,hr⟩:=hce i2 j c (by unfold cellAt;rw[hq];exact hcc);exact⟨y,hy,hr.mono hN hcell⟩
    ·intro zs y c hz' _ _;cases hz'
   ·cases h
  ·cases h
 ·cases h
end
end
section
section
variable {P:Program} {base:Nat} {E M:Nat→Prop} {w0 w w':World} {β β':K3} {st:St} {a:Act} {N:Nat→Prop} {ty:TypeId→Option Ty} {tm:Array Value}
def Ec(b:Nat)(x:Cx):Cx:=match refs x with|some c=>if c=b then .dead else x|none=>x
def Gz(b:Nat)(x:Cx):Bool:=match refs x with|some c=>!(c==b)|none=>true
def Ps(b:Nat):EV→Bool
 | .one x=>Gz b x
 | .agg xs=>xs.all (Gz b)
 |_=>false
def Rn(b:Nat):EV→EV
 | .one x=>if Gz b x then .one x else .any
 | .agg xs=> .agg (xs.map (Ec b))
 | .tup l=>if l.all (Ps b)then .tup l else .any
 | .ep esz els i off=> .ep esz els i off
 | .rp c esz i off=>if c=b then .any else .rp c esz i off
 | .any=> .any
def Ed(b:Nat):OB→OB
 | .box xs=> .box (xs.map (Ec b))
 | .row z t esz els=> .row z t esz els
 | .map es=> .map es
def B3{α β:Type}(f:α→β):List (Nat×α)→List (Nat×β)
 |[]=>[]
 |(k,v)::r=>(k,f v)::B3 f r
theorem Vw{α β:Type}(f:α→β)(l:List (Nat×α))(t:Nat):look (B3 f l) t=(look l t).map f:=by
 induction l with
 |nil=>rfl
 |cons p r ih=>
  obtain⟨k,v⟩:=p;simp only[B3,look];split
  ·rfl
  ·exact ih
def Je(b:Nat)(st:St):St:={env:=B3 (Rn b) st.env,H:=B3 (Ed b) st.H}
theorem YV{b:Nat}{x:Cx}(h:Gz b x=true):refs x≠some b:=by
 unfold Gz at h;split at h
 ·rename_i c hc;rw[hc];intro q;injection q with q;subst q;simp at h
 ·rename_i hn;rw[hn];simp
theorem GT{b:Nat}{x:Cx}{c:Nat}(h:refs (Ec b x)=some c):refs x=some c∧c≠b:=by
 unfold Ec at h;split at h
 ·rename_i d hd;split at h
  ·cases h
  ·rename_i hne;rw[hd]at h;injection h with h;subst h;exact⟨hd,hne⟩
 ·rename_i hn;rw[hn]at h;cases h
theorem Eb{b:Nat}{x:Cx}{u:Value}(h:Yq w N β x u):Yq w N β (Ec b x) u:=by
 unfold Ec;split
 ·split
  ·exact h.one
  ·exact h
 ·exact h
theorem Rm{b:Nat}{v:EV}{u:Value}(hv:XY w N β v u):XY w N β (Rn b v) u∧(∀c,XR (Rn b v) c→XR v c)∧¬XR (Rn b v) b:=by
 cases v with
 |one x=>
  simp only[Rn];split
  ·rename_i hx;exact⟨hv,fun c hc=>hc,fun hr=>by cases hr with|one hr=>exact YV hx hr⟩
  ·exact⟨.any,fun c hc=>(by cases hc),fun hr=>by cases hr⟩
 |agg xs=>
  cases hv with|agg hv=>
  refine⟨.agg ⟨by simpa using hv.1,fun i x y hx hy=>?_⟩,fun c hc=>?_,fun hr=>?_⟩
  ·rw[an]at hx;cases hq:xs[i]? with
   |none=>rw[hq]at hx;cases hx
   |some z=>rw[hq]at hx;simp at hx;subst hx;exact Eb (hv.2 i z y hq hy)
  ·cases hc with|agg hm hr=>
   obtain⟨z,hz,rfl⟩:=cy.1 hm;exact .agg hz (GT hr).1
  ·cases hr with|agg hm hr=>
   obtain⟨z,hz,rfl⟩:=cy.1 hm;exact(GT hr).2 rfl
 |tup l=>
  simp only[Rn];split
  ·rename_i hl;refine⟨hv,fun c hc=>hc,fun hr=>?_⟩;cases hr with| @tup _ x _ hm hr=>
   have:=(ao.1 hl) x hm;cases x with
   |one x=>cases hr with|one hr=>exact YV this hr
   |agg xs=>cases hr with|agg hm hr=>exact YV ((ao.1 this) _ hm) hr
   |_=>cases this
  ·exact⟨.any,fun c hc=>(by cases hc),fun hr=>by cases hr⟩
 |ep esz els i off=>exact⟨hv,fun c hc=>hc,fun hr=>by cases hr⟩
 |rp c esz i off=>
  simp only[Rn];split
  ·exact⟨.any,fun c hc=>(by cases hc),fun hr=>by cases hr⟩
  ·rename_i hne;exact⟨hv,fun c hc=>hc,fun hr=>by cases hr;exact hne rfl⟩
 |any=>exact⟨.any,fun c hc=>(by cases hc),fun hr=>by cases hr⟩
theorem L1{b:Nat}{ob:OB}{u:Value}(h:ORel w N β ob u):ORel w N β (Ed b ob) u:=by
 cases ob with
 |box xs=>
  obtain⟨g,arr,t,rfl,h1,h2⟩:=h;refine⟨g,arr,t,rfl,h1,by simpa using h2.1,fun i x y hx hy=>?_⟩;rw[an]at hx;cases hq:xs[i]? with
  |none=>rw[hq]at hx;cases hx
  |some z=>rw[hq]at hx;simp at hx;subst hx;exact Eb (h2.2 i z y hq hy)
 |row z t esz els=>exact h
 |map es=>exact h
theorem Rel.kill(R:Rel base E M w0 β st tm w)(b:Nat):Rel base E M w0 β (Je b st) tm w∧U2 (Je b st) b:=by
 have hE:∀t v,look (Je b st).env t=some v→∃v0,look st.env t=some v0∧Rn b v0=v:=by
  intro t v hv;simp only[Je,Vw,gd]at hv;exact hv
 have hH:∀k o,look (Je b st).H k=some o→∃o0,look st.H k=some o0∧Ed b o0=o:=by
  intro k o ho;simp only[Je,Vw,gd]at ho;exact ho
 have hD:∀k,look st.H k≠none→look (Je b st).H k≠none:=by
  intro k hk;simp only[Je,Vw];cases hq:look st.H k with
  |none=>exact absurd hq hk
  |some o=>simp
 have hbox:∀k xs,look (Je b st).H k=some (.box xs)→∃ys,look st.H k=some (.box ys)∧xs=ys.map (Ec b):=by
  intro k xs hk;obtain⟨o0,h1,h2⟩:=hH k _ hk;cases o0 with
  |box ys=>simp only[Ed]at h2;injection h2 with h2;exact⟨ys,h1,h2.symm⟩
  |row=>cases h2
  |map=>cases h2
 refine⟨⟨R.fr,R.le,fun t v hv=>?_,fun k o ho=>?_,R.at_,R.inj,fun k u hk=>hD k (R.dom k u hk),⟨fun t v c hv hr=>?_,fun k xs x c hk hx hr=>?_⟩,R.may⟩,fun t v hv hr=>?_,fun k xs x hk hx hr=>?_⟩
 ·obtain⟨v0,h1,rfl⟩:=hE t v hv;obtain⟨u,hu,hr⟩:=R.env t v0 h1;exact⟨u,hu,(Rm hr).1⟩
 ·obtain⟨o0,h1,rfl⟩:=hH k o ho;obtain⟨u,hu,hr⟩:=R.obj k o0 h1;exact⟨u,hu,L1 hr⟩
 ·obtain⟨v0,h1,rfl⟩:=hE t v hv;obtain⟨u,hu,hr'⟩:=R.env t v0 h1;exact hD c (R.cl.env t v0 c h1 ((Rm hr').2.1 c hr))
 ·obtain⟨ys,h1,rfl⟩:=hbox k xs hk;obtain⟨z,hz,rfl⟩:=cy.1 hx;exact hD c (R.cl.obj k ys z c h1 hz (GT hr).1)
 ·obtain⟨v0,h1,rfl⟩:=hE t v hv;obtain⟨u,hu,hr'⟩:=R.env t v0 h1;exact(Rm hr').2.2 hr
 ·obtain⟨ys,h1,rfl⟩:=hbox k xs hk;obtain⟨z,hz,rfl⟩:=cy.1 hx;exact(GT hr).2 rfl
end
end
section
section
variable {P:Program} {base:Nat} {E M:Nat→Prop} {w0 w w':World} {β β':K3} {st:St} {a:Act} {N:Nat→Prop} {ty:TypeId→Option Ty} {tm:Array Value}
structure Flat(w:World)(N:Nat→Prop)(esz:Nat)(els:List (List Cv))(news:List Value):Prop where
 len:news.length=els.length*esz
 el:∀(i:Nat) (es:List Cv),els[i]? =some es→es.length=esz
 rel:∀i j c,cellAt els i j=some c→∃x,news[i*esz+j]? =some x∧XH w N c x
theorem Flat.mono{N':Nat→Prop}{esz:Nat}{els:List (List Cv)}{news:List Value}(h:Flat w N esz els news)(hN:∀g,N g→N' g)(hc:∀g,N g→w'.heap[g]? =w.heap[g]?):Flat w' N' esz els news:=
 ⟨h.len,h.el,fun i j c hcc=>by obtain⟨x,h1,h2⟩:=h.rel i j c hcc;exact⟨x,h1,h2.mono hN hc⟩⟩
theorem cell_lt{esz:Nat}{els:List (List Cv)}(hel:∀(i:Nat) (es:List Cv),els[i]? =some es→es.length=esz){i j:Nat}{c:Cv}(h:cellAt els i j=some c):i<els.length∧j<esz:=by
 unfold cellAt at h;cases hq:els[i]? with
 |none=>rw[hq]at h;cases h
 |some es=>
  rw[hq]at h;simp only[fa]at h;have:=(ah.1 h).1;rw[hel i es hq]at this;exact⟨(ah.1 hq).1,this⟩
theorem IE{i j n esz:Nat}(hi:i<n)(hj:j<esz):i*esz+j<n*esz:=by
 have:=cr esz (show i+1≤n from hi);rw[dr,kn]at this;omega
theorem Flat.app{esz:Nat}{els els2:List (List Cv)}{xs news:List Value}(h:Flat w N esz els xs)(k:Flat w N esz els2 news):Flat w N esz (els++els2) (xs++news):=by
 refine⟨by rw[az,h.len,k.len,az,dr],fun i es he=>?_,fun i j c hc=>?_⟩
 ·rw[gp]at he;split at he
  ·exact h.el i es he
  ·exact k.el _ es he
 ·unfold cellAt at hc;rw[gp]at hc;split at hc
  ·rename_i hlt;have hc':cellAt els i j=some c:=hc;obtain⟨x,h1,h2⟩:=h.rel i j c hc';exact⟨x,by rw[bu (ah.1 h1).1];exact h1,h2⟩
  ·rename_i hge;have hc':cellAt els2 (i - els.length) j=some c:=hc;obtain⟨x,h1,h2⟩:=k.rel _ j c hc';have e:i*esz+j=xs.length+((i - els.length)*esz+j):=by
    rw[h.len,←di,←dr];congr 2;omega
   exact⟨x,by rw[e,bz (by omega)];simpa using h1,h2⟩
theorem Flat.one{esz:Nat}{els:List (List Cv)}{news:List Value}(h:Flat w N esz els news):∀u∈news,u.oneCell'=true:=by
 intro u hu;obtain⟨k,hk,rfl⟩:=be hu;have hz:0<esz:=by
  rcases gg esz with h0|h0
  ·have hl:=h.len;rw[h0,Nat.mul_zero]at hl;omega
  ·exact h0
 have hi:k / esz<els.length:=by rw[Nat.div_lt_iff_lt_mul hz,←h.len];exact hk
 have hj:k%esz<esz:=la _ hz;have hel:=h.el (k / esz) _ (aa hi);obtain⟨x,h1,h2⟩:=h.rel (k / esz) (k%esz) (els[k / esz][k%esz]'(by rw[hel];exact hj)) (by
  unfold cellAt;rw[aa hi];exact aa (by rw[hel];exact hj))
 have e:k / esz*esz+k%esz=k:=by rw[ke];exact Nat.div_add_mod _ _
 rw[e,aa hk]at h1;injection h1 with h1;rw[h1];exact h2.one
theorem XH.flat{esz:Nat}{els:List (List Cv)}{A:Addr}{n c:Nat}{z:Bool}(h:XH w N (.sl z esz els) (.slice (some A) n c)):
  els.length=n∧∃news,Flat w N esz els news∧∀j u,news[j]? =some u→w.cell? (A.add j)=some u:=by
 cases h with
 |sl us hl hcap hz hc hr=>
  refine⟨hl,(List.range (els.length*esz)).map (fun k=>us (k / esz) (k%esz)),⟨by simp,hz,fun i j c hcc=>?_⟩,fun k u hu=>?_⟩
  ·obtain⟨hi,hj⟩:=cell_lt hz hcc;have hp:0<esz:=by omega
   refine⟨us i j,?_,hr i j c hcc⟩;have e1:(i*esz+j) / esz=i:=by rw[ke,Nat.mul_add_div hp,Nat.div_eq_of_lt hj];rfl
   have e2:(i*esz+j)%esz=j:=by rw[ke,Nat.mul_add_mod,jv hj]
   simp[IE hi hj,e1,e2]
  ·have hk:=(ah.1 hu).1;simp at hk;simp[hk]at hu;subst hu;have hp:0<esz:=by
    rcases gg esz with h0|h0
    ·subst h0;simp at hk
    ·exact h0
   have hi:k / esz<els.length:=by rw[Nat.div_lt_iff_lt_mul hp];exact hk
   have hj:k%esz<esz:=la _ hp;have hel:=hz (k / esz) _ (aa hi);have:=hc (k / esz) (k%esz) (els[k / esz][k%esz]'(by rw[hel];exact hj)) (by
    unfold cellAt;rw[aa hi];exact aa (by rw[hel];exact hj))
   have e:k / esz*esz+k%esz=k:=by rw[ke];exact Nat.div_add_mod _ _
   rw[e]at this;exact this.2
theorem K5{z:Bool}{t:TypeId}{esz:Nat}{els:List (List Cv)}{u:Value}(h:ORel w N β (.row z t esz els) u):∃cells,w.ownsRow 0 t esz u els.length cells∧(z=true↔u= .slice none 0 0)∧Flat w N esz els cells:=by
 obtain⟨cells,h1,h2,h3,h4⟩:=h;exact⟨cells,h1,h2,h1.1,h3,h4⟩
def jP(st:St):EV→Option (Nat×List (List Cv))
 | .one (.c (.sl _ esz els))=>some (esz,els)
 | .one (.own b)=>(match look st.H b with|some (.row _ _ esz els)=>some (esz,els)|_=>none)
 |_=>none
theorem C8(R:Rel base E M w0 β st tm w){x:EV}{esz:Nat}{els:List (List Cv)}(h:jP st x=some (esz,els)){u:Value}(hx:XY w (XP M w β) β x u):
  (u= .slice none 0 0∧els=[])∨∃A c news,u= .slice (some A) els.length c∧Flat w (XP M w β) esz els news∧∀j v,news[j]? =some v→w.cell? (A.add j)=some v:=by
 unfold jP at h;split at h
 ·rename_i z esz' els';simp only[ab,af]at h;obtain⟨rfl,rfl⟩:=h;cases hx with|one hx=>
  have hx':XH w (XP M w β) (.sl z esz' els') u:=hx;cases u with
  |slice A n c=>
   cases A with
   |none=>cases hx';exact .inl ⟨rfl,rfl⟩
   |some A=>
    obtain⟨h1,news,h2,h3⟩:=hx'.flat;exact .inr ⟨A,c,news,by rw[h1],h2,h3⟩
  |_=>cases hx'
 ·rename_i b;split at h
  ·rename_i z t esz' els' hb;simp only[ab,af]at h;obtain⟨rfl,rfl⟩:=h;cases hx with|one hx=>
   obtain⟨hβ,_⟩:=hx;obtain⟨u2,hu2,ho⟩:=R.obj b _ hb;rw[hβ]at hu2;injection hu2 with hu2;subst hu2;obtain⟨cells,h1,h2,h3⟩:=K5 ho;rcases h1.2 with⟨rfl,h0⟩|⟨g,cap,cur,rfl, -⟩
   ·exact .inl ⟨rfl,cn h0⟩
   ·exact .inr ⟨⟨g,0,none⟩,cap,cells,rfl,h3,h1.cells rfl⟩
  ·cases h
 ·cases h
theorem run_append{t el ret:TypeId}{Te:Ty}(hu:P.underlying t=some (.slice el))(I:bB P el Te)(hsz:0<Te.size){u:Value}{n:Nat}{xs:List Value}(hown:w.ownsRow 0 el Te.size u n xs){u':Value}{els:List (List Cv)}
  (hs:(u'= .slice none 0 0∧els=[])∨∃A c news,u'= .slice (some A) els.length c∧Flat w N Te.size els news∧∀j v,news[j]? =some v→w.cell? (A.add j)=some v)
  (h63:n+els.length≤maxLen) (hbytes:(n+els.length)*Te.bytes≤140737488355328):
  ∃v' w' news,(Builtin.append_ #[t,t] ret #[u,u']).run P w= .ok v' w'∧w'.ownsRow 0 el Te.size v' (n+els.length) (xs++news)∧w.grownBy w' u.ownBlock∧
   (v'= .slice none 0 0↔u= .slice none 0 0∧els=[])∧(v'.ownBlock=u.ownBlock∨v'.ownBlock=some w.heap.size)∧Flat w N Te.size els news:=by
 obtain⟨info,z,i1,i2,i3,i4,i5,i6,i7,i8⟩:=I.info;have hzs:z.cells.size=Te.size:=by
  have:=(i5 w N).1;simp only[cz]at this;omega
 rcases hs with⟨rfl,rfl⟩|⟨A,c,news,rfl,hf,hc⟩
 ·refine⟨u,w,[],?_,by simpa using hown,⟨rfl,rfl,rfl,ak _,fun _ _ _=>rfl⟩,by simp, .inl rfl,⟨by simp,fun i es h=>by simp at h,fun i j c h=>by simp[cellAt]at h⟩⟩;rcases hown.2 with⟨rfl,rfl⟩|⟨g,cap,cur,rfl,_,_,hnc,_⟩
  ·simp[Builtin.append_,kg hu,sizeOf,typeInfo,i1,Builtin.lenOf,Builtin.firstCells]
  ·simp[Builtin.append_,kg hu,sizeOf,typeInfo,i1,Builtin.lenOf,Builtin.firstCells,hnc,storeCells]
 ·obtain⟨v',w',a1,a2,a3,a4,a5⟩:=run_append_own_at (P:=P) w 0 t ret el info z Te.size Te.bytes hu i1 i4 i2 i3 hzs hsz u n xs hown A els.length c news hf.len hc hf.one h63 hbytes (eu _);refine⟨v',w',news,a1,a2,a3,?_,a5,hf⟩;rw[a4];constructor
  ·rintro⟨h1,h2⟩;exact⟨h1,cn h2⟩
  ·rintro⟨h1,h2⟩;exact⟨h1,by rw[h2];rfl⟩
def RW(ty:TypeId→Option Ty)(st:St)(d:Nat)(t:TypeId)(s x:EV):Option (Prop×St×EV):=
 match elemOf ty t,jP st x with
 |some (none,el,Te),some (esz,els2)=>
  match s with
  | .one (.own b)=>
   (match look st.H b with
    |some (.row z el' esz' els)=>some (el'=el∧esz'=Te.size∧esz=Te.size∧0<Te.size∧els.length+els2.length≤maxLen∧(els.length+els2.length)*Te.bytes≤140737488355328,
      {Je b st with H:=put (Je b st).H b (.row (z&&els2.isEmpty) el esz' (els++els2))}, .one (.own b))
    |_=>none)
  | .one (.c (.sl true _ []))=>
   (match look st.H d with
    |none=>some (esz=Te.size∧0<Te.size∧els2.length≤maxLen∧els2.length*Te.bytes≤140737488355328,{st with H:=put st.H d (.row els2.isEmpty el esz els2)}, .one (.own d))
    |some _=>none)
  |_=>none
 |_,_=>none
theorem JU{t:TypeId}{size n:Nat}{v:Value}{xs:List Value}(h:w.ownsRow 0 t size v n xs):(∃A c,v= .slice A n c)∧blk v=v.ownBlock∧∀g,blk v=some g→g<w.heap.size:=by
 rcases h.2 with⟨rfl,rfl⟩|⟨g,cap,cur,rfl,_,hg,_⟩
 ·exact⟨⟨none,0,rfl⟩,rfl,fun g h=>by cases h⟩
 ·refine⟨⟨_,_,rfl⟩,rfl,fun g' h=>?_⟩;injection h with h;subst h;exact(aw.1 hg).1
theorem Rel.rowStep(R:Rel base E M w0 β st tm w){b:Nat}(hn:U2 st b){u v':Value}{el esz:Nat}{els els2:List (List Cv)}{z:Bool}{xs news:List Value}
  (hu:β b=some u∨(β b=none∧blk u=none)) (hown:w.ownsRow 0 el esz u els.length xs) (hf:Flat w (XP M w β) esz els xs) (hz:z=true↔u= .slice none 0 0)
  (hown':w'.ownsRow 0 el esz v' (els.length+els2.length) (xs++news)) (hg:w.grownBy w' u.ownBlock) (hnil:v'= .slice none 0 0↔u= .slice none 0 0∧els2=[])
  (hat:v'.ownBlock=u.ownBlock∨v'.ownBlock=some w.heap.size) (hf2:Flat w (XP M w β) esz els2 news):
  Rel base E M w0 (upd β b v') {st with H:=put st.H b (.row (z&&els2.isEmpty) el esz (els++els2))} tm w':=by
 obtain⟨-,o2,o3⟩:=JU hown;obtain⟨o1',o2',o3'⟩:=JU hown';have hub:∀g,blk u=some g→β b=some u:=fun g h=>by
  rcases hu with hu|⟨_,hu⟩
  ·exact hu
  ·rw[hu]at h;cases h
 have hfree:∀g,XP M w β g→blk v'≠some g∧w'.heap[g]? =w.heap[g]?:=by
  intro g hg';have hne:blk u≠some g:=fun h=>hg'.2 b u (hub g h) h;refine⟨fun h=>?_,hg.block g hg'.1.1 (by rw[←o2];exact fun q=>hne q.symm)⟩;rw[o2']at h;rcases hat with hat|hat
  ·rw[hat,←o2]at h;exact hne h
  ·rw[hat]at h;injection h with h;have:=hg'.1.1;omega
 have hN:∀g,XP M w β g→XP M w' (upd β b v') g:=by
  intro g hg';refine⟨⟨bq hg'.1.1 hg.size,hg'.1.2⟩,fun c u' hc=>?_⟩;by_cases h:c=b
  ·subst h;rw[XZ]at hc;injection hc with hc;subst hc;exact(hfree g hg').1
  ·rw[YG _ _ h]at hc;exact hg'.2 c u' hc
 have hc:∀g,XP M w β g→w'.heap[g]? =w.heap[g]?:=fun g hp=>(hfree _ hp).2;refine R.step b _ v' ?_ hg.size hfree (XZ ..) (fun c hc=>YG _ _ hc) (fun c u' g hcb h1 h2=>?_) (fun g h=>?_) (.inr hn) ?_ (fun ys y c h=>by cases h)
 ·refine R.fr.trans ⟨hg.os,hg.tape,hg.output,hg.size,fun k hk he=>hg.block k (by have:=R.le;omega) (fun q=>?_)⟩;have h:blk u=some k:=by rw[o2];exact q.symm
  rcases(R.at_ b u k (hub k h) h).1 with h'|h'
  ·omega
  ·exact he h'
 ·have hlt:=(R.at_ c u' g h1 h2).2;have hne:blk u≠some g:=fun h=>hcb (R.inj c b u' u g h1 (hub g h) h2 h);refine⟨hg.block g hlt (by rw[←o2];exact fun q=>hne q.symm),fun h=>?_⟩;rw[o2']at h;rcases hat with hat|hat
  ·rw[hat,←o2]at h;exact hne h
  ·rw[hat]at h;injection h with h;omega
 ·refine⟨?_,o3' g h⟩;rw[o2']at h;rcases hat with hat|hat
  ·rw[hat,←o2]at h;exact(R.at_ b u g (hub g h) h).1
  ·rw[hat]at h;injection h with h;subst h;exact .inl R.le
 ·have hff:=(hf.mono hN hc).app (hf2.mono hN hc);refine⟨xs++news,by rw[az];exact hown',?_,hff.el,hff.rel⟩;rw[hnil,aj,hz,List.isEmpty_iff]
theorem MC(C:KJ P ty)(R:Rel base E M w0 β st tm w){d:Nat}{t:TypeId}{s x v:EV}{p:Prop}{st':St}(h:RW ty st d t s x=some (p,st',v))(hp:p){u u':Value}(hs:XY w (XP M w β) β s u)(hx:XY w (XP M w β) β x u')(ret:TypeId):
  ∃r w' β',(Builtin.append_ #[t,t] ret #[u,u']).run P w= .ok r w'∧Rel base E M w0 β' st' tm w'∧XY w' (XP M w' β') β' v r∧∀b,XR v b→look st'.H b≠none:=by
 unfold RW at h;split at h
 ·rename_i el Te esz els2 he hsrc;obtain⟨-,hTe,hut⟩:=Yn C he w;have hsr:=C8 R hsrc hx;split at h
  ·rename_i b;split at h
   ·rename_i z el' esz' els hb;simp only[ab,af]at h;obtain⟨rfl,rfl,rfl⟩:=h;obtain⟨rfl,rfl,rfl,p4,p5,p6⟩:=hp;cases hs with|one hs=>
    obtain⟨hβ,_⟩:=hs;obtain⟨u2,hu2,ho⟩:=R.obj b _ hb;rw[hβ]at hu2;injection hu2 with hu2;subst hu2;obtain⟨cells,h1,h2,h3⟩:=K5 ho;obtain⟨v',w',news,r1,r2,r3,r4,r5,r6⟩:=run_append (P:=P) (ret:=ret) hut (C _ _ hTe) p4 h1 hsr p5 p6;obtain⟨R2,hn⟩:=R.kill b;have R3:=R2.rowStep hn (.inl hβ) h1 h3 h2 r2 r3 r4 r5 r6;refine⟨v',w',_,r1,R3, .one ⟨XZ ..,?_⟩,fun c hc=>?_⟩
    ·obtain⟨⟨A,c,e⟩, -⟩:=JU r2;exact⟨A,_,c,e⟩
    ·cases hc with|one hc=>injection hc with hc;subst hc;simp[X1]
   ·cases h
  ·split at h
   ·rename_i hd;simp only[ab,af]at h;obtain⟨rfl,rfl,rfl⟩:=h;obtain⟨rfl,p4,p5,p6⟩:=hp;cases hs with|one hs=>
    have hs':XH w (XP M w β) (.sl true _ []) u:=hs;cases hs';have hβ:β d=none:=by
     cases hq:β d with
     |none=>rfl
     |some y=>exact absurd hd (R.dom d y hq)
    have h1:w.ownsRow 0 el Te.size (.slice none 0 0) 0 []:=World.ownsRow_nil w 0 el Te.size;obtain⟨v',w',news,r1,r2,r3,r4,r5,r6⟩:=run_append (P:=P) (ret:=ret) hut (C _ _ hTe) p4 h1 hsr (by omega) (by rw[bf];exact p6);have hf0:Flat w (XP M w β) Te.size [] []:=⟨by simp,fun i es h=>by simp at h,fun i j c h=>by simp[cellAt]at h⟩;have R3:=R.rowStep (els:=[]) (z:=true) (U2.of_none R.cl hd) (.inr ⟨hβ,rfl⟩) h1 hf0 (by simp) r2 r3 r4 r5 r6;refine⟨v',w',_,r1,by simpa using R3, .one ⟨XZ ..,?_⟩,fun c hc=>?_⟩
    ·obtain⟨⟨A,c,e⟩, -⟩:=JU r2;exact⟨A,_,c,e⟩
    ·cases hc with|one hc=>injection hc with hc;subst hc;simp[X1]
   ·cases h
  ·cases h
 ·cases h
end
end
section
section
variable {P:Program} {base:Nat} {E M:Nat→Prop} {w0 w w':World} {β β':K3} {st:St} {a:Act} {N:Nat→Prop} {ty:TypeId→Option Ty} {tm:Array Value}
def Bc(b:Nat)(v:Cv)(x:Cx):Cx:=match x with| .own c=>if c=b then .c v else .own c|x=>x
def IK(b:Nat)(v:Cv):EV→EV
 | .one x=> .one (Bc b v x)
 | .agg xs=> .agg (xs.map (Bc b v))
 | .tup l=>if l.all (Ps b)then .tup l else .any
 | .ep esz els i off=> .ep esz els i off
 | .rp c esz i off=>if c=b then .any else .rp c esz i off
 | .any=> .any
def UQ(b:Nat)(v:Cv):OB→OB
 | .box xs=> .box (xs.map (Bc b v))
 | .row z t esz els=> .row z t esz els
 | .map es=> .map es
def del{α:Type}(b:Nat):List (Nat×α)→List (Nat×α)
 |[]=>[]
 |(k,v)::r=>if k=b then del b r else(k,v)::del b r
theorem Rk{α:Type}(b:Nat)(l:List (Nat×α))(t:Nat):look (del b l) t=if t=b then none else look l t:=by
 induction l with
 |nil=>simp[del,look]
 |cons p r ih=>
  obtain⟨k,v⟩:=p;simp only[del];by_cases h:k=b
  ·rw[if_pos h,ih];by_cases g:t=b
   ·rw[if_pos g,if_pos g]
   ·rw[if_neg g,if_neg g];simp only[look];rw[if_neg (by rw[h];exact fun q=>g q.symm)]
  ·rw[if_neg h];simp only[look];by_cases g:k=t
   ·rw[if_pos g,if_pos g,if_neg (by rw[←g];exact h)]
   ·rw[if_neg g,if_neg g,ih]
def Vx(b:Nat)(v:Cv)(st:St):St:={env:=B3 (IK b v) st.env,H:=B3 (UQ b v) (del b st.H)}
def less(β:K3)(b:Nat):K3:=fun c=>if c=b then none else β c
theorem Rel.freeze(R:Rel base E M w0 β st tm w){b:Nat}{z:Bool}{t:TypeId}{esz:Nat}{els:List (List Cv)}(hb:look st.H b=some (.row z t esz els)):
  Rel base E M w0 (less β b) (Vx b (.sl z esz els) st) tm w∧
   (∀x u,Yq w (XP M w β) β x u→(∀c,refs x=some c→look st.H c≠none)→Yq w (XP M w (less β b)) (less β b) (Bc b (.sl z esz els) x) u∧∀c,refs (Bc b (.sl z esz els) x)=some c→look (Vx b (.sl z esz els) st).H c≠none):=by
 obtain⟨u,hu,ho⟩:=R.obj b _ hb;obtain⟨cells,o1,o2,o3⟩:=K5 ho;obtain⟨⟨A,c0,he⟩,o4,o5⟩:=JU o1;have hN:∀g,XP M w β g→XP M w (less β b) g:=fun g hg=>⟨hg.1,fun c u' hc=>by
  unfold less at hc;split at hc
  ·cases hc
  ·exact hg.2 c u' hc⟩
 have hbl:∀g,blk u=some g→XP M w (less β b) g:=fun g hg=>⟨⟨o5 g hg,R.may g (R.at_ b u g hu hg).1⟩,fun c u' hc=>by
  unfold less at hc;split at hc
  ·cases hc
  ·rename_i hne;exact fun h=>hne (R.inj c b u' u g hc hu h hg)⟩
 have hv:XH w (XP M w (less β b)) (.sl z esz els) u:=by
  rcases o1.2 with⟨rfl,h0⟩|⟨g,cap,cur,rfl, -,hg,hn, -⟩
  ·have:els=[]:=cn h0;subst this;have:z=true:=o2.2 rfl;subst this;exact .nil
  ·have hzf:z=false:=by
    cases hz:z with
    |false=>rfl
    |true=>have:=o2.1 hz;cases this
   subst hzf;refine .sl (fun i j=>cells.getD (i*esz+j) undef) rfl hn o3.el (fun i j c hc=>?_) (fun i j c hc=>?_)
   ·obtain⟨x,h1,h2⟩:=o3.rel i j c hc;refine⟨hbl g rfl,?_⟩;rw[o1.cells rfl _ _ h1,ac,h1];rfl
   ·obtain⟨x,h1,h2⟩:=o3.rel i j c hc;rw[ac,h1];exact h2.mono hN fun p _=>rfl
 have hlk:∀c,look (Vx b (.sl z esz els) st).H c=if c=b then none else(look st.H c).map (UQ b (.sl z esz els)):=by
  intro c;simp only[Vx,Vw,Rk];split<;>rfl
 have hX:∀x u,Yq w (XP M w β) β x u→(∀c,refs x=some c→look st.H c≠none)→Yq w (XP M w (less β b)) (less β b) (Bc b (.sl z esz els) x) u∧∀c,refs (Bc b (.sl z esz els) x)=some c→look (Vx b (.sl z esz els) st).H c≠none:=by
  intro x y hx hr;have hlook:∀c,c≠b→look st.H c≠none→look (Vx b (.sl z esz els) st).H c≠none:=by
   intro c hcb hc;rw[hlk,if_neg hcb];cases hq:look st.H c with
   |none=>exact absurd hq hc
   |some o=>simp
  have hle:∀c,c≠b→less β b c=β c:=fun c hc=>if_neg hc;cases x with
  |c v=>exact⟨XH.mono hx hN fun p _=>rfl,fun c hc=>by cases hc⟩
  |own c=>
   by_cases hcb:c=b
   ·subst hcb;obtain⟨h1,_⟩:=hx;rw[hu]at h1;injection h1 with h1;subst h1;simp only[Bc];rw[if_pos trivial];exact⟨hv,fun c hc=>by cases hc⟩
   ·simp only[Bc];rw[if_neg hcb];exact⟨⟨by rw[hle c hcb];exact hx.1,hx.2⟩,fun d hd=>by injection hd with hd;subst hd;exact hlook _ hcb (hr _ rfl)⟩
  |ptr c off=>
   have hcb:c≠b:=by
    rintro rfl;obtain⟨g,h1,_⟩:=hx;rw[hu,he]at h1;cases h1
   obtain⟨g,h1,h2⟩:=hx;exact⟨⟨g,by rw[hle c hcb];exact h1,h2⟩,fun d hd=>by injection hd with hd;subst hd;exact hlook _ hcb (hr _ rfl)⟩
  |map c=>
   have hcb:c≠b:=by
    rintro rfl;obtain⟨g,h1,_⟩:=hx;rw[hu,he]at h1;cases h1
   obtain⟨g,h1,h2⟩:=hx;exact⟨⟨g,by rw[hle c hcb];exact h1,h2⟩,fun d hd=>by injection hd with hd;subst hd;exact hlook _ hcb (hr _ rfl)⟩
  |dead=>exact⟨hx,fun c hc=>by cases hc⟩
 have hXs:∀xs us,Yx (Yq w (XP M w β) β) xs us→(∀x∈xs,∀c,refs x=some c→look st.H c≠none)→Yx (Yq w (XP M w (less β b)) (less β b)) (xs.map (Bc b (.sl z esz els))) us:=by
  intro xs us h hr;refine⟨by simpa using h.1,fun i x y hx hy=>?_⟩;rw[an]at hx;cases hq:xs[i]? with
  |none=>rw[hq]at hx;cases hx
  |some x0=>rw[hq]at hx;simp at hx;subst hx;exact(hX x0 y (h.2 i x0 y hq hy) (hr x0 (bb hq))).1
 have hV:∀v u,XY w (XP M w β) β v u→(∀c,XR v c→look st.H c≠none)→XY w (XP M w (less β b)) (less β b) (IK b (.sl z esz els) v) u∧∀c,XR (IK b (.sl z esz els) v) c→look (Vx b (.sl z esz els) st).H c≠none:=by
  intro v y hvv hr;have clean:∀v,Ps b v=true→¬XR v b:=by
   intro v hcl hrr;cases v with
   |one x=>cases hrr with|one h=>exact YV hcl h
   |agg xs=>cases hrr with|agg hm h=>exact YV ((ao.1 hcl) _ hm) h
   |_=>cases hcl
  have mono:¬XR v b→XY w (XP M w (less β b)) (less β b) v y∧∀c,XR v c→look (Vx b (.sl z esz els) st).H c≠none:=by
   intro hnb;refine⟨hvv.mono hN (fun p _=>rfl) fun c hc=>if_neg (fun(q:c=b)=>hnb (q▸hc)),fun c hc=>?_⟩;rw[hlk,if_neg (fun(q:c=b)=>hnb (q▸hc))];cases hq:look st.H c with
   |none=>exact absurd hq (hr c hc)
   |some o=>simp
  cases v with
  |one x=>
   cases hvv with|one hx=>
   obtain⟨h1,h2⟩:=hX x y hx (fun c hc=>hr c (.one hc));exact⟨.one h1,fun c hc=>by cases hc with|one hc=>exact h2 c hc⟩
  |agg xs=>
   cases hvv with| @agg _ us hx=>
   refine⟨.agg (hXs _ _ hx fun x hx c hc=>hr c (.agg hx hc)),fun c hc=>?_⟩;cases hc with|agg hm hc=>
   obtain⟨x0,hx0,rfl⟩:=cy.1 hm;obtain⟨i,hi,rfl⟩:=be hx0;obtain⟨y,hy,hr'⟩:=hx.get (aa hi);exact(hX _ y hr' fun c hc=>hr c (.agg (ba hi) hc)).2 c hc
  |tup l=>
   simp only[IK];split
   ·rename_i hl;refine mono fun hrr=>?_;cases hrr with|tup hm hrr=>exact clean _ ((ao.1 hl) _ hm) hrr
   ·exact⟨.any,fun c hc=>by cases hc⟩
  |ep esz' els' i off=>exact mono fun hrr=>by cases hrr
  |rp c esz' i off=>
   simp only[IK];split
   ·exact⟨.any,fun c hc=>by cases hc⟩
   ·rename_i hne;exact mono fun hrr=>by cases hrr;exact hne rfl
  |any=>exact⟨.any,fun c hc=>by cases hc⟩
 have hE:∀t v,look (Vx b (.sl z esz els) st).env t=some v→∃v0,look st.env t=some v0∧IK b (.sl z esz els) v0=v:=by
  intro t v hv;simp only[Vx,Vw,gd]at hv;exact hv
 refine⟨⟨R.fr,R.le,fun t v hv=>?_,fun c o hc=>?_,fun c u' g hc hg=>?_,fun c d u1 u2 g h1 h2 g1 g2=>?_,fun c u' hc=>?_,⟨fun t v c hv hr=>?_,fun k xs x c hk hx hr=>?_⟩,R.may⟩,hX⟩
 ·obtain⟨v0,h1,rfl⟩:=hE t v hv;obtain⟨y,hy,hr⟩:=R.env t v0 h1;exact⟨y,hy,(hV v0 y hr fun c hc=>R.cl.env t v0 c h1 hc).1⟩
 ·rw[hlk]at hc;split at hc
  ·cases hc
  ·rename_i hcb;simp only[gd]at hc;obtain⟨o0,h1,rfl⟩:=hc;obtain⟨y,hy,hr⟩:=R.obj c o0 h1;refine⟨y,by simp only[less];rw[if_neg hcb];exact hy,?_⟩;cases o0 with
   |box xs=>
    obtain⟨g,arr,t',rfl,k1,k2⟩:=hr;exact⟨g,arr,t',rfl,k1,hXs _ _ k2 fun x hx d hd=>R.cl.obj c xs x d h1 hx hd⟩
   |row z' t' esz' els'=>exact ORel.mono hr hN (fun p _=>rfl) (fun g _=>rfl) (fun xs x b h=>by cases h)
   |map es=>exact ORel.mono hr hN (fun p _=>rfl) (fun g _=>rfl) (fun xs x b h=>by cases h)
 ·unfold less at hc;split at hc
  ·cases hc
  ·exact R.at_ c u' g hc hg
 ·unfold less at h1 h2;split at h1
  ·cases h1
  ·split at h2
   ·cases h2
   ·exact R.inj c d u1 u2 g h1 h2 g1 g2
 ·unfold less at hc;split at hc
  ·cases hc
  ·rename_i hcb;rw[hlk,if_neg hcb];cases hq:look st.H c with
   |none=>exact absurd hq (R.dom c u' hc)
   |some o=>simp
 ·obtain⟨v0,h1,rfl⟩:=hE t v hv;obtain⟨y,hy,hr'⟩:=R.env t v0 h1;exact(hV v0 y hr' fun c hc=>R.cl.env t v0 c h1 hc).2 c hr
 ·rw[hlk]at hk;split at hk
  ·cases hk
  ·simp only[gd]at hk;obtain⟨o0,h1,h2⟩:=hk;cases o0 with
   |box ys=>
    simp only[UQ]at h2;injection h2 with h2;subst h2;obtain⟨x0,hx0,rfl⟩:=cy.1 hx;obtain⟨y,hy,hr'⟩:=R.obj k _ h1;obtain⟨g,arr,t',rfl,k1,k2⟩:=hr';obtain⟨i,hi,rfl⟩:=be hx0;obtain⟨y,hy',hr''⟩:=k2.get (aa hi);exact(hX _ y hr'' fun c hc=>R.cl.obj k ys _ c h1 (ba hi) hc).2 c hr
   |row=>cases h2
   |map=>cases h2
end
end
section
section
variable {P:Program} {base:Nat} {E M:Nat→Prop} {w0 w w':World} {β β':K3} {st:St} {a:Act} {N:Nat→Prop} {ty:TypeId→Option Ty} {tm:Array Value}
theorem Rel.newRow(R:Rel base E M w0 β st tm w){d:Nat}(hd:look st.H d=none){arr:Array Value}{t:TypeId}{esz n:Nat}{els:List (List Cv)}(hn:n=els.length)(hm:n≤maxLen)(hs:arr.size=n*esz)(hf:Flat w (XP M w β) esz els arr.toList):
  Rel base E M w0 (upd β d (.slice (some ⟨w.heap.size,0,none⟩) n n)) {st with H:=put st.H d (.row false t esz els)} tm (w.alloc (.cells arr t)):=by
 refine R.new hd _ _ _ rfl (fun β' h1 h2 h3=>?_) (fun xs x c h=>by cases h);have hf':=hf.mono (w':=w.alloc (.cells arr t)) h3 fun g hp=>gw _ _ _ hp.1.1;exact⟨arr.toList,by rw[←hn];exact World.ownsRow_lit (base:=0) (e:=t) (size:=esz) w arr n (eu _) hm hs,by simp,hf'.el,hf'.rel⟩
theorem KF{α:Type}{n i:Nat}{x y:α}(h:(List.replicate n x)[i]? =some y):y=x∧i<n:=by
 have hi:=(ah.1 h).1;simp at hi;simp[hi]at h;exact⟨h.symm,hi⟩
theorem HB{n sz:Nat}{zero:List Cv}{zs:Array Value}(h:Yx (XH w N) zero zs.toList)(hz:zero.length=sz):
  Flat w N sz (List.replicate n zero) ((Array.range (n*sz)).map fun k=>zs[k%zs.size]!).toList:=by
 have hl:zs.size=sz:=by have:=h.1;simp only[cz]at this;omega
 refine⟨by simp,fun i es he=>?_,fun i j c hc=>?_⟩
 ·obtain⟨rfl,_⟩:=KF he;exact hz
 ·unfold cellAt at hc;cases hq:(List.replicate n zero)[i]? with
  |none=>rw[hq]at hc;cases hc
  |some es=>
   obtain⟨rfl,hi⟩:=KF hq;rw[hq]at hc;simp only[fa]at hc;obtain⟨y,hy,hr⟩:=h.get hc;have hj:j<sz:=by have:=(ah.1 hc).1;omega
   refine⟨y,?_,hr⟩;have hk:i*sz+j<n*sz:=IE hi hj;have e:(i*sz+j)%sz=j:=by rw[ke,Nat.mul_add_mod,jv hj]
   have hj':j<zs.size:=by omega
   have hy':zs[j]=y:=by
    have:zs[j]? =some y:=by simpa using hy
    rw[bw hj']at this;injection this
   simp[hk,hl,e];rw[getElem!_pos zs j hj'];exact hy'
def N3(ty:TypeId→Option Ty)(st:St)(d:Nat)(t:TypeId)(l c:EV):Option (Prop×St×EV):=
 match elemOf ty t,l,c,look st.H d with
 |some (none,el,Te), .one (.c (.sc (.int _ n))), .one (.c (.sc (.int _ m))),none=>
  some (0≤n∧n=m∧n≤1000000∧Te.bytes*n≤281474976710656,{st with H:=put st.H d (.row false el Te.size (List.replicate n.toNat Te.zero))}, .one (.own d))
 |_,_,_,_=>none
theorem N2(C:KJ P ty)(R:Rel base E M w0 β st tm w){d:Nat}{t:TypeId}{l c v:EV}{p:Prop}{st':St}(h:N3 ty st d t l c=some (p,st',v))(hp:p){u u':Value}(hl:XY w (XP M w β) β l u)(hc:XY w (XP M w β) β c u'):
  ∃r w' β',(Instr.makeSlice t u u').run P w= .ok r w'∧Rel base E M w0 β' st' tm w'∧XY w' (XP M w' β') β' v r∧∀b,XR v b→look st'.H b≠none:=by
 unfold N3 at h;split at h
 ·rename_i el Te k n k' m he hd;obtain⟨h1,h2, -⟩:=Yn C he w;simp only[ab,af]at h;obtain⟨rfl,rfl,rfl⟩:=h;obtain⟨p1,rfl,p2,p3⟩:=hp;rw[hl.int,hc.int];have I:=C _ _ h2;obtain⟨info,z,i1,i2,i3,i4,i5,i6,i7,i8⟩:=I.info;have hzv:(zeroValue el).run P w= .ok z w:=by simp[Go.zeroValue,Go.typeInfo,i1,i4]
  obtain⟨q,rfl⟩:∃q:Nat,n=q:=⟨n.toNat,by omega⟩;have hmax:q≤maxLen:=by unfold maxLen;omega
  have hf:=HB (w:=w) (N:=XP M w β) (n:=q) (i5 w (XP M w β)) i6;have hzsz:z.cells.size=Te.size:=by have:=(i5 w (XP M w β)).1;simp only[cz]at this;omega
  have hw:IntKind.i64.wrap (q:Int)=q:=by simp[IntKind.wrap,IntKind.bits,IntKind.signed];omega
  have R':=R.newRow hd (t:=el) (n:=q) (els:=List.replicate q Te.zero) (by simp) hmax (by simp) hf;refine⟨_,_,_,?_,by simpa using R', .one ⟨XZ ..,_,_,_,rfl⟩,fun b hb=>?_⟩
  ·have e1:¬((q:Int)<0):=by omega
   have e2:¬(Te.bytes*(q:Int)>281474976710656):=by omega
   have hroom:∀b,(askRoom b).run P w= .ok () w:=fun b=>by unfold askRoom;split<;>simp[mark,Sem.run]
   by_cases h0:q*Te.size=0
   ·simp[Instr.makeSlice,h1,asInt,asIntOf,Go.typeInfo,i1,i3,hw,e1,e2,sizeOf,i2,h0,newRow,Array.range_zero']
   ·simp[Instr.makeSlice,h1,asInt,asIntOf,Go.typeInfo,i1,i3,hw,e1,e2,sizeOf,i2,h0,hzv,newRow]
  ·cases hb with|one hb=>injection hb with hb;subst hb;simp[X1]
 ·cases h
def chunks(esz n:Nat)(cs:List Cv):List (List Cv):=(List.range n).map fun i=>(cs.drop (i*esz)).take esz
theorem FS{esz n:Nat}{cs:List Cv}{us:List Value}(h:Yx (XH w N) cs us)(hl:cs.length=n*esz):Flat w N esz (chunks esz n cs) us:=by
 refine⟨by simp[chunks,←h.1,hl],fun i es he=>?_,fun i j c hc=>?_⟩
 ·unfold chunks at he;rw[an]at he;cases hq:(List.range n)[i]? with
  |none=>rw[hq]at he;cases he
  |some k=>
   have hk:=ah.1 hq;obtain⟨hi,hk⟩:=hk;simp at hi hk;subst hk;rw[hq]at he;simp at he;subst he;have:=cr esz (show i+1≤n from hi);rw[dr,kn]at this;simp;omega
 ·unfold cellAt chunks at hc;rw[an]at hc;cases hq:(List.range n)[i]? with
  |none=>rw[hq]at hc;cases hc
  |some k=>
   obtain⟨hi,hk⟩:=ah.1 hq;simp at hi hk;subst hk;rw[hq]at hc;simp only[bt,fa]at hc;rw[bm]at hc;split at hc
   ·rw[cw]at hc;exact h.get hc
   ·cases hc
def bQ(ty:TypeId→Option Ty)(st:St)(d:Nat)(t:TypeId)(len:Nat)(ps:List (Nat×EV)):Option (Prop×St×EV):=
 match elemOf ty t,look st.H d with
 |some (none,el,Te),none=>
  (match UR (fun i=>some (i*Te.size,Te.size)) ((List.replicate len Te.zero).flatten.map Cx.c) ps with
   |some (p,xs)=>(match CS xs with
    |some cs=>some ((len≤1000000∧len*Te.size≤16777216∧cs.length=len*Te.size)∧p,{st with H:=put st.H d (.row false el Te.size (chunks Te.size len cs))}, .one (.own d))
    |none=>none)
   |none=>none)
 |_,_=>none
theorem FI{zero:List Cv}{zs:Array Value}(h:Yx (XH w N) zero zs.toList)(n:Nat):Yx (XH w N) (List.replicate n zero).flatten ((Array.range (n*zs.size)).map fun k=>zs[k%zs.size]!).toList:=by
 have hl:=h.1;simp only[cz]at hl;have hf:=HB (w:=w) (N:=N) (n:=n) h hl;refine⟨by simp[hl],fun k x y hx hy=>?_⟩;have hk:=(ah.1 hx).1;simp at hk;have hp:0<zs.size:=by
  rcases gg zs.size with h0|h0
  ·rw[hl,h0]at hk;simp at hk
  ·exact h0
 have hi:k / zs.size<n:=by rw[Nat.div_lt_iff_lt_mul hp];rw[←hl];exact hk
 have hj:k%zs.size<zs.size:=la _ hp;have e:k / zs.size*zs.size+k%zs.size=k:=by rw[ke];exact Nat.div_add_mod _ _
 have hxz:zero[k%zs.size]? =some x:=by
  have key:∀(n k:Nat),(List.replicate n zero).flatten[k]? =if k<n*zero.length then zero[k%zero.length]? else none:=by
   intro n
   induction n with
   |zero=>intro k;simp
   |succ n ih=>
    intro k;rw[kb,kj];rcases cp k zero.length with h|h
    ·rw[bu h,if_pos (by rw[dr];omega),jv h]
    ·rw[bz h,ih];have:(k - zero.length)%zero.length=k%zero.length:=by rw[Nat.mod_eq_sub_mod h]
     rw[this];by_cases hh:k - zero.length<n*zero.length
     ·rw[if_pos hh,if_pos (by rw[dr];omega)]
     ·rw[if_neg hh,if_neg (by rw[dr];omega)]
  rw[key,if_pos hk,hl]at hx;exact hx
 obtain⟨y',hy',hr⟩:=hf.rel (k / zs.size) (k%zs.size) x (by
  unfold cellAt;rw[gb,if_pos hi];exact hxz)
 rw[e]at hy';rw[hy']at hy;injection hy with hy;subst hy;exact hr
theorem SM(C:KJ P ty)(R:Rel base E M w0 β st tm w){d:Nat}{t:TypeId}{len:Nat}{ps:List (Nat×EV)}{v:EV}{p:Prop}{st':St}(h:bQ ty st d t len ps=some (p,st',v))(hp:p){us:Array (Nat×Value)}
  (hu:Yx (fun(p:Nat×EV) (q:Nat×Value)=>p.1=q.1∧XY w (XP M w β) β p.2 q.2) ps us.toList):
  ∃r w' β',(Instr.buildSlice t len us).run P w= .ok r w'∧Rel base E M w0 β' st' tm w'∧XY w' (XP M w' β') β' v r∧∀b,XR v b→look st'.H b≠none:=by
 unfold bQ at h;split at h
 ·rename_i el Te he hd;obtain⟨h1,h2, -⟩:=Yn C he w;split at h
  ·rename_i p' xs hfl;split at h
   ·rename_i cs hcs;simp only[ab,af]at h;obtain⟨rfl,rfl,rfl⟩:=h;obtain⟨⟨p1,p2,p3⟩,hp⟩:=hp;obtain rfl:=Dy hcs;have I:=C _ _ h2;obtain⟨info,z,i1,i2,i3,i4,i5,i6,i7,i8⟩:=I.info;have hzv:(zeroValue el).run P w= .ok z w:=by simp[Go.zeroValue,Go.typeInfo,i1,i4]
    have hzsz:z.cells.size=Te.size:=by have:=(i5 w (XP M w β)).1;simp only[cz]at this;omega
    have hzr:=FI (w:=w) (N:=XP M w β) (i5 w (XP M w β)) len;rw[hzsz]at hzr;obtain⟨r,r1,r2, -⟩:=RK hu (hzr.map_c (β:=β)) hfl hp;have r3:=r2.of_map_c;have hf:=FS r3 p3;have hrs:r.size=len*Te.size:=by have:=r3.1;simp only[cz]at this;omega
    have R':=R.newRow hd (t:=el) (n:=len) (els:=chunks Te.size len cs) (by simp[chunks]) (by unfold maxLen;omega) hrs hf;refine⟨_,_,_,?_,R', .one ⟨XZ ..,_,_,_,rfl⟩,fun b hb=>?_⟩
    ·have e2:¬(len*Te.size>16777216):=by omega
     by_cases h0:len*Te.size=0
     ·have r1':Instr.fill (fun i=>some (i*Te.size,Te.size)) #[] us.toList=some r:=by simpa[h0,Array.range_zero']using r1
      simp[Instr.buildSlice,h1,I.sizeOf,h0,Array.range_zero',r1',newRow]
     ·simp[Instr.buildSlice,h1,I.sizeOf,h0,e2,hzv,hzsz,r1,newRow]
    ·cases hb with|one hb=>injection hb with hb;subst hb;simp[X1]
   ·cases h
  ·cases h
 ·cases h
end
end
section
section
variable {P:Program} {base:Nat} {E M:Nat→Prop} {w0 w w':World} {β β':K3} {st:St} {a:Act} {N:Nat→Prop} {ty:TypeId→Option Ty} {tm:Array Value}
def Qi(st:St)(d:Nat):Option (St×EV):=match look st.H d with|none=>some ({st with H:=put st.H d (.map [])}, .one (.map d))|some _=>none
theorem Fy{d:Nat}{st':St}{v:EV}(h:Qi st d=some (st',v))(R:Rel base E M w0 β st tm w)(t:TypeId):
  ∃r w' β',(Instr.makeMap t none).run P w= .ok r w'∧Rel base E M w0 β' st' tm w'∧XY w' (XP M w' β') β' v r∧∀b,XR v b→look st'.H b≠none:=by
 unfold Qi at h;split at h
 ·rename_i hd;simp only[ab,af]at h;obtain⟨rfl,rfl⟩:=h;refine⟨.map (some w.heap.size),w.alloc (.map #[] 0),upd β d (.map (some w.heap.size)),?_,R.new hd _ _ _ rfl (fun β' h1 h2 h3=>?_) (fun ys x c hy=>by cases hy),?_,fun c hc=>?_⟩
  ·simp[Instr.makeMap,newObj];rfl
  ·exact⟨w.heap.size,#[],0,rfl,cu _ _,rfl,fun i x y hx=>by simp at hx⟩
  ·exact .one ⟨w.heap.size,XZ ..,rfl⟩
  ·cases hc with|one h=>injection h with h;subst h;simp[X1]
 ·cases h
def lC(d:TypeDesc)(k v:Cv)(es:List (Cv×Cv)):Option (List (Cv×Cv)):=match ZE d k es 0 with
 |some (some (i,_))=>some (es.set i (k,v))
 |some none=>some (es++[(k,v)])
 |none=>none
def jN(ty:TypeId→Option Ty)(st:St)(t:TypeId)(m k x:EV):Option St:=
 match mapOf ty t,m,k,x with
 |some (d,_), .one (.map b), .one (.c k), .one (.c v)=>(match look st.H b with
  |some (.map es)=>(match lC d k v es with
   |some es'=>some {st with H:=put st.H b (.map es')}
   |none=>none)
  |_=>none)
 |_,_,_,_=>none
theorem MW(C:KJ P ty)(R:Rel base E M w0 β st tm w){t:TypeId}{m k x:EV}{st':St}(h:jN ty st t m k x=some st'){u u' u2:Value}(hm:XY w (XP M w β) β m u)(hk:XY w (XP M w β) β k u')(hx:XY w (XP M w β) β x u2):
  ∃w',(Instr.mapUpdate t u u' u2).run P w= .ok () w'∧Rel base E M w0 β st' tm w':=by
 unfold jN at h;split at h
 ·rename_i d z b k v hmo;obtain⟨kt,et,m1,m2,m3, -⟩:=Rh C hmo;split at h
  ·rename_i es hb;cases hm with|one hm=>
   obtain⟨g,hβ,rfl⟩:=hm;obtain⟨u3,hu3,g2,arr,clock,rfl,hg,hl⟩:=R.obj b _ hb;rw[hβ]at hu3;injection hu3 with hu3;injection hu3 with hu3;injection hu3 with hu3;subst hu3;cases hk with|one hk=>
   cases hx with|one hx=>
   have hk:XH w (XP M w β) k u':=hk;have hx:XH w (XP M w β) v u2:=hx;have hun:(underlying t).run P w= .ok (.map kt et) w:=by simp[Go.underlying,m1]
   have hgo:(getObj g).run P w= .ok (.map arr clock) w:=by simp only[getObj,Sem.run,hg]
   have hck:=run_checkKey m2 m3 false 9999 u' w;have hlt:g<w.heap.size:=(aw.1 hg).1;have hset:∀o,(setObj g o).run P w= .ok () (Sim.wr w g o):=fun o=>by simp only[setObj,Sem.run,hg];rfl
   have fin:∀(es':List (Cv×Cv)) (arr':Array MapEntry) (clock':Nat),Yx (EntRel w (XP M w β)) es' arr'.toList→Rel base E M w0 β {st with H:=put st.H b (.map es')} tm (Sim.wr w g (.map arr' clock')):=by
    intro es' arr' clock' hall;have hN:∀k,XP M w β k→XP M (Sim.wr w g (.map arr' clock')) β k:=fun k hk=>⟨by simpa using hk.1,hk.2⟩;have hce:∀q,XP M w β q→(Sim.wr w g (.map arr' clock')).heap[q]? =w.heap[q]?:=fun q hq=>Sim.YF (fun e=>hq.2 b _ hβ (by rw[e];rfl)) _;refine R.step b (.map es') _ (R.fr.wr (R.at_ b _ g hβ rfl).1 _) (by simp) (fun k hk=>?_) hβ (fun c _=>rfl) (fun c u2 k hc' h1 h2=>?_) (fun k hk=>?_) (.inl hβ) ?_ (fun zs y c hz=>by cases hz)
    ·have hne:k≠g:=fun q=>hk.2 b _ hβ (by rw[q];rfl);exact⟨by intro q;injection q with q;exact hne q.symm,Sim.YF hne _⟩
    ·have hne:k≠g:=fun q=>hc' (R.inj c b u2 _ k h1 hβ h2 (by rw[q];rfl));exact⟨Sim.YF hne _,by intro q;injection q with q;exact hne q.symm⟩
    ·injection hk with hk;subst hk;exact⟨(R.at_ b _ g hβ rfl).1,by simpa using hlt⟩
    ·exact⟨g,arr',clock',rfl,Sim.Kx hlt _,hall.mono fun p e h=>⟨h.1.mono hN hce,h.2.mono hN hce⟩⟩
   unfold lC at h;cases hf:ZE d k es 0 with
   |none=>rw[hf]at h;cases h
   |some r=>
    rw[hf]at h;obtain⟨r',f1,f2⟩:=IN hk hl hf;have hfk:=run_findKey m2 f1 w;cases r with
    |none=>
     cases r' with
     |some q=>exact f2.elim
     |none=>
      simp only[ab]at h;subst h;refine⟨_,?_,fin _ (arr.push {key:=u',val:=u2,born:=clock}) (clock+1) ?_⟩
      ·simp only[Instr.mapUpdate,ag,hun,ae,hgo,hck,hfk];exact hset _
      ·rw[Array.toList_push];exact hl.app (.cons ⟨hk,hx⟩ .nil)
    |some q=>
     obtain⟨j,v'⟩:=q;cases r' with
     |none=>exact f2.elim
     |some q'=>
      obtain⟨j',u4⟩:=q';simp only[ab]at h;subst h;obtain⟨rfl,q2,q3,e0,q4,q5⟩:=f2;rw[ji]at q4;have hjl:j<arr.toList.length:=(ah.1 q4).1;have hja:arr[j]? =some e0:=by simpa using q4
      refine⟨_,?_,fin _ (arr.modify j fun e=>{e with key:=u',val:=u2}) clock ?_⟩
      ·simp only[Instr.mapUpdate,ag,hun,ae,hgo,hck,hfk];have hks:(Instr.keyThatStays e0.key u').run P w= .ok u' w:=by simp[Instr.keyThatStays,q5]
       simp only[hja,bt,ec,hks,ae];exact hset _
      ·refine⟨by simp[hl.1],fun i p e hi he=>?_⟩;rw[cq]at hi;have hjs:j<arr.size:=by simpa using hjl
       by_cases hij:j=i
       ·subst hij;rw[if_pos rfl]at hi;split at hi
        ·injection hi with hi;subst hi;have:(arr.modify j fun e=>{e with key:=u',val:=u2})[j]? =some e:=by rw[←eh];exact he
         rw[gi,if_pos rfl,hja]at this;simp only[bt,ab]at this;subst this;exact⟨hk,hx⟩
        ·cases hi
       ·rw[if_neg hij]at hi;have:(arr.modify j fun e=>{e with key:=u',val:=u2})[i]? =some e:=by rw[←eh];exact he
        rw[gi,if_neg hij]at this;exact hl.2 i p e hi (by simpa using this)
  ·cases h
 ·cases h
def fS(ty:TypeId→Option Ty)(st:St)(t:TypeId)(x:EV)(lo hi:Option EV):Option (Prop×St×EV):=
 match x,elemOf ty t,lo,hi with
 | .one (.own b),some (none,el,Te),none,some (.one (.c (.sc (.int _ h))))=>(match look st.H b with
  |some (.row false el' esz els)=>some (el'=el∧esz=Te.size∧0≤h∧h≤els.length,{Je b st with H:=put (Je b st).H b (.row false el esz (els.take h.toNat))}, .one (.own b))
  |_=>none)
 |_,_,_,_=>none
theorem WR(C:KJ P ty)(R:Rel base E M w0 β st tm w){t:TypeId}{x v:EV}{lo hi:Option EV}{p:Prop}{st':St}(h:fS ty st t x lo hi=some (p,st',v))(hp:p){u:Value}{lo' hi':Option Value}(hx:XY w (XP M w β) β x u)(hl:OptE w (XP M w β) β lo lo')(hh:OptE w (XP M w β) β hi hi'):
  ∃r β',(Instr.sliceAt t u lo' hi' none).run P w= .ok r w∧Rel base E M w0 β' st' tm w∧XY w (XP M w β') β' v r∧∀b,XR v b→look st'.H b≠none:=by
 unfold fS at h;split at h
 ·rename_i b el Te k hi0 he;obtain⟨h1,h2,hut⟩:=Yn C he w;split at h
  ·rename_i el' esz els hb;simp only[ab,af]at h;obtain⟨rfl,rfl,rfl⟩:=h;obtain⟨rfl,rfl,p1,p2⟩:=hp;cases hx with|one hx=>
   obtain⟨hβ,_⟩:=hx;obtain⟨u2,hu2,ho⟩:=R.obj b _ hb;rw[hβ]at hu2;injection hu2 with hu2;subst hu2;obtain⟨cells,o1,o2,o3⟩:=K5 ho;have hne:u≠ .slice none 0 0:=fun e=>by have:=o2.2 e;cases this
   rcases o1.2 with⟨e,_⟩|⟨g,cap,cur,rfl,_,q1,q2,q3,q4,q5⟩
   ·exact absurd e hne
   obtain rfl:lo'=none:=by cases lo' with|none=>rfl|some y=>exact hl.elim
   cases hi' with
   |none=>exact hh.elim
   |some y=>
   have hy:y= .int _ hi0:=XY.int hh;have hbd:=Vn (P:=P) (isS:=true) (n:=els.length) (cap:=cap) (l:=0) (h:=hi0) (lo:=none) (hi:=some y) (.inl ⟨rfl,rfl⟩) (.inr ⟨_,by rw[hy]⟩) (by omega) p1 (by omega) w;obtain⟨R2,hn⟩:=R.kill b;have hlt:g<w.heap.size:=(aw.1 q1).1;have hN:∀k,XP M w β k→XP M w (upd β b (.slice (some ⟨g,0,none⟩) hi0.toNat cap)) k:=by
    intro k hk;refine⟨hk.1,fun c u' hc=>?_⟩;by_cases hcb:c=b
    ·subst hcb;rw[XZ]at hc;injection hc with hc;subst hc;show some g≠some k;exact hk.2 c _ hβ
    ·rw[YG _ _ hcb]at hc;exact hk.2 c u' hc
   have hfl:(els.take hi0.toNat).length=hi0.toNat:=by simp;omega
   have R3:=R2.step b (.row false el' Te.size (els.take hi0.toNat)) (.slice (some ⟨g,0,none⟩) hi0.toNat cap) (β':=upd β b (.slice (some ⟨g,0,none⟩) hi0.toNat cap)) (w':=w) R2.fr (ak _)
    (fun k hk=>⟨fun e=>hk.2 b _ hβ e,rfl⟩) (XZ ..) (fun c hc=>YG _ _ hc) (fun c u' k hc c1 c2=>⟨rfl,fun e=>hc (R.inj c b u' _ k c1 hβ c2 e)⟩)
    (fun k hk=>R.at_ b _ k hβ hk) (.inr hn) (by
     refine⟨cells.take (hi0.toNat*Te.size),?_,by simp,fun i es he=>?_,fun i j c hc=>?_⟩
     ·rw[hfl];have hle:hi0.toNat*Te.size≤els.length*Te.size:=cr _ (by omega);refine⟨by rw[cf,o1.1];omega, .inr ⟨g,cap,cur,rfl,eu _,q1,by omega,q3,q4,?_⟩⟩;rw[←q5,List.take_take];congr 1;omega
     ·rw[bm]at he;split at he
      ·exact o3.el i es he
      ·cases he
     ·have hc':=hc;have hsub:cellAt els i j=some c∧i<hi0.toNat:=by
       unfold cellAt at hc⊢;rw[bm]at hc;split at hc
       ·rename_i hlt';exact⟨hc,hlt'⟩
       ·cases hc
      obtain⟨y',hy1,hy2⟩:=o3.rel i j c hsub.1;have hjl:=(cell_lt o3.el hsub.1).2;refine⟨y',?_,hy2.mono hN fun _ _=>rfl⟩;rw[bm,if_pos (IE hsub.2 hjl)];exact hy1) (fun ys y c hc=>by cases hc)
   refine⟨.slice (some ⟨g,0,none⟩) hi0.toNat cap,_,?_,R3, .one ⟨XZ ..,_,_,_,rfl⟩,fun c hc=>?_⟩
   ·simp only[Instr.sliceAt,ag,h1,ae,Instr.slice,hbd,(C _ Te h2).sizeOf,am,bt];by_cases hc0:cap=0
    ·simp[hc0]
    ·simp[hc0]
   ·cases hc with|one hc=>injection hc with hc;subst hc;simp[X1]
  ·cases h
 ·cases h
def F6(ty:TypeId→Option Ty)(st:St)(d:Nat)(t t':TypeId)(s x:EV):Option (Prop×St×EV):=
 match s,x,elemOf ty t,ty t' with
 | .one (.c (.sl true _ [])), .one (.c (.sc (.int _ n))),some (none,el,Te),some T'=>(match T'.desc,look st.H d with
  | .int _,none=>some (0<n∧n≤281474976710656∧n*Te.bytes≤140737488355328∧0<Te.size,{st with H:=put st.H d (.row false el Te.size (List.replicate n.toNat Te.zero))}, .one (.own d))
  |_,_=>none)
 |_,_,_,_=>none
theorem MV(C:KJ P ty)(R:Rel base E M w0 β st tm w){d:Nat}{t t':TypeId}{s x v:EV}{p:Prop}{st':St}(h:F6 ty st d t t' s x=some (p,st',v))(hp:p){u u':Value}(hs:XY w (XP M w β) β s u)(hx:XY w (XP M w β) β x u')(ret:TypeId):
  ∃r w' β',(Builtin.append_ #[t,t'] ret #[u,u']).run P w= .ok r w'∧Rel base E M w0 β' st' tm w'∧XY w' (XP M w' β') β' v r∧∀b,XR v b→look st'.H b≠none:=by
 unfold F6 at h;split at h
 ·rename_i esz k n el Te T' he hT';obtain⟨-,hTe,hut⟩:=Yn C he w;split at h
  ·rename_i k' hd' hd;simp only[ab,af]at h;obtain⟨rfl,rfl,rfl⟩:=h;obtain⟨p1,p2,p3,p4⟩:=hp;cases hs with|one hs=>
   have hs':XH w (XP M w β) (.sl true _ []) u:=hs;cases hs';have hu':=hx.int;subst hu';obtain⟨info,z,i1,i2,i3,i4,i5,i6,i7,i8⟩:=(C _ _ hTe).info;have hzs:z.cells.size=Te.size:=by
    have:=(i5 w (XP M w β)).1;simp only[cz]at this;omega
   have hun':=(C t' T' hT').und;rw[hd']at hun';have hw:IntKind.i64.wrap n=n:=by
    simp only[IntKind.wrap,IntKind.bits,IntKind.signed];simp;omega
   obtain⟨m,rfl⟩:∃m:Nat,n=m:=⟨n.toNat,by omega⟩;have hm0:m≠0:=by omega
   have p3':m*Te.bytes≤140737488355328:=by have h:=p3;rw[←Int.natCast_mul]at h;omega
   have h63':¬(9223372036854775807<(m:Int)):=by omega
   have h48':¬(281474976710656<Builtin.nextslicecap m 0*info.bytes):=by rw[nextslicecap_zero (by omega),i3];omega
   have h48'':¬((281474976710656:Int)<(m:Int)*info.bytes):=by rw[i3];omega
   have hms:¬(m*info.size=0):=by rw[i2];exact Nat.mul_ne_zero hm0 (by omega)
   have hr:(Builtin.append_ #[t,t'] ret #[.slice none 0 0, .int k m]).run P w= .ok (.slice (some ⟨w.heap.size,0,none⟩) m (grownCap w m 0 el)) (w.drew.alloc (.cells (Builtin.zeroCells z.cells m++Builtin.zeroCells z.cells (grownCap w m 0 el - m)) el)):=by
    have h0:¬((m:Int)<0):=by omega
    have hA:(asInt (.int k m)).run P w= .ok (m:Int) w:=rfl;simp[Builtin.append_,kg hut,kg hun',sizeOf,typeInfo,zeroValue,i1,i4,hA,hw,h0,hm0,h63',h48',h48'',hms,Question.forced,run_firstCells_none,newRow,grownCap]
   have hzf:=HB (w:=w) (N:=XP M w β) (n:=m) (i5 w _) i6;have hge:=grownCap_ge w m 0 el;have hcm:grownCap w m 0 el≤maxLen:=grownCap_le_maxLen w m 0 el (by simp only[maxLen];omega);have Rd:Rel base E M w0 β st tm w.drew:=⟨⟨R.fr.os,R.fr.tape,R.fr.output,R.fr.size,R.fr.block⟩,R.le,fun t v hv=>by
    obtain⟨u,h1,h2⟩:=R.env t v hv;exact⟨u,h1,h2.mono (fun _ h=>h) (fun _ _=>rfl) fun _ _=>rfl⟩,fun b ob hb=>by
    obtain⟨u,h1,h2⟩:=R.obj b ob hb;exact⟨u,h1,h2.mono (fun _ h=>h) (fun _ _=>rfl) (fun _ _=>rfl) fun _ _ _ _ _ _=>rfl⟩,R.at_,R.inj,R.dom,R.cl,R.may⟩
   have R3:=Rd.new hd (.cells (Builtin.zeroCells z.cells m++Builtin.zeroCells z.cells (grownCap w m 0 el - m)) el) (.row false el Te.size (List.replicate m Te.zero)) (.slice (some ⟨w.heap.size,0,none⟩) m (grownCap w m 0 el)) rfl
    (fun β' g1 g2 g3=>?_) (fun xs y c hc=>by cases hc)
   ·refine⟨_,_,_,hr,by simpa using R3, .one ⟨XZ ..,_,_,_,rfl⟩,fun c hc=>?_⟩;cases hc with|one hc=>injection hc with hc;subst hc;simp[X1]
   ·have hff:=hzf.mono (w':=w.drew.alloc (.cells (Builtin.zeroCells z.cells m++Builtin.zeroCells z.cells (grownCap w m 0 el - m)) el)) g3 fun q hq=>gw _ _ _ hq.1.1;have hzc:(Builtin.zeroCells z.cells m).toList=((Array.range (m*Te.size)).map fun k=>z.cells[k%z.cells.size]!).toList:=by simp[Builtin.zeroCells,hzs]
    refine⟨_,⟨by simp[hzs], .inr ⟨w.heap.size,_,_,by simp,eu _,cu w.drew _,by simpa using hge,hcm,?_,?_⟩⟩,by simp,hff.el,hff.rel⟩
    ·simp only[Array.size_append,size_zeroCells,hzs,←dr];congr 1;omega
    ·simp only[gv,fj];rw[←hzc];have:m*Te.size=(Builtin.zeroCells z.cells m).toList.length:=by simp[size_zeroCells,hzs]
     rw[this];exact List.take_left
  ·cases h
 ·cases h
end
end
end Go.Proofs.YtbkpmfjfpcoehaaGreatDoor.Dw
