/- Data of a call, and rules for code over it. No condition. -/
import Derived.Orders
import Derived.Scope
import Derived.Test.YtbkpmfjfpcoehaaGreatDoorDb
noncomputable section
namespace Go.Proofs.YtbkpmfjfpcoehaaGreatDoor.Dw
open Go Go.RowKit
set_option maxRecDepth 100000
section
inductive Yw where
 |val (r:EV)
 |row (z:Bool) (t:TypeId) (esz:Nat) (els:List (List Cv))
def noB:K3:=fun _=>none
def ResOk(M:Nat→Prop)(w w':World)(r:Yw)(u:Value):Prop:=
 match r with
 | .val r=>XY w' (fun g=>g<w'.heap.size∧M g) noB r u
 | .row z t esz els=>(∃cells,w'.ownsRow w.heap.size t esz u els.length cells∧Flat w' (fun g=>(g<w'.heap.size∧M g)∧blk u≠some g) esz els cells)∧(z=true↔u= .slice none 0 0)
def Xq(P:Program)(f:FuncId)(vs:List EV)(r:Yw):Prop:=
 ∀(M:Nat→Prop) (w:World) (us:Array Value),(∀g,w.heap.size≤g→M g)→Yx (XY w (fun g=>g<w.heap.size∧M g) noB) vs us.toList→
  Calls P f us w fun e w'=>∃u,e= .returned u∧Below w.heap.size w w'∧ResOk M w w' r u
structure nD(P:Program)(f:FuncId):Prop where
 body:∃fn,P.funcs[f]? =some fn∧(fn.name== "runtime.NumGoroutine")=false∧fn.body.isNone=false
abbrev Spec:=FuncId→List EV→Option (Prop×Yw)
def XA(P:Program)(spec:Spec):Prop:=∀f vs p r,spec f vs=some (p,r)→nD P f∧(p→Xq P f vs r)
section
variable {P:Program} {base:Nat} {E M:Nat→Prop} {w0 w w':World} {β β':K3} {st:St} {a:Act} {N:Nat→Prop} {ty:TypeId→Option Ty} {tm:Array Value} {spec:Spec}
theorem XY.no_refs{v:EV}{u:Value}(h:XY w N noB v u):∀b,¬XR v b:=by
 induction h with
 | @one x u h=>
  intro b hb;cases hb with|one hb=>
  cases x with
  |own c=>obtain⟨h,_⟩:=h;cases h
  |ptr c off=>obtain⟨g,h,_⟩:=h;cases h
  |map c=>obtain⟨g,h,_⟩:=h;cases h
  |c v=>cases hb
  |dead=>cases hb
 | @agg xs us h=>
  intro b hb;cases hb with| @agg _ x _ hm hb=>
  obtain⟨i,hi,rfl⟩:=be hm;obtain⟨y,hy,hr⟩:=h.get (aa hi);generalize xs[i]=x at*
  cases x with
  |own c=>obtain⟨h,_⟩:=hr;cases h
  |ptr c off=>obtain⟨g,h,_⟩:=hr;cases h
  |map c=>obtain⟨g,h,_⟩:=hr;cases h
  |c v=>cases hb
  |dead=>cases hb
 | @tup l us hl h ih=>
  intro b hb;cases hb with| @tup _ x _ hm hb=>
  obtain⟨i,hi,rfl⟩:=be hm;have hi':i<us.size:=by omega
  exact ih i l[i] us[i] (aa hi) (bw hi') b hb
 |ep hs hi=>intro b hb;cases hb
 |rp h=>cases h
 |any=>intro b hb;cases hb
def NA(x:Cx):Bool:=match x with| .c _=>true|_=>false
def VH:EV→Bool
 | .one x=>NA x
 | .agg xs=>xs.all NA
 | .ep _ _ _ _=>true
 |_=>false
theorem By{x:Cx}{u:Value}(h:NA x=true)(hx:Yq w N β x u):Yq w N β' x u:=by
 cases x<;>first|exact hx|cases h
theorem HQ{v:EV}{u:Value}(h:VH v=true)(hv:XY w N β v u):XY w N β' v u:=by
 cases v with
 |one x=>cases hv with|one hx=>exact .one (By h hx)
 |agg xs=>
  cases hv with|agg hx=>
  exact .agg ⟨hx.1,fun i x y a b=>By ((ao.1 h) x (bb a)) (hx.2 i x y a b)⟩
 |ep esz els i off=>cases hv with|ep hs hi=>exact .ep hs hi
 |_=>cases h
def setD(st:St)(d:Option Nat)(v:EV):St:=match d with|some d=>{st with env:=put st.env d v}|none=>st
theorem Rel.setD(R:Rel base E M w0 β st a.tmps w){d:Option Nat}{v:EV}{u:Value}(hd:∀t,d=some t→t<a.tmps.size)(hv:XY w (XP M w β) β v u)(hr:∀b,XR v b→look st.H b≠none):
  Rel base E M w0 β (setD st d v) (a.put d u).tmps w:=by
 cases d with
 |none=>exact R
 |some d=>exact R.putv (hd d rfl) hv hr
theorem YO(a:Act)(d:Option Tmp)(u:Value):(a.put d u).tmps.size=a.tmps.size:=by cases d<;>simp[Act.put]
theorem put_defers(a:Act)(d:Option Tmp)(u:Value):(a.put d u).defers=a.defers:=by cases d<;>rfl
def Z6(st:St):EV→EV
 | .one (.map b)=>(match look st.H b with|some (.map es)=> .one (.c (.mp es))|_=> .one (.map b))
 | .one (.own b)=>(match look st.H b with|some (.row z _ esz els)=> .one (.c (.sl z esz els))|_=> .one (.own b))
 |v=>v
def Gt(st:St):List EV→List EV
 |[]=>[]
 |v::r=>Z6 st v::Gt st r
def ER:List (List Cv)→List EV
 |[]=>[]
 |cs::r=> .ep cs.length [cs] 0 0::ER r
def fnE(st:St)(f:Operand):Option (FuncId×List EV):=
 match evO st f with
 |some (.one (.c (.sc (.func (.func f) ⟨[]⟩ ⟨[]⟩))))=>some (f,[])
 |some (.one (.c (.fn f caps)))=>some (f,ER caps)
 |_=>none
def SP:Option (Prop×Yw)→Option (Prop×Yw)
 |some (p, .row z _ esz els)=>some (p∧∀es∈els,∀c∈es,∃v,c= .sc v, .val (.one (.c (.sl z esz els))))
 |some (p, .val (.one (.c (.sc v))))=>some (p, .val (.one (.c (.sc v))))
 |_=>none
def ZG(spec:Spec)(st:St)(f:Operand)(xs:List Operand):Option (Prop×Yw):=
 match fnE st f,MO st xs with
 |some (f,caps),some vs=>if vs.all VH=true then spec f (vs++caps)else if(Gt st vs).all VH=true then SP (spec f (Gt st vs++caps))else none
 |_,_=>none
def CB(st:St)(d:Option Nat)(r:Yw):Option St:=
 match r with
 | .val v=>some (setD st d v)
 | .row z t esz els=>match d with
  |some d=>(match look st.H d with
   |none=>some {env:=put st.env d (.one (.own d)),H:=put st.H d (.row z t esz els)}
   |some _=>none)
  |none=>none
def opE(ty:TypeId→Option Ty)(spec:Spec)(st:St)(o:Oper):Option (Prop×St):=
 match o.op with
 | .alloc t=>(match o.dst with|some d=>(match EM ty st d t with|some (st',v)=>some (True,setD st' (some d) v)|none=>none)|none=>none)
 | .box _ x=>(match o.dst with|some d=>(match EC st d x with|some (st',v)=>some (True,setD st' (some d) v)|none=>none)|none=>none)
 | .store t x v=>(match evO st x,evO st v with
  |some vx,some vv=>(match U4 ty st t vx vv with|some (p,st')=>some (p,setD st' o.dst .any)|none=>none)
  |_,_=>none)
 | .makeSlice t l c=>(match o.dst,evO st l,evO st c with
  |some d,some vl,some vc=>(match N3 ty st d t vl vc with|some (p,st',v)=>some (p,setD st' (some d) v)|none=>none)
  |_,_,_=>none)
 | .buildSlice t len ps=>(match o.dst,Zh st ps.toList with
  |some d,some l=>(match bQ ty st d t len l with|some (p,st',v)=>some (p,setD st' (some d) v)|none=>none)
  |_,_=>none)
 | .call {callee:= .builtin .append,args:=⟨[s,x]⟩,argTypes:=⟨[t,t']⟩}=>(match o.dst,evO st s,evO st x with
  |some d,some vs,some vx=>if t=t' then(match RW ty st d t vs vx with|some (p,st',v)=>some (p,setD st' (some d) v)|none=>none)
   else(match F6 ty st d t t' vs vx with|some (p,st',v)=>some (p,setD st' (some d) v)|none=>none)
  |_,_,_=>none)
 | .makeMap _ none=>(match o.dst with|some d=>(match Qi st d with|some (st',v)=>some (True,setD st' (some d) v)|none=>none)|none=>none)
 | .mapUpdate t m k x| .insert t m k x=>(match evO st m,evO st k,evO st x with
  |some vm,some vk,some vx=>(match jN ty st t vm vk vx with|some st'=>some (True,setD st' o.dst .any)|none=>none)
  |_,_,_=>none)
 | .slice t x lo hi none=>
  (match evO st x,(match lo with|none=>some none|some x=>(evO st x).map some),(match hi with|none=>some none|some x=>(evO st x).map some)with
   |some v,some l,some h=>(match fS ty st t v l h with
    |some (p,st',r)=>some (p,setD st' o.dst r)
    |none=>(match ZN ty t v l h with|some (p,r)=>some (p,setD st o.dst r)|none=>none))
   |_,_,_=>none)
 | .call {callee:= .value f,args:=xs, .. }=>(match ZG spec st f xs.toList with
  |some (p,r)=>(match CB st o.dst r with|some st'=>some (p,st')|none=>none)
  |none=>none)
 |_=>match VI ty st o with
  |some (p,v)=>some (p,setD st o.dst v)
  |none=>none
def PD(P:Program)(st:St)(o:Oper)(st':St):Prop:=
 ∀{base:Nat} {E M:Nat→Prop} {w0 w:World} {β:K3} {a:Act} (K:Act→World→Prop) (Q:Exit→Act→World→Prop),(∀t,o.dst=some t→t<a.tmps.size)→Rel base E M w0 β st a.tmps w→
  (∀a' w' β',a'.defers=a.defers→a'.tmps.size=a.tmps.size→Rel base E M w0 β' st' a'.tmps w'→K a' w')→o.wp P a w K Q
theorem Kf{o:Oper}{st1 st':St}{v:EV}(h:I3 P st o st1 v)(he:st'=setD st1 o.dst v):PD P st o st':=by
 intro base E M w0 w β a K Q hd R J;obtain⟨u,w',β',hr,R',hv,href⟩:=h R;subst he;have:=J (a.put o.dst u) w' β' (put_defers ..) (YO ..) (R'.setD hd hv href);unfold Oper.wp;rcases hr with hr|⟨hr,rfl⟩
 ·rw[hr];exact this
 ·rw[hr];exact this
theorem TL(C:KJ P ty){o:Oper}{p:Prop}{v:EV}(h:VI ty st o=some (p,v))(hp:p):I3 P st o st v:=by
 intro base E M w0 w β a R;obtain⟨u,h1,h2,h3⟩:=So C h hp R;exact⟨u,w,β, .inl h1,R,h2,h3⟩
theorem Df:∀caps:List (List Cv),(ER caps).all VH=true:=by
 intro caps
 induction caps with
 |nil=>rfl
 |cons cs r ih=>simpa[ER,VH]using ih
theorem OU:∀caps:List (List Cv),(ER caps).length=caps.length:=by
 intro caps
 induction caps with
 |nil=>rfl
 |cons cs r ih=>simp[ER,ih]
theorem OV:∀(caps:List (List Cv)) (i:Nat),(ER caps)[i]? =(caps[i]?).map fun cs=> .ep cs.length [cs] 0 0:=by
 intro caps
 induction caps with
 |nil=>intro i;rfl
 |cons cs r ih=>intro i;cases i with
  |zero=>rfl
  |succ i=>simpa[ER]using ih i
theorem CM(R:Rel base E M w0 β st a.tmps w){f:Operand}{g:FuncId}{caps:List EV}(h:fnE st f=some (g,caps)):
  ∃us,a.eval f= .func (.func g) #[] us∧Yx (XY w (XP M w β) β) caps us.toList∧caps.all VH=true:=by
 unfold fnE at h;split at h
 ·rename_i hf;simp only[ab,af]at h;obtain⟨rfl,rfl⟩:=h;exact⟨#[],(evO_ok R hf).1.sc, .nil,rfl⟩
 ·rename_i f' caps' hf;simp only[ab,af]at h;obtain⟨rfl,rfl⟩:=h;have h1:=(evO_ok R hf).1;generalize a.eval f=u at h1;cases h1 with|one h1=>
  have h1':XH w (XP M w β) (.fn f' caps') u:=h1;cases h1' with
  | @fn _ _ us xs vs hl hu hc hr=>
   refine⟨us,rfl,⟨by rw[OU];simpa using hl.symm,fun i x y hx hy=>?_⟩,Df _⟩;rw[OV]at hx;cases hq:caps'[i]? with
   |none=>rw[hq]at hx;cases hx
   |some cs=>
    rw[hq]at hx;simp only[bt,ab]at hx;subst hx;have hi:=(ah.1 hq).1;have hy':us[i]? =some y:=by simpa using hy
    rw[hu i hi]at hy';injection hy' with hy';subst hy';have e0:(xs i).add (0*cs.length+0)=xs i:=by simp[Addr.add]
    rw[←e0];have hat:∀i' j c,cellAt [cs] i' j=some c→i'=0∧cellAt caps' i j=some c:=by
     intro i' j c hc';unfold cellAt at hc'⊢;cases i' with
     |zero=>rw[hq];exact⟨rfl,hc'⟩
     |succ n=>simp at hc'
    refine .ep (len:=1) (cap:=1) (.sl (fun _ j=>vs i j) rfl (ak _) (fun i' es he=>?_) (fun i' j c hc'=>?_) fun i' j c hc'=>?_) (by simp)
    ·cases i' with
     |zero=>simp at he;subst he;rfl
     |succ n=>simp at he
    ·obtain⟨rfl,q⟩:=hat i' j c hc';rw[Nat.zero_mul,bf];exact hc i j c q
    ·exact hr i j c (hat i' j c hc').2
 ·cases h
theorem Tt{_ob:OB}{z:Bool}{t:TypeId}{esz:Nat}{els:List (List Cv)}{u:Value}{N':Nat→Prop}(h:ORel w N β (.row z t esz els) u)(hN:∀g,N g→N' g)(hb:∀g,blk u=some g→N' g):XH w N' (.sl z esz els) u:=by
 obtain⟨cells,o1,o2,o3⟩:=K5 h;rcases o1.2 with⟨rfl,h0⟩|⟨g,cap,cur,rfl, -,hg,hn, -⟩
 ·have:els=[]:=cn h0;subst this;have:z=true:=o2.2 rfl;subst this;exact .nil
 ·have hzf:z=false:=by
   cases hz:z with
   |false=>rfl
   |true=>have:=o2.1 hz;cases this
  subst hzf;refine .sl (fun i j=>cells.getD (i*esz+j) undef) rfl hn o3.el (fun i j c hc=>?_) (fun i j c hc=>?_)
  ·obtain⟨x,h1,h2⟩:=o3.rel i j c hc;refine⟨hb g rfl,?_⟩;rw[o1.cells rfl _ _ h1,ac,h1];rfl
  ·obtain⟨x,h1,h2⟩:=o3.rel i j c hc;rw[ac,h1];exact h2.mono hN fun p _=>rfl
theorem N6(R:Rel base E M w0 β st tm w){v:EV}(hv:VH (Z6 st v)=true){u:Value}(h:XY w (XP M w β) β v u):XY w (fun g=>g<w.heap.size∧True) noB (Z6 st v) u:=by
 have hN:∀g,XP M w β g→g<w.heap.size∧True:=fun g hg=>⟨hg.1.1,trivial⟩;have plain:VH v=true→XY w (fun g=>g<w.heap.size∧True) noB v u:=fun hp=>(HQ (β':=noB) hp h).mono hN (fun _ _=>rfl) fun _ _=>rfl;unfold Z6 at hv⊢;split at hv
 ·rename_i b;split at hv
  ·rename_i es hb;cases h with|one h=>
   obtain⟨g,hβ,rfl⟩:=h;obtain⟨u2,hu2,g2,arr,clock,rfl,hg,hl⟩:=R.obj b _ hb;rw[hβ]at hu2;injection hu2 with hu2;injection hu2 with hu2;injection hu2 with hu2;subst hu2;exact .one (.mp (g:=g) (arr:=arr) (clock:=clock) ⟨(R.at_ b _ g hβ rfl).2,trivial⟩ hg (by simpa using hl.1) (fun i p e hp he=>(hl.2 i p e hp (by simpa using he)).1.mono hN fun _ _=>rfl) (fun i p e hp he=>(hl.2 i p e hp (by simpa using he)).2.mono hN fun _ _=>rfl))
  ·cases hv
 ·rename_i b;split at hv
  ·rename_i z t esz els hb;cases h with|one h=>
   obtain⟨hβ,_⟩:=h;obtain⟨u2,hu2,ho⟩:=R.obj b _ hb;rw[hβ]at hu2;injection hu2 with hu2;subst hu2;exact .one (Tt (_ob:= .row z t esz els) ho hN fun g hg=>⟨(R.at_ b u g hβ hg).2,trivial⟩)
  ·cases hv
 ·exact plain hv
theorem N7(R:Rel base E M w0 β st tm w):∀{vs:List EV} {us:List Value},(Gt st vs).all VH=true→Yx (XY w (XP M w β) β) vs us→Yx (XY w (fun g=>g<w.heap.size∧True) noB) (Gt st vs) us:=by
 intro vs
 induction vs with
 |nil=>intro us _ h;have:us=[]:=dj.1 h.1.symm;subst this;exact .nil
 |cons v vs ih=>
  intro us hp h;cases us with
  |nil=>have:=h.1;simp at this
  |cons u us=>
   simp only[Gt,List.all_cons,aj]at hp;exact .cons (N6 R hp.1 (h.2 0 v u rfl rfl)) (ih hp.2 ⟨by have:=h.1;simpa using this,fun j x y a b=>h.2 (j+1) x y (by simpa using a) (by simpa using b)⟩)
theorem PO {o:Oper} {f:Operand} {g:FuncId} {xs ts:Array _} {us:Array Value} {fn:Func} (ho:o.op= .call {callee:= .value f,args:=xs,argTypes:=ts}) (hfe:a.eval f= .func (.func g) #[] us) (k1:P.funcs[g]? =some fn) (k2:(fn.name== "runtime.NumGoroutine")=false) (k3:fn.body.isNone=false):
  (execOp a.eval o).run P w= .ok (.enter g (xs.map a.eval++us)) w:=by
 simp only[execOp,ho,resolve,ag,hfe,Deferred.ofValue,am,ae,invoke,callFunc];have k2':¬fn.name= "runtime.NumGoroutine" :=by simpa using k2
 have k3':¬fn.body=none:=by intro q;rw[q]at k3;cases k3
 simp[program,Sem.run,k1,k2',k3']
theorem Dh(S:XA P spec){o:Oper}{f:Operand}{xs ts:Array _}(ho:o.op= .call {callee:= .value f,args:=xs,argTypes:=ts}){p:Prop}{r:Yw}(h:ZG spec st f xs.toList=some (p,r))(hp:p){st':St}(hr:CB st o.dst r=some st'):
  PD P st o st':=by
 intro base E M w0 w β a K Q hd R J;unfold ZG at h;split at h
 ·rename_i g caps vs hf hvs;obtain⟨us,hfe,hcaps,hcp⟩:=CM R hf;have hargs:=EU R hvs;split at h
  ·rename_i hall;obtain⟨⟨fn,k1,k2,k3⟩,hcall⟩:=S g (vs++caps) p r h;have hrun:=PO (P:=P) (w:=w) ho hfe k1 k2 k3;have hM:∀g,w.heap.size≤g→(XP M w β g∨w.heap.size≤g):=fun g hg=> .inr hg;have hargs':Yx (XY w (fun g=>g<w.heap.size∧(XP M w β g∨w.heap.size≤g)) noB) (vs++caps) (xs.map a.eval++us).toList:=by
    have key:∀(l:List EV) (l':List Value),l.all VH=true→Yx (XY w (XP M w β) β) l l'→Yx (XY w (fun g=>g<w.heap.size∧(XP M w β g∨w.heap.size≤g)) noB) l l':=by
     intro l l' hl h;refine⟨h.1,fun i x y hx hy=>?_⟩;have h2:=HQ (β':=noB) ((ao.1 hl) x (bb hx)) (h.2 i x y hx hy);exact h2.mono (fun g hg=>⟨hg.1.1, .inl hg⟩) (fun _ _=>rfl) (fun _ _=>rfl)
    simpa using (key _ _ hall hargs).app (key _ _ hcp hcaps)
   have hc:=hcall hp _ w (xs.map a.eval++us) hM hargs';unfold Oper.wp;rw[hrun];simp only[Oper.upon];refine hc.mono fun e w' ⟨u,he,hb,hres⟩=>?_;subst he;simp only;have hfr:Fr base E w0 w':=R.fr.trans (Fr.of_below (hb.mono R.le));cases r with
   |val v=>
    simp only[CB,ab]at hr;subst hr;have hN:∀g,(g<w'.heap.size∧(XP M w β g∨w.heap.size≤g))→XP M w' β g:=by
     rintro g ⟨h1,h2|h2⟩
     ·exact⟨⟨h1,h2.1.2⟩,h2.2⟩
     ·refine⟨⟨h1,R.may g (.inl (bd R.le h2))⟩,fun b u' hb' hg=>?_⟩;have:=(R.at_ b u' g hb' hg).2;omega
    have hfree:∀g,XP M w β g→XP M w' β g:=fun g hg=>⟨⟨bq hg.1.1 hb.size,hg.1.2⟩,hg.2⟩;have hcell:∀g,XP M w β g→w'.heap[g]? =w.heap[g]?:=fun g hq=>hb.block g hq.1.1;have R':Rel base E M w0 β st a.tmps w':=by
     refine⟨hfr,bd R.le hb.size,fun t v hv=>?_,fun b ob hbo=>?_,fun b u' g h1 h2=>?_,R.inj,R.dom,R.cl,R.may⟩
     ·obtain⟨y,h1,h2⟩:=R.env t v hv;exact⟨y,h1,h2.mono hfree hcell fun _ _=>rfl⟩
     ·obtain⟨y,h1,h2⟩:=R.obj b ob hbo;exact⟨y,h1,h2.mono hfree hcell (fun g hg=>hb.block g (R.at_ b y g h1 hg).2) fun _ _ _ _ _ _=>rfl⟩
     ·obtain⟨h3,h4⟩:=R.at_ b u' g h1 h2;exact⟨h3,bq h4 hb.size⟩
    have hv:XY w' (XP M w' β) β v u:=(XY.mono hres hN (fun _ _=>rfl) fun b hb'=>absurd hb' (XY.no_refs hres b));exact J _ w' β (put_defers ..) (YO ..) (R'.setD hd hv fun b hb'=>absurd hb' (XY.no_refs hres b))
   |row z t esz els=>
    simp only[CB]at hr;split at hr
    ·rename_i d hdst;split at hr
     ·rename_i hH;injection hr with hr;subst hr;obtain⟨⟨cells,ho1,ho2⟩,hz⟩:=hres;have ho1':w'.ownsRow 0 t esz u els.length cells:=⟨ho1.1,ho1.2.imp id fun⟨g,cap,cur,h1,h2,h3⟩=>⟨g,cap,cur,h1,eu _,h3⟩⟩;have hblk:∀g,blk u=some g→w.heap.size≤g∧g<w'.heap.size:=by
       intro g hg;obtain⟨-,q1,q2⟩:=JU ho1';refine⟨?_,q2 g hg⟩;exact(ho1.lt g (by rw[←q1];exact hg)).1
      have hN:∀g,((g<w'.heap.size∧(XP M w β g∨w.heap.size≤g))∧blk u≠some g)→XP M w' (upd β d u) g:=by
       rintro g ⟨⟨h1,h2⟩,h3⟩;refine⟨⟨h1,?_⟩,fun b u' hb' hg=>?_⟩
       ·rcases h2 with h2|h2
        ·exact h2.1.2
        ·exact R.may g (.inl (bd R.le h2))
       ·by_cases hbd:b=d
        ·subst hbd;rw[XZ]at hb';injection hb' with hb';subst hb';exact h3 hg
        ·rw[YG _ _ hbd]at hb';rcases h2 with h2|h2
         ·exact h2.2 b u' hb' hg
         ·have:=(R.at_ b u' g hb' hg).2;omega
      have R':=R.step (w':=w') (β':=upd β d u) d (.row z t esz els) u hfr hb.size (fun g hg=>⟨fun h=>by have:=(hblk g h).1;have:=hg.1.1;omega,hb.block g hg.1.1⟩) (XZ ..) (fun c hc=>YG _ _ hc)
       (fun c u' g hc h1 h2=>⟨hb.block g (R.at_ c u' g h1 h2).2,fun h=>by have:=(hblk g h).1;have:=(R.at_ c u' g h1 h2).2;omega⟩)
       (fun g hg=>⟨.inl (bd R.le (hblk g hg).1),(hblk g hg).2⟩) (.inr (U2.of_none R.cl hH))
       (by
        have hf:=ho2.mono (w':=w') hN fun _ _=>rfl;exact⟨cells,ho1',hz,hf.el,hf.rel⟩)
       (fun xs x c h=>by cases h)
      have hput:(a.put o.dst u)=a.put (some d) u:=by rw[hdst]
      rw[hput];refine J _ w' (upd β d u) (put_defers ..) (YO ..) ?_;exact R'.setD (d:=some d) (a:=a) (fun t ht=>hd t (by rw[hdst];exact ht)) (.one ⟨XZ ..,(JU ho1').1.elim fun A ⟨c,e⟩=>⟨A,_,c,e⟩⟩) (fun b hb'=>by cases hb' with|one hb'=>injection hb' with hb';subst hb';simp[X1])
     ·cases hr
    ·cases hr
  ·split at h
   ·rename_i hall;have hargs':Yx (XY w (fun g=>g<w.heap.size∧True) noB) (Gt st vs++caps) (xs.map a.eval++us).toList:=by
     have h2:Yx (XY w (fun g=>g<w.heap.size∧True) noB) caps us.toList:=by
      refine⟨hcaps.1,fun i x y hx hy=>?_⟩;have h2:=HQ (β':=noB) ((ao.1 hcp) x (bb hx)) (hcaps.2 i x y hx hy);exact h2.mono (fun g hg=>⟨hg.1.1,trivial⟩) (fun _ _=>rfl) (fun _ _=>rfl)
     simpa using (N7 R hall hargs).app h2
    have fin:∀(p':Prop) (r':Yw) (v:EV),spec g (Gt st vs++caps)=some (p',r')→p'→setD st o.dst v=st'→(∀b,¬XR v b)→
      (∀w' u,Below w.heap.size w w'→ResOk (fun _=>True) w w' r' u→(∀g,w.heap.size≤g→g<w'.heap.size→XP M w' β g)→XY w' (XP M w' β) β v u)→o.wp P a w K Q:=by
     intro p' r' v hs hp' hst hnr hval;obtain⟨⟨fn,k1,k2,k3⟩,hcall⟩:=S g _ p' r' hs;have hrun:=PO (P:=P) (w:=w) ho hfe k1 k2 k3;have hc:=hcall hp' (fun _=>True) w (xs.map a.eval++us) (fun _ _=>trivial) hargs';unfold Oper.wp;rw[hrun];simp only[Oper.upon];refine hc.mono fun e w' ⟨u,he,hb,hres⟩=>?_;subst he;simp only;have hfr:Fr base E w0 w':=R.fr.trans (Fr.of_below (hb.mono R.le));have hfree:∀g,XP M w β g→XP M w' β g:=fun g hg=>⟨⟨bq hg.1.1 hb.size,hg.1.2⟩,hg.2⟩;have hcell:∀g,XP M w β g→w'.heap[g]? =w.heap[g]?:=fun g hq=>hb.block g hq.1.1;have R':Rel base E M w0 β st a.tmps w':=by
      refine⟨hfr,bd R.le hb.size,fun t v hv=>?_,fun b ob hbo=>?_,fun b u' g h1 h2=>?_,R.inj,R.dom,R.cl,R.may⟩
      ·obtain⟨y,h1,h2⟩:=R.env t v hv;exact⟨y,h1,h2.mono hfree hcell fun _ _=>rfl⟩
      ·obtain⟨y,h1,h2⟩:=R.obj b ob hbo;exact⟨y,h1,h2.mono hfree hcell (fun g hg=>hb.block g (R.at_ b y g h1 hg).2) fun _ _ _ _ _ _=>rfl⟩
      ·obtain⟨h3,h4⟩:=R.at_ b u' g h1 h2;exact⟨h3,bq h4 hb.size⟩
     have hnew:∀g,w.heap.size≤g→g<w'.heap.size→XP M w' β g:=fun g h1 h2=>⟨⟨h2,R.may g (.inl (bd R.le h1))⟩,fun b u' hb' hg=>by have:=(R.at_ b u' g hb' hg).2;omega⟩;have hv:=hval w' u hb hres hnew;subst hst;exact J _ w' β (put_defers ..) (YO ..) (R'.setD hd hv fun b hb'=>absurd hb' (hnr b))
    unfold SP at h;split at h
    ·rename_i p' z t esz els hs;simp only[ab,af]at h;obtain⟨rfl,rfl⟩:=h;simp only[CB,ab]at hr;refine fin p' _ _ hs hp.1 hr (fun b hb=>no_refs hb) fun w' u hb hres hnew=>?_;obtain⟨⟨cells,o1,o2⟩,oz⟩:=hres;have ho:ORel w' (fun g=>(g<w'.heap.size∧True)∧blk u≠some g) noB (.row z t esz els) u:=⟨cells,⟨o1.1,o1.2.imp id fun⟨g,cap,cur,h1,_,h3⟩=>⟨g,cap,cur,h1,eu _,h3⟩⟩,oz,o2.el,o2.rel⟩;have hv:=Tt (_ob:= .row z t esz els) (N':=fun _=>True) ho (fun _ _=>trivial) fun _ _=>trivial;refine .one (show XH w' (XP M w' β) (.sl z esz els) u from ?_);cases hv with
     |nil=>exact .nil
     | @sl A len cap _ _ us' hl hcap hz hc hrr=>
      refine .sl us' hl hcap hz (fun i j c hcc=>?_) fun i j c hcc=>?_
      ·refine⟨?_,(hc i j c hcc).2⟩;rcases o1.2 with⟨e,_⟩|⟨g,cap',cur,e,h1,h2,_⟩
       ·cases e
       ·injection e with e1;injection e1 with e1;subst e1;exact hnew g h1 (aw.1 h2).1
      ·have hm:∃v,c= .sc v:=by
        unfold cellAt at hcc;cases hq:els[i]? with
        |none=>rw[hq]at hcc;cases hcc
        |some es=>rw[hq]at hcc;exact hp.2 es (bb hq) c (bb hcc)
       obtain⟨v,rfl⟩:=hm;have:=hrr i j _ hcc;cases this with|sc h=>exact .sc h
    ·rename_i p' v hs;simp only[ab,af]at h;obtain⟨rfl,rfl⟩:=h;simp only[CB,ab]at hr;refine fin _ _ _ hs hp hr (fun b hb=>no_refs hb) fun w' u hb hres hnew=>?_;have hres':XY w' _ noB (.one (.c (.sc v))) u:=hres;cases hres' with|one hres'=>
     have h2:XH w' _ (.sc v) u:=hres';cases h2 with|sc h=>exact .one (.sc h)
    ·cases h
   ·cases h
 ·cases h
theorem dN(C:KJ P ty)(S:XA P spec){o:Oper}{p:Prop}{st':St}(h:opE ty spec st o=some (p,st'))(hp:p):PD P st o st':=by
 unfold opE at h;split at h
 ·rename_i t ho;split at h
  ·rename_i d hd;split at h
   ·rename_i st1 v h1;simp only[ab,af]at h;obtain⟨rfl,rfl⟩:=h;exact Kf (Dx C ho h1) (by rw[hd])
   ·cases h
  ·cases h
 ·rename_i t x ho;split at h
  ·rename_i d hd;split at h
   ·rename_i st1 v h1;simp only[ab,af]at h;obtain⟨rfl,rfl⟩:=h;exact Kf (Dk ho h1) (by rw[hd])
   ·cases h
  ·cases h
 ·rename_i t x v ho;split at h
  ·rename_i vx vv hx hv;split at h
   ·rename_i p' st1 h1;simp only[ab,af]at h;obtain⟨rfl,rfl⟩:=h;refine Kf (st1:=st1) (v:= .any) ?_ rfl;intro base E M w0 w β a R;obtain⟨e1, -⟩:=evO_ok R hx;obtain⟨e2,e3⟩:=evO_ok R hv;obtain⟨w',r1,r2⟩:=Ta C R h1 hp e1 e2 e3;exact⟨undef,w',β, .inr ⟨by simp[execOp,ho,r1],rfl⟩,r2, .any,fun b hb=>by cases hb⟩
   ·cases h
  ·cases h
 ·rename_i t l c ho;split at h
  ·rename_i d vl vc hd hl hc;split at h
   ·rename_i p' st1 v h1;simp only[ab,af]at h;obtain⟨rfl,rfl⟩:=h;refine Kf (st1:=st1) (v:=v) ?_ (by rw[hd]);intro base E M w0 w β a R;obtain⟨r,w',β',r1,r2,r3,r4⟩:=N2 C R h1 hp (evO_ok R hl).1 (evO_ok R hc).1;exact⟨r,w',β', .inl (by simp[execOp,ho,r1]),r2,r3,r4⟩
   ·cases h
  ·cases h
 ·rename_i t len ps ho;split at h
  ·rename_i d l hd hl;split at h
   ·rename_i p' st1 v h1;simp only[ab,af]at h;obtain⟨rfl,rfl⟩:=h;refine Kf (st1:=st1) (v:=v) ?_ (by rw[hd]);intro base E M w0 w β a R;obtain⟨k1, -⟩:=IZ R hl;obtain⟨r,w',β',r1,r2,r3,r4⟩:=SM C R h1 hp (us:=ps.map fun(p:Nat×Operand)=>(p.1,a.eval p.2)) (by simpa using k1);refine⟨r,w',β', .inl ?_,r2,r3,r4⟩;have:(ps.map fun x=>match x with|(i,x)=>(i,a.eval x))=ps.map fun(p:Nat×Operand)=>(p.1,a.eval p.2):=rfl;simp only[execOp,ho,ag,r1,ae,am]
   ·cases h
  ·cases h
 ·rename_i s x t t' ho;split at h
  ·rename_i d vs vx hd hs hx;split at h
   ·rename_i ht;subst ht;split at h
    ·rename_i p' st1 v h1;simp only[ab,af]at h;obtain⟨rfl,rfl⟩:=h;refine Kf (st1:=st1) (v:=v) ?_ (by rw[hd]);intro base E M w0 w β a R;obtain⟨r,w',β',r1,r2,r3,r4⟩:=MC C R h1 hp (evO_ok R hs).1 (evO_ok R hx).1 o.type;exact⟨r,w',β', .inl (by simp[execOp,ho,resolve,invoke,builtin,r1]),r2,r3,r4⟩
    ·cases h
   ·split at h
    ·rename_i p' st1 v h1;simp only[ab,af]at h;obtain⟨rfl,rfl⟩:=h;refine Kf (st1:=st1) (v:=v) ?_ (by rw[hd]);intro base E M w0 w β a R;obtain⟨r,w',β',r1,r2,r3,r4⟩:=MV C R h1 hp (evO_ok R hs).1 (evO_ok R hx).1 o.type;exact⟨r,w',β', .inl (by simp[execOp,ho,resolve,invoke,builtin,r1]),r2,r3,r4⟩
    ·cases h
  ·cases h
 ·rename_i t ho;split at h
  ·rename_i d hd;split at h
   ·rename_i st1 v h1;simp only[ab,af]at h;obtain⟨rfl,rfl⟩:=h;refine Kf (st1:=st1) (v:=v) ?_ (by rw[hd]);intro base E M w0 w β a R;obtain⟨r,w',β',r1,r2,r3,r4⟩:=Fy (P:=P) h1 R t;exact⟨r,w',β', .inl (by simp[execOp,ho,r1]),r2,r3,r4⟩
   ·cases h
  ·cases h
 ·rename_i t m k x ho;split at h
  ·rename_i vm vk vx hm hk hx;split at h
   ·rename_i st1 h1;simp only[ab,af]at h;obtain⟨rfl,rfl⟩:=h;refine Kf (st1:=st1) (v:= .any) ?_ rfl;intro base E M w0 w β a R;obtain⟨w',r1,r2⟩:=MW C R h1 (evO_ok R hm).1 (evO_ok R hk).1 (evO_ok R hx).1;exact⟨undef,w',β, .inr ⟨by simp[execOp,ho,r1],rfl⟩,r2, .any,fun b hb=>by cases hb⟩
   ·cases h
  ·cases h
 ·rename_i t m k x ho;split at h
  ·rename_i vm vk vx hm hk hx;split at h
   ·rename_i st1 h1;simp only[ab,af]at h;obtain⟨rfl,rfl⟩:=h;refine Kf (st1:=st1) (v:= .any) ?_ rfl;intro base E M w0 w β a R;obtain⟨w',r1,r2⟩:=MW C R h1 (evO_ok R hm).1 (evO_ok R hk).1 (evO_ok R hx).1;exact⟨undef,w',β, .inr ⟨by simp[execOp,ho,r1],rfl⟩,r2, .any,fun b hb=>by cases hb⟩
   ·cases h
  ·cases h
 ·rename_i t x lo hi ho;split at h
  ·rename_i v l h' hv1 hlo hhi;split at h
   ·rename_i p' st1 r' h1;simp only[ab,af]at h;obtain⟨rfl,rfl⟩:=h;refine Kf (st1:=st1) (v:=r') ?_ rfl;intro base E M w0 w β a R;obtain⟨r,β',r1,r2,r3,r4⟩:=WR C R h1 hp (evO_ok R hv1).1 (Zu R hlo) (Zu R hhi);exact⟨r,w,β', .inl (by simp[execOp,ho,r1]),r2,r3,r4⟩
   ·split at h
    ·rename_i p' r' h1;simp only[ab,af]at h;obtain⟨rfl,rfl⟩:=h;refine Kf (st1:=st) (v:=r') ?_ rfl;intro base E M w0 w β a R;obtain⟨r,r1,r2,r3⟩:=Bj C h1 hp (evO_ok R hv1).1 (Zu R hlo) (Zu R hhi);exact⟨r,w,β, .inl (by simp[execOp,ho,r1]),R,r2,fun b hb=>(r3 b hb).elim⟩
    ·cases h
  ·cases h
 ·rename_i f xs ts _ ho;split at h
  ·rename_i p' r h1;split at h
   ·rename_i st1 h2;simp only[ab,af]at h;obtain⟨rfl,rfl⟩:=h;exact Dh S ho h1 hp h2
   ·cases h
  ·cases h
 ·split at h
  ·rename_i p' v h1;simp only[ab,af]at h;obtain⟨rfl,rfl⟩:=h;exact Kf (TL C h1 hp) rfl
  ·cases h
end
end
section
section
variable {P:Program} {base:Nat} {E M:Nat→Prop} {w0 w w':World} {β β':K3} {st:St} {a:Act} {N:Nat→Prop} {ty:TypeId→Option Ty} {tm:Array Value} {spec:Spec}
def Jf(st:St)(ops:List Oper)(o:Oper):Option Bool:=
 match o.guard with
 |none=>some true
 |some (j,want)=>match ops[j]? with
  |some g=>match g.dst with
   |some t=>match look st.env t with
    |some (.one (.c (.sc (.bool b))))=>some (b==want)
    |some (.tup _)=>some false
    |_=>none
   |none=>none
  |none=>none
theorem Kq(R:Rel base E M w0 β st a.tmps w){ops:List Oper}{o:Oper}{c:Bool}(h:Jf st ops o=some c):Region.wanted o (yielded ops.toArray a.tmps)=c:=by
 unfold Jf at h;split at h
 ·rename_i hg;injection h with h;subst h;simp[Region.wanted,hg]
 ·rename_i j want hg;split at h
  ·rename_i g hj;split at h
   ·rename_i t ht;split at h
    ·rename_i b hb;injection h with h;subst h;obtain⟨u,hu,hr⟩:=R.env t _ hb;rw[hr.bool]at hu;simp only[Region.wanted,hg,yielded];have hj':ops.toArray[j]? =some g:=by simpa using hj
     rw[hj'];simp only[fa,ht,hu];cases b<;>cases want<;>rfl
    ·rename_i l hb;injection h with h;subst h;obtain⟨u,hu,hr⟩:=R.env t _ hb;cases hr with| @tup _ us hl _=>
     simp only[Region.wanted,hg,yielded];have hj':ops.toArray[j]? =some g:=by simpa using hj
     rw[hj'];simp only[fa,ht,hu];cases want<;>rfl
    ·cases h
   ·cases h
  ·cases h
def V5(ty:TypeId→Option Ty)(spec:Spec)(st:St)(o:Oper)(K:St→Prop):Prop:=
 match o.op with
 | .pick c x y=>(match evO st c with
  |some (.one (.c (.sc (.bool b))))=>if b=true then(match evO st x with|some v=>K (setD st o.dst v)|none=>False)else(match evO st y with|some v=>K (setD st o.dst v)|none=>False)
  |_=>False)
 |_=>match opE ty spec st o with
  |some (p,st')=>p∧K st'
  |none=>False
theorem Zv(C:KJ P ty)(S:XA P spec){o:Oper}{K:St→Prop}(h:V5 ty spec st o K)(R:Rel base E M w0 β st a.tmps w)(hd:∀t,o.dst=some t→t<a.tmps.size){K':Act→World→Prop}{Q:Exit→Act→World→Prop}
  (J:∀st' a' w' β',K st'→a'.defers=a.defers→a'.tmps.size=a.tmps.size→Rel base E M w0 β' st' a'.tmps w'→K' a' w'):o.wp P a w K' Q:=by
 unfold V5 at h;split at h
 ·rename_i c x y ho;split at h
  ·rename_i b hc;have hcv:=(evO_ok R hc).1.bool;cases b with
   |true=>
    have h1:=h;rw[if_pos rfl]at h1;split at h1
    ·rename_i v hv;obtain⟨e1,e2⟩:=evO_ok R hv;have:(execOp a.eval o).run P w= .ok (.value (a.eval x)) w:=by simp[execOp,ho,hcv,asBool]
     unfold Oper.wp;rw[this];exact J _ (a.put o.dst (a.eval x)) w β h1 (put_defers ..) (YO ..) (R.setD hd e1 e2)
    ·exact h1.elim
   |false=>
    have h2:=h;rw[if_neg (by simp)]at h2;split at h2
    ·rename_i v hv;obtain⟨e1,e2⟩:=evO_ok R hv;have:(execOp a.eval o).run P w= .ok (.value (a.eval y)) w:=by simp[execOp,ho,hcv,asBool]
     unfold Oper.wp;rw[this];exact J _ (a.put o.dst (a.eval y)) w β h2 (put_defers ..) (YO ..) (R.setD hd e1 e2)
    ·exact h2.elim
  ·exact h.elim
 ·split at h
  ·rename_i p st' hop;exact dN C S hop h.1 K' Q hd R fun a' w' β' h1 h2 h3=>J st' a' w' β' h.2 h1 h2 h3
  ·exact h.elim
def EP(ty:TypeId→Option Ty)(spec:Spec)(ops:List Oper):List Oper→(St→Prop)→St→Prop
 |[],Q,st=>Q st
 |o::r,Q,st=>match Jf st ops o with
  |some true=>V5 ty spec st o (EP ty spec ops r Q)
  |some false=>EP ty spec ops r Q (setD st o.dst (.tup []))
  |none=>False
def JZ(n:Nat)(ops:List Oper):Bool:=ops.all fun o=>match o.dst with|some d=>Nat.blt d n|none=>true
theorem Gy{n:Nat}{ops:List Oper}(h:JZ n ops=true){o:Oper}(ho:o∈ops):∀t,o.dst=some t→t<n:=by
 intro t ht;have:=(ao.1 h) o ho;rw[ht]at this
 rwa[jh]at this
theorem Sf(C:KJ P ty)(S:XA P spec){ops:List Oper}{Q:St→Prop}{Q':Exit→Act→World→Prop}{n:Nat}{df:List Deferred}(hops:JZ n ops=true)
  (hQ:∀st' a' w' β',Q st'→a'.defers=df→a'.tmps.size=n→Rel base E M w0 β' st' a'.tmps w'→Q' .normal a' w'):
  ∀(r:List Oper) (k:Nat) (st:St) (a:Act) (w:World) (β:K3),ops.drop k=r→a.defers=df→a.tmps.size=n→Rel base E M w0 β st a.tmps w→EP ty spec ops r Q st→wpOps P ops.toArray Q' (List.range' k r.length) a w:=by
 intro r
 induction r with
 |nil=>
  intro k st a w β hk hdf hn R h;exact hQ st a w β h hdf hn R
 |cons o r ih=>
  intro k st a w β hk hdf hn R h;have hok:ops[k]? =some o:=by
   have:(ops.drop k)[0]? =some o:=by rw[hk];rfl
   simpa using this
  have hk':ops.drop (k+1)=r:=by
   have:(ops.drop k).drop 1=r:=by rw[hk];rfl
   simpa[Nat.add_comm]using this
  have hdst:=Gy hops (bb hok);rw[cm,gy,wpOps_cons];unfold wpOp;have hok':ops.toArray[k]? =some o:=by simpa using hok
  rw[hok'];simp only;simp only[EP]at h;split at h
  ·rename_i hc;have hw:=Kq R hc
   ·rw[if_pos hw];refine .inl (Zv C S h R (by rw[hn];exact hdst) fun st' a' w' β' h1 h2 h3 h4=>ih (k+1) st' a' w' β' hk' (by rw[h2,hdf]) (by rw[h3,hn]) h4 h1)
  ·rename_i hc;have hw:=Kq R hc
   ·rw[if_neg (by rw[hw];simp)];exact ih (k+1) _ _ w β hk' (by rw[put_defers,hdf]) (by rw[YO,hn]) (R.setD (by rw[hn];exact hdst) (.tup (us:=#[]) rfl fun i x u h=>by simp at h) fun b hb=>by cases hb with|tup h1 h2=>simp at h1) h
  ·exact h.elim
structure St.Le(s s':St):Prop where
 env:∀t v,look s'.env t=some v→look s.env t=some v
 H:∀b ob,look s'.H b=some ob→look s.H b=some ob
 cl:DH s'
theorem Rel.le_{st':St}(R:Rel base E M w0 β st tm w)(h:St.Le st st'):∃β',Rel base E M w0 β' st' tm w:=by
 let β':K3:=fun b=>if look st'.H b=none then none else β b
 have hin:∀b,look st'.H b≠none→β' b=β b:=fun b hb=>if_neg hb;have hsub:∀b u,β' b=some u→β b=some u:=by
  intro b u hb;by_cases h0:look st'.H b=none
  ·have:β' b=none:=if_pos h0;rw[this]at hb;cases hb
  ·rw[hin b h0]at hb;exact hb
 have hN:∀g,XP M w β g→XP M w β' g:=fun g hg=>⟨hg.1,fun b u hb=>hg.2 b u (hsub b u hb)⟩;refine⟨β',R.fr,R.le,fun t v hv=>?_,fun b ob hb=>?_,fun b u g hb hg=>R.at_ b u g (hsub b u hb) hg,fun b c u v g h1 h2=>R.inj b c u v g (hsub _ _ h1) (hsub _ _ h2),fun b u hb=>?_,h.cl,R.may⟩
 ·obtain⟨u,hu,hr⟩:=R.env t v (h.env t v hv);exact⟨u,hu,hr.mono hN (fun _ _=>rfl) fun b hb=>hin b (h.cl.env t v b hv hb)⟩
 ·obtain⟨u,hu,hr⟩:=R.obj b ob (h.H b ob hb);refine⟨u,by rw[hin b (by rw[hb];simp)];exact hu,hr.mono hN (fun _ _=>rfl) (fun _ _=>rfl) fun xs x c hxs hx hc=>hin c ?_⟩;subst hxs;exact h.cl.obj b xs x c hb hx hc
 ·intro h0;have:β' b=none:=if_pos h0;rw[this]at hb;cases hb
theorem Rel.adopt(R:Rel base E M w0 β st tm w){t b:Nat}{e:Nat}(ht:look st.env t=some (.one (.c (.sl true e []))))(hb:look st.H b=none)(el:TypeId)(esz:Nat):
  ∃β',Rel base E M w0 β' {env:=put st.env t (.one (.own b)),H:=put st.H b (.row true el esz [])} tm w:=by
 have hβ:β b=none:=by
  cases hq:β b with
  |none=>rfl
  |some y=>exact absurd hb (R.dom b y hq)
 obtain⟨u,hu,hr⟩:=R.env t _ ht;cases hr with|one hr=>
 have hr':XH w (XP M w β) (.sl true e []) u:=hr;have hun:u= .slice none 0 0:=by cases hr';rfl
 subst hun;have R':=R.step (w':=w) (β':=upd β b (.slice none 0 0)) b (.row true el esz []) (.slice none 0 0) R.fr (ak _) (fun g hg=>⟨(by intro q;cases q),rfl⟩) (XZ ..) (fun c hc=>YG _ _ hc)
  (fun c u' g hc h1 h2=>⟨rfl,(by intro q;cases q)⟩) (fun g hg=>by cases hg) (.inr (U2.of_none R.cl hb))
  ⟨[],World.ownsRow_nil w 0 el esz,by simp,fun i es h=>by simp at h,fun i j c h=>by simp[cellAt]at h⟩ (fun xs x c h=>by cases h)
 have hlt:t<tm.size:=(aw.1 hu).1;have R'':=R'.putv (d:=t) (v:= .one (.own b)) hlt (.one ⟨XZ ..,_,_,_,rfl⟩) (fun c hc=>by cases hc with|one hc=>injection hc with hc;subst hc;simp[X1]);refine⟨upd β b (.slice none 0 0),?_⟩;have e:tm.setIfInBounds t (.slice none 0 0)=tm:=by
  apply gj;intro i;rw[db];by_cases hi:t=i
  ·subst hi;rw[if_pos rfl,if_pos hlt];exact hu.symm
  ·rw[if_neg hi]
 rw[e]at R'';exact R''
inductive Gh:St→St→Prop
 |le {s s':St} (h:St.Le s s'):Gh s s'
 |adopt {s:St} {t b e:Nat} (ht:look s.env t=some (.one (.c (.sl true e [])))) (hb:look s.H b=none) (el:TypeId) (esz:Nat):Gh s {env:=put s.env t (.one (.own b)),H:=put s.H b (.row true el esz [])}
 |frz {s:St} {b:Nat} {z:Bool} {t:TypeId} {esz:Nat} {els:List (List Cv)} (hb:look s.H b=some (.row z t esz els)):Gh s (Vx b (.sl z esz els) s)
 |trans {a b c:St} (h:Gh a b) (k:Gh b c):Gh a c
theorem Gh.ok{s s':St}(h:Gh s s'):∀{β:K3},Rel base E M w0 β s tm w→∃β',Rel base E M w0 β' s' tm w:=by
 induction h with
 |le h=>intro β R;exact R.le_ h
 |adopt ht hb el esz=>intro β R;exact R.adopt ht hb el esz
 |frz hb=>intro β R;exact⟨_,(R.freeze hb).1⟩
 |trans _ _ ih1 ih2=>intro β R;obtain⟨β1,R1⟩:=ih1 R;exact ih2 R1
abbrev Uy:=Exit→St→Prop
def ZZ(n:Nat)(base:Nat)(E M:Nat→Prop)(w0:World)(Q:Uy):Exit→Act→World→Prop:=fun e a w=>∃st β,Q e st∧a.defers=[]∧a.tmps.size=n∧Rel base E M w0 β st a.tmps w
def Wp(P:Program)(n:Nat)(c:Code)(Q:Uy)(st:St):Prop:=
 ∀⦃base:Nat⦄ ⦃E M:Nat→Prop⦄ ⦃w0 w:World⦄ ⦃β:K3⦄ ⦃a:Act⦄,a.defers=[]→a.tmps.size=n→Rel base E M w0 β st a.tmps w→c.wp P (ZZ n base E M w0 Q) a w
variable {n:Nat} {Q:Uy}
theorem Wp.gh{c:Code}{s s':St}(h:Gh s s')(k:Wp P n c Q s'):Wp P n c Q s:=by
 intro base E M w0 w β a hd hn R;obtain⟨β',R'⟩:=h.ok R;exact k hd hn R'
theorem Wp.skip{s:St}(h:Q .normal s):Wp P n .skip Q s:=by
 intro base E M w0 w β a hd hn R;exact wp_skip ⟨s,_,h,hd,hn,R⟩
theorem Wp.exit{s:St}{i:Nat}(h:Q (.exit i) s):Wp P n (.exit i) Q s:=by
 intro base E M w0 w β a hd hn R;exact wp_exit ⟨s,_,h,hd,hn,R⟩
theorem Wp.ret{s:St}(h:Q .ret s):Wp P n .ret Q s:=by
 intro base E M w0 w β a hd hn R;exact wp_ret ⟨s,_,h,hd,hn,R⟩
def XW(next:St→Prop)(Q:Uy):Uy:=fun e st=>match e with| .normal=>next st|e=>Q e st
def XG(id:Nat)(Q:Uy):Uy:=fun e st=>match e with| .exit i=>if i=id then Q .normal st else Q (.exit i) st|e=>Q e st
theorem Wp.seq{x y:Code}{s:St}(h:Wp P n x (XW (Wp P n y Q) Q) s):Wp P n (.seq x y) Q s:=by
 intro base E M w0 w β a hd hn R;refine wp_seq (wp_mono (h hd hn R) fun e a' w' ⟨st,β',h1,h2,h3,h4⟩=>?_);cases e with
 |normal=>exact h1 h2 h3 h4
 |_=>exact⟨st,β',h1,h2,h3,h4⟩
theorem Wp.cond{c:Operand}{x y:Code}{s:St}{b:Bool}(hc:evO s c=some (bv b))(h1:b=true→Wp P n x Q s)(h2:b=false→Wp P n y Q s):Wp P n (.cond c x y) Q s:=by
 intro base E M w0 w β a hd hn R;have:=(evO_ok R hc).1.bool;exact wp_cond_split this (fun h=>h1 h hd hn R) (fun h=>h2 h hd hn R)
theorem Wp.block{id:Nat}{c:Code}{s:St}(h:Wp P n c (XG id Q) s):Wp P n (.block id c) Q s:=by
 intro base E M w0 w β a hd hn R;refine wp_block (wp_mono (h hd hn R) fun e a' w' ⟨st,β',h1,h2,h3,h4⟩=>?_);cases e with
 |exit i=>
  simp only[XG]at h1;simp only[Exit.inBlock];split
  ·rename_i hi;rw[if_pos hi]at h1;exact⟨st,β',h1,h2,h3,h4⟩
  ·rename_i hi;rw[if_neg hi]at h1;exact⟨st,β',h1,h2,h3,h4⟩
 |_=>exact⟨st,β',h1,h2,h3,h4⟩
theorem Wp.loop{c:Code}{s:St}(I:Nat→St→Prop)(k:Nat){s0:St}(hg:Gh s s0)(h0:I k s0)(hr:∀k s,I k s→Wp P n c (XW (fun s'=>∃s'' k',Gh s' s''∧k'<k∧I k' s'') Q) s):Wp P n (.loop c) Q s:=by
 intro base E M w0 w β a hd hn R;obtain⟨β0,R0⟩:=hg.ok R;intro b ks cs;have key:∀k (s:St) (a:Act) (w:World) (β:K3),I k s→a.defers=[]→a.tmps.size=n→Rel base E M w0 β s a.tmps w→
   ∃e a' w',ZZ n base E M w0 Q e a' w'∧Arrives P (lone (b.at a (.code c:: .inLoop c::ks)) cs w) b ks cs e a' w':=by
  intro k
  induction k using Nat.strongRecOn with
  |_ k ih=>
   intro s a w β hI hd hn R;obtain⟨e,a₁,w₁,⟨st,β',h1,h2,h3,h4⟩,harr⟩:=hr k s hI hd hn R b (.inLoop c::ks) cs;cases e with
   |normal=>
    obtain⟨s2,k',g2,hlt,hI2⟩:=h1;obtain⟨β2,R2⟩:=g2.ok h4;obtain⟨e₂,a₂,w₂,hq₂,harr₂⟩:=ih k' hlt s2 a₁ w₁ β2 hI2 h2 h3 R2;exact⟨e₂,a₂,w₂,hq₂, .of_steps (Steps.trans harr (.one step_inLoop)) harr₂⟩
   |exit id=>exact⟨_,a₁,w₁,⟨st,β',h1,h2,h3,h4⟩, .pass (x:= .inLoop c) rfl (fun _ _=> .inl (by simp)) harr⟩
   |goto l=>exact⟨_,a₁,w₁,⟨st,β',h1,h2,h3,h4⟩, .pass (x:= .inLoop c) rfl (fun _ _=> .inl (by simp)) harr⟩
   |ret=>exact⟨_,a₁,w₁,⟨st,β',h1,h2,h3,h4⟩, .pass (x:= .inLoop c) rfl (fun _ _=> .inl (by simp)) harr⟩
   |panic ch=>exact⟨_,a₁,w₁,⟨st,β',h1,h2,h3,h4⟩, .pass (x:= .inLoop c) rfl (fun _ _=> .inl (by simp)) harr⟩
   |outgrown=>exact⟨_,a₁,w₁,⟨st,β',h1,h2,h3,h4⟩, .pass (x:= .inLoop c) rfl (fun _ _=> .inl (by simp)) harr⟩
 obtain⟨e,a',w',hq,harr⟩:=key k s0 a w β0 h0 hd hn R0;exact⟨e,a',w',hq, .of_steps (.one step_loop) harr⟩
theorem Wp.region(C:KJ P ty)(S:XA P spec){id:Nat}{ops:Array Oper}{s:St}(ho:JZ n ops.toList=true)(h:EP ty spec ops.toList ops.toList (Q .normal) s):Wp P n (.region id ops false) Q s:=by
 intro base E M w0 w β a hd hn R;refine wp_region ?_;have:=Sf (P:=P) C S (Q:=Q .normal) (Q':=ZZ n base E M w0 Q) (df:=[]) ho (fun st' a' w' β' h1 h2 h3 h4=>⟨st',β',h1,h2,h3,h4⟩) ops.toList 0 s a w β rfl hd hn R h;rw[gt];simpa using this
end
end
section
section
variable {P:Program} {base:Nat} {E M:Nat→Prop} {w0 w w':World} {β β':K3} {st:St} {a:Act} {N:Nat→Prop} {ty:TypeId→Option Ty} {tm:Array Value} {spec:Spec} {n:Nat}
def PS(ty:TypeId→Option Ty)(st:St):List ResultVar→Option (Prop×List EV)
 |[]=>some (True,[])
 | .tmp t::r=>match look st.env t,PS ty st r with
  |some v,some (p,l)=>some (p,v::l)
  |_,_=>none
 | .cell t T::r=>match look st.env t,PS ty st r with
  |some x,some (p,l)=>(match H3 ty st T x with|some (q,v)=>some (q∧p,v::l)|none=>none)
  |_,_=>none
def cW:List EV→EV
 |[v]=>v
 |l=> .tup l
theorem PR(C:KJ P ty)(R:Rel base E M w0 β st tm w){fn:Func}{p:Prop}{l:List EV}(h:PS ty st fn.results.toList=some (p,l))(hp:p):
  ∃u,(results fn tm).run P w= .ok u w∧XY w (XP M w β) β (cW l) u:=by
 have key:∀(rs:List ResultVar) (p:Prop) (l:List EV),PS ty st rs=some (p,l)→p→
   ∃us,(rs.mapM (fun(r:ResultVar)=>(match r with| .tmp t=>pure (tm.getD t undef)| .cell a t=>do loadVar t (←asAddr (tm.getD a undef)):Sem Value))).run P w= .ok us w∧Yx (XY w (XP M w β) β) l us:=by
  intro rs
  induction rs with
  |nil=>
   intro p l h _;simp only[PS,ab,af]at h;obtain⟨_,rfl⟩:=h;exact⟨[],by simp, .nil⟩
  |cons r rs ih=>
   intro p l h hp;cases r with
   |tmp t=>
    simp only[PS]at h;split at h
    ·rename_i v p' l' hv hl;simp only[ab,af]at h;obtain⟨rfl,rfl⟩:=h;obtain⟨us,g1,g2⟩:=ih _ _ hl hp;obtain⟨u,hu,hr⟩:=R.env t v hv;refine⟨u::us,?_, .cons hr g2⟩;simp only[jt,ag,am,ae,bi,hu,ec];simp only[bi]at g1;rw[g1];rfl
    ·cases h
   |cell t T=>
    simp only[PS]at h;split at h
    ·rename_i x p' l' hx hl;split at h
     ·rename_i q v hv;simp only[ab,af]at h;obtain⟨rfl,rfl⟩:=h;obtain⟨us,g1,g2⟩:=ih _ _ hl hp.2;obtain⟨u,hu,hr⟩:=R.env t x hx;obtain⟨r,r1,r2, -⟩:=Iz (a:=⟨tm,[]⟩) C R hv hp.1 hr;refine⟨r::us,?_, .cons r2 g2⟩;have hl1:(do loadVar T (←asAddr u):Sem Value).run P w= .ok r w:=by
       cases u with
       |pointer A=>
        cases A with
        |some A=>simpa[Instr.loadAt,Instr.sureAddr,asAddr]using r1
        |none=>simp[Instr.loadAt,Instr.sureAddr,stuck,Sem.run]at r1
       |_=>simp[Instr.loadAt,Instr.sureAddr,stuck,Sem.run]at r1
      simp only[jt,ag,bi,hu,ec];simp only[bi]at g1;simp only[ag]at hl1;rw[hl1];simp only[ae];rw[g1];rfl
     ·cases h
    ·cases h
 obtain⟨us,g1,g2⟩:=key _ _ _ h hp;refine⟨if h:us.length=1 then us[0]else .tuple us.toArray,?_,?_⟩
 ·have hrun:(results fn tm).run P w= .ok (if h:us.toArray.size=1 then us.toArray[0]else .tuple us.toArray) w:=by
   unfold results;rw[jg];simp only[ag,Sem.run_map,am]
   erw [g1]
   rfl
  rw[hrun];simp only[List.size_toArray];rfl
 ·match l,us,g2 with
  |[v],[u],g2=>simpa[cW]using g2.2 0 v u rfl rfl
  |[],[],g2=>exact .tup rfl (fun i x u h=>by simp at h)
  |a::b::l,x::y::us,g2=>
   rw[dif_neg (by simp)];exact .tup (by have:=g2.1;simpa using this) (fun i x u h1 h2=>g2.2 i x u h1 (by simpa using h2))
  |[],_::_,g2=>have:=g2.1;simp at this
  |_::_,[],g2=>have:=g2.1;simp at this
  |[_],_::_::_,g2=>have:=g2.1;simp at this
  |_::_::_,[_],g2=>have:=g2.1;simp at this
def CU(ty:TypeId→Option Ty)(rs:List ResultVar)(r:Yw)(st:St):Prop:=
 match PS ty st rs with
 |some (p,l)=>p∧(match r with
  | .val v=>cW l=v∧∀b,¬XR v b
  | .row z t esz els=>∃b,cW l= .one (.own b)∧look st.H b=some (.row z t esz els))
 |none=>False
def Gx(ty:TypeId→Option Ty)(rs:List ResultVar)(r:Yw):Uy:=fun e st=>match e with| .normal| .ret=>CU ty rs r st|_=>False
def JW(vs:List EV):St:={env:=(List.range vs.length).zip vs,H:=[]}
theorem Iy(vs:List EV)(k:Nat):∀t,look (((List.range' k vs.length)).zip vs) t=if k≤t then vs[t - k]? else none:=by
 induction vs generalizing k with
 |nil=>intro t;simp[look]
 |cons v vs ih=>
  intro t;simp only[cm,gy,List.zip_cons_cons,look];by_cases h:k=t
  ·subst h;simp
  ·rw[if_neg h,ih];by_cases h1:k≤t
   ·rw[if_pos (by omega),if_pos h1];have:t - k=(t - (k+1))+1:=by omega
    rw[this];simp
   ·rw[if_neg (by omega),if_neg h1]
theorem Iu{β:K3}{v:EV}{u:Value}{N N':Nat→Prop}(h:XY w N β v u)(hr:∀b,¬XR v b)(hN:∀g,N g→N' g):XY w N' noB v u:=
 h.mono hN (fun _ _=>rfl) fun b hb=>absurd hb (hr b)
theorem aD(C:KJ P ty){f:FuncId}{fn:Func}{c:Code}{vs:List EV}{r:Yw}(hf:P.funcs[f]? =some fn)(hb:fn.body=some c)(hn:vs.length≤fn.ntmps)
  (h:Wp P fn.ntmps c (Gx ty fn.results.toList r) (JW vs)):Xq P f vs r:=by
 intro M w us hM hargs;have hsz:vs.length=us.size:=by simpa using hargs.1
 have R:Rel w.heap.size (fun _=>False) M w noB (JW vs) (us++Array.replicate (fn.ntmps - us.size) undef) w:=by
  have hl:∀t v,look (JW vs).env t=some v→vs[t]? =some v:=by
   intro t v hv;have:=Iy vs 0 t;simp only[JW,gt]at hv;rw[this]at hv;simpa using hv
  refine⟨Fr.refl _ _ _,ak _,fun t v hv=>?_,fun b ob hb=>(by simp[JW,look]at hb),fun b u g hb=>(by cases hb),fun b c u v g hb=>(by cases hb),fun b u hb=>(by cases hb),⟨fun t v b hv hr=>?_,fun k xs x b hk=>(by simp[JW,look]at hk)⟩,fun g hg=>hM g (hg.elim id fun h=>h.elim)⟩
  ·obtain⟨u,hu,hr⟩:=hargs.get (hl t v hv);have ht:t<us.size:=by have:=(ah.1 hu).1;simpa using this
   refine⟨u,?_,hr.mono (fun g hg=>⟨hg,fun b u hb=>(by cases hb)⟩) (fun _ _=>rfl) fun _ _=>rfl⟩;rw[fq ht];simpa using hu
  ·obtain⟨u,hu,hr'⟩:=hargs.get (hl t v hv);exact absurd hr (XY.no_refs hr' b)
 refine calls_of_wp hf hb (wp_mono (h rfl (by simp;omega) R) fun e a w' ⟨st,β,hq,hd,hs,R'⟩=>?_);have fin:CU ty fn.results.toList r st→∃v,(results fn a.tmps).run P w'= .ok v w'∧∃u,Ending.returned v= .returned u∧Below w.heap.size w w'∧ResOk M w w' r u:=by
  intro hfin;unfold CU at hfin;split at hfin
  ·rename_i p l hl;obtain⟨hp,hfin⟩:=hfin;obtain⟨u,hu,hr⟩:=PR C R' hl hp;refine⟨u,hu,u,rfl,R'.fr.below,?_⟩;cases r with
   |val v=>
    obtain⟨rfl,href⟩:=hfin;exact Iu hr href fun g hg=>hg.1
   |row z t esz els=>
    obtain⟨b,hv,hb⟩:=hfin;rw[hv]at hr;cases hr with|one hr=>
    obtain⟨hβ,_⟩:=hr;obtain⟨u2,hu2,ho⟩:=R'.obj b _ hb;rw[hβ]at hu2;injection hu2 with hu2;subst hu2;obtain⟨cells,o1,o2,o3⟩:=K5 ho;refine⟨⟨cells,⟨o1.1,o1.2.imp id fun⟨g,cap,cur,h1,_,h3⟩=>⟨g,cap,cur,h1,?_,h3⟩⟩,o3.mono (fun g hg=>⟨hg.1,hg.2 b u hβ⟩) fun _ _=>rfl⟩,o2⟩;rcases(R'.at_ b u g hβ (by rw[h1];rfl)).1 with h|h
    ·exact h
    ·exact h.elim
  ·exact hfin.elim
 cases e with
 |normal=>obtain⟨v,h1,h2⟩:=fin hq;exact⟨hd,v,h1,h2⟩
 |ret=>obtain⟨v,h1,h2⟩:=fin hq;exact⟨hd,v,h1,h2⟩
 |_=>exact hq.elim
end
end
def kF:Value→Cv
 | .slice none _ _=> .sl true 0 []
 |v=> .sc v
def D(P:Program)(t:TypeId):TypeDesc:=(P.underlying t).getD .bool
def isA:Value→Bool
 | .agg _=>true
 |_=>false
def isT:Value→Bool
 | .tuple _=>true
 |_=>false
def okZ(d:TypeDesc)(n:Nat)(z:Value):Bool:=Sim.YQ z&&decide (z.cells.size=n)&&(bZ d==isA z)&&!isT z
def eqD(P:Program)(t:TypeId):Bool:=match D P t with| .struct _=>!P.stoodInHeld t&&!P.eqGuardType P.depth t|_=>false
def Yk(P:Program)(t:TypeId):Option Ty:=
 match P.underlying t,P.info? t with
 |some _,some i=>match i.zero with
  |some z=>if okZ (D P t) i.size z=true
    then some {desc:=D P t,size:=i.size,bytes:=i.bytes,zero:=z.cells.toList.map kF,agg:=bZ (D P t),eq:=eqD P t}else none
  |none=>none
 |_,_=>none
theorem OG{v:Value}(h:Sim.Xy v=true)(w:World)(N:Nat→Prop):XH w N (kF v) v:=by
 unfold Sim.Xy at h;split at h<;>first
  |(simp only[kF];exact .sc rfl)
  |(simp only[kF];exact .nil)
  |cases h
theorem Ey{z:Value}(h:Sim.YQ z=true)(ht:∀us,z≠ .tuple us):∀c∈z.cells.toList,Sim.Xy c=true:=by
 unfold Sim.YQ at h;split at h
 ·rename_i cs;have key:∀l:List Value,(List.rec (motive:=fun _=>Bool) true (fun c _ r=>match Sim.Xy c with|true=>r|false=>false) l:Bool)=true→∀c∈l,Sim.Xy c=true:=by
   intro l
   induction l with
   |nil=>intro _ c hc;simp at hc
   |cons a l ih=>
    intro hl c hc;have hl':(match Sim.Xy a with|true=>(List.rec (motive:=fun _=>Bool) true (fun c _ r=>match Sim.Xy c with|true=>r|false=>false) l:Bool)|false=>false)=true:=hl;cases ha:Sim.Xy a with
    |false=>rw[ha]at hl';cases hl'
    |true=>
     rw[ha]at hl';rcases av.1 hc with rfl|hc
     ·exact ha
     ·exact ih hl' c hc
  exact fun c hc=>key _ h c hc
 ·exact absurd rfl (ht _)
 ·intro c hc;cases z<;>first
   |(simp[Value.cells]at hc;subst hc;exact h)
   |(rename_i hno _;exact absurd rfl (hno _))
theorem Xl(P:Program):KJ P (Yk P):=by
 intro t T h;unfold Yk at h;split at h
 ·rename_i d i hu hi;split at h
  ·rename_i z hz;split at h
   ·rename_i hc;injection h with h;subst h;simp only[okZ,aj,al,beq_iff_eq,kl]at hc;obtain⟨⟨⟨h1,h2⟩,h3⟩,h4⟩:=hc;have hnt:∀us,z≠ .tuple us:=by rintro us rfl;simp[isT]at h4
    have hcc:=Ey h1 hnt;refine⟨by simp[D,hu],rfl,⟨i,z,hi,rfl,rfl,hz,fun w N=>⟨by simp,fun k x y hx hy=>?_⟩,by simpa using h2,fun ha=>?_,fun ha=>?_⟩,fun he=>?_⟩
    ·rw[an]at hx;rw[hy]at hx;simp at hx;subst hx;exact OG (hcc y (bb hy)) w N
    ·have ha':bZ (D P t)=true:=ha;rw[ha']at h3;cases z<;>simp[isA]at h3;exact⟨_,rfl⟩
    ·have ha':bZ (D P t)=false:=ha;rw[ha']at h3;cases z<;>simp[isA]at h3<;>first|rfl|(exact absurd rfl (hnt _))
    ·have he:eqD P t=true:=he;unfold eqD at he;split at he
     ·simpa using he
     ·cases he
   ·cases h
  ·cases h
 ·cases h
theorem Xk{P:Program}{ty:TypeId→Option Ty}(C:KJ P ty){f:FuncId}{fn:Func}{c:Code}{vs:List EV}{r:Yw}{n:Nat}{rs:List ResultVar}(hf:P.funcs[f]? =some fn)(hb:fn.body=some c)(hn:fn.ntmps=n)(hr:fn.results.toList=rs)(hl:vs.length≤n)
  (h:Wp P n c (Gx ty rs r) (JW vs)):Xq P f vs r:=by
 subst hn;subst hr;exact aD C hf hb hl h
section
section
variable {P:Program} {ty:TypeId→Option Ty} {spec:Spec} {n:Nat} {Q:Uy} {s:St}
theorem aG(k:IntKind)(i:Int):cEV (.int k i)=some (.one (.c (.sc (.int k i)))):=rfl
theorem OX(b:Bool):cEV (.bool b)=some (.one (.c (.sc (.bool b)))):=rfl
theorem aE(b:ByteArray):cEV (.string b)=some (.one (.c (.sc (.string b)))):=rfl
theorem aF:cEV (.slice none 0 0)=some (.one (.c (.sl true 0 []))):=rfl
theorem gD(f:Fn)(a b:Array Value):cEV (.func f a b)=some (.one (.c (.sc (.func f a b)))):=rfl
theorem lV(a:EV):JW [a]=⟨[(0,a)],[]⟩:=rfl
theorem lW:JW []=⟨[],[]⟩:=rfl
theorem lU(a b:EV):JW [a,b]=⟨[(0,a),(1,b)],[]⟩:=rfl
theorem lT(a b c:EV):JW [a,b,c]=⟨[(0,a),(1,b),(2,c)],[]⟩:=rfl
theorem lS(a b c d:EV):JW [a,b,c,d]=⟨[(0,a),(1,b),(2,c),(3,d)],[]⟩:=rfl
theorem lR(a b c d e:EV):JW [a,b,c,d,e]=⟨[(0,a),(1,b),(2,c),(3,d),(4,e)],[]⟩:=rfl
theorem lQ(a b c d e f:EV):JW [a,b,c,d,e,f]=⟨[(0,a),(1,b),(2,c),(3,d),(4,e),(5,f)],[]⟩:=rfl
theorem Wp.seqk{x y:Code}(h:∀K:St→Prop,(∀st,Wp P n y Q st→K st)→Wp P n x (XW K Q) s):Wp P n (.seq x y) Q s:=Wp.seq (h _ fun _ h=>h)
theorem Wp.rk(C:KJ P ty)(S:XA P spec){id:Nat}{ops:Array Oper}{y:Code}(ho:JZ n ops.toList=true)(h:∀K:St→Prop,(∀st,Wp P n y Q st→K st)→EP ty spec ops.toList ops.toList K s):Wp P n (.seq (.region id ops false) y) Q s:=
 Wp.seq (Wp.region C S ho (h _ fun _ h=>h))
theorem Wp.rl(C:KJ P ty)(S:XA P spec){id:Nat}{ops:Array Oper}(ho:JZ n ops.toList=true)(h:∀K:St→Prop,(∀st,Q .normal st→K st)→EP ty spec ops.toList ops.toList K s):Wp P n (.region id ops false) Q s:=
 Wp.region C S ho (h _ fun _ h=>h)
end
end
section
section
variable {P:Program} {base:Nat} {E M:Nat→Prop} {w0 w w':World} {β β':K3} {st s s':St} {a:Act} {N:Nat→Prop} {ty:TypeId→Option Ty} {tm:Array Value} {spec:Spec} {n:Nat}
theorem LV{t:TypeId}{x:EV}{r:Prop×EV}(hH:∀b ob,look s.H b=some ob→look s'.H b=some ob)(h:H3 ty s t x=some r):H3 ty s' t x=some r:=by
 cases hT:ty t with
 |none=>simp[H3,hT]at h
 |some T=>
  simp only[H3,hT]at h⊢;cases x with
  |one x=>
   cases x with
   |ptr b off=>
    cases hb:look s.H b with
    |none=>simp[hb]at h
    |some ob=>simp only[hb]at h;simp only[hH _ _ hb];exact h
   |_=>exact h
  |rp b esz i off=>
   cases hb:look s.H b with
   |none=>simp[hb]at h
   |some ob=>simp only[hb]at h;simp only[hH _ _ hb];exact h
  |_=>exact h
theorem Q8{t:TypeId}{x i:EV}{r:Prop×EV}(hH:∀b ob,look s.H b=some ob→look s'.H b=some ob)(h:X7 ty s t x i=some r):X7 ty s' t x i=some r:=by
 by_cases hx:∃b,x= .one (.own b)
 ·obtain⟨b,rfl⟩:=hx;have key:look s.H b=none∨look s.H b=look s'.H b:=by
   cases hb:look s.H b with
   |none=>exact .inl rfl
   |some ob=>exact .inr (hH _ _ hb).symm
  rcases key with key|key
  ·exfalso;unfold X7 at h;split at h
   ·split at h<;>simp_all
   ·cases h
  ·have:X7 ty s t (.one (.own b)) i=X7 ty s' t (.one (.own b)) i:=by
    unfold X7;split
    ·split<;>first|rfl|(simp_all;done)
    ·rfl
   rw[←this];exact h
 ·have:X7 ty s t x i=X7 ty s' t x i:=by
   unfold X7;split
   ·split<;>first|rfl|(rename_i b _;exact absurd ⟨_,rfl⟩ hx)
   ·rfl
  rw[←this];exact h
theorem Am{t:TypeId}{x r:EV}(hH:∀b ob,look s.H b=some ob→look s'.H b=some ob)(h:Pj ty s t x=some r):Pj ty s' t x=some r:=by
 by_cases hx:∃b,x= .one (.own b)∨x= .one (.map b)
 ·obtain⟨b,hx⟩:=hx;have key:look s.H b=none∨look s.H b=look s'.H b:=by
   cases hb:look s.H b with
   |none=>exact .inl rfl
   |some ob=>exact .inr (hH _ _ hb).symm
  rcases key with key|key
  ·have:Pj ty s t x=none∨Pj ty s t x=Pj ty s' t x:=by
    unfold Pj;split
    ·split<;>first|exact .inr rfl|(left;simp_all;done)
    ·exact .inl rfl
   rcases this with this|this
   ·rw[this]at h;cases h
   ·rw[←this];exact h
  ·have:Pj ty s t x=Pj ty s' t x:=by
    unfold Pj;split
    ·split<;>first|rfl|(simp_all;done)
    ·rfl
   rw[←this];exact h
 ·have:Pj ty s t x=Pj ty s' t x:=by
   unfold Pj;split
   ·split<;>first|rfl|(rename_i b _;exact absurd ⟨_, .inl rfl⟩ hx)|(rename_i b _;exact absurd ⟨_, .inr rfl⟩ hx)
   ·rfl
  rw[←this];exact h
theorem B4{t:TypeId}{x i r:EV}{ok:Bool}(hH:∀b ob,look s.H b=some ob→look s'.H b=some ob)(h:JG ty s t x i ok=some r):JG ty s' t x i ok=some r:=by
 unfold JG at h⊢;split at h
 ·rename_i hm;split at h
  ·rename_i es hb;simp only[hH _ _ hb];exact h
  ·cases h
 ·exact h
 ·cases h
theorem FL(h:s.env=s'.env)(x:Operand):evO s x=evO s' x:=by cases x<;>simp[evO,h]
theorem RU:∀{ps:List (Nat×Operand)},(∀p∈ps,evO s p.2=evO s' p.2)→Zh s ps=Zh s' ps:=by
 intro ps
 induction ps with
 |nil=>intro _;rfl
 |cons p ps ih=>
  obtain⟨i,x⟩:=p;intro h;simp only[Zh,h (i,x) br,ih fun p hp=>h p (bc _ hp)]
theorem PF:∀{xs:List Operand},(∀x∈xs,evO s x=evO s' x)→MO s xs=MO s' xs:=by
 intro xs
 induction xs with
 |nil=>intro _;rfl
 |cons x xs ih=>
  intro h;simp only[MO,h x br,ih fun y hy=>h y (bc _ hy)]
theorem Lu{o:Oper}{r:Prop×EV}(he:s.env=s'.env)(hH:∀b ob,look s.H b=some ob→look s'.H b=some ob)(h:VI ty s o=some r):VI ty s' o=some r:=by
 have hv:∀x,evO s x=evO s' x:=FL he;have ha:∀ps,Zh s ps=Zh s' ps:=fun ps=>RU fun p _=>hv p.2;have hva:∀xs,MO s xs=MO s' xs:=fun xs=>PF fun x _=>hv x;revert h;unfold VI;simp only[hv,ha,hva];split
 all_goals first
  |exact id
  |skip
 ·split
  ·exact Q8 hH
  ·exact id
 ·split
  ·exact LV hH
  ·exact id
 ·split
  ·rename_i v hv1;cases hl:Pj ty s _ v with
   |none=>intro h;cases h
   |some r'=>simp only[Am hH hl];exact id
  ·exact id
 ·split
  ·rename_i v u hv1 hv2;cases hl:JG ty s _ v u _ with
   |none=>intro h;cases h
   |some r'=>simp only[B4 hH hl];exact id
  ·exact id
theorem NC{o:Oper}(he:∀x,x∈o.op.operands→evO s x=evO s' x)(hH:s.H=s'.H):VI ty s o=VI ty s' o:=by
 have hl:∀t x,H3 ty s t x=H3 ty s' t x:=fun t x=>by unfold H3;rw[hH]
 have hi:∀t x i,X7 ty s t x i=X7 ty s' t x i:=fun t x i=>by unfold X7;rw[hH]
 have hn:∀t x,Pj ty s t x=Pj ty s' t x:=fun t x=>by unfold Pj;rw[hH]
 unfold VI;split
 all_goals rename_i ho
 all_goals(try rw[ho]at he)
 ·rw[he _ (by simp[Op.operands])]
 ·rw[he _ (by simp[Op.operands])]
 ·rename_i op t x y yt;rw[he x (by simp[Op.operands]),he y (by simp[Op.operands])]
 ·rw[he _ (by simp[Op.operands])]
 ·rw[he _ (by simp[Op.operands])]
 ·rw[he _ (by simp[Op.operands])]
 ·rw[he _ (by simp[Op.operands])]
 ·rename_i t x i;rw[he x (by simp[Op.operands]),he i (by simp[Op.operands])];simp only[hi]
 ·rename_i t x i;rw[he x (by simp[Op.operands]),he i (by simp[Op.operands])]
 ·rw[he _ (by simp[Op.operands])];simp only[hl]
 ·rw[he _ (by simp[Op.operands])]
 ·rename_i t ps;rw[RU (s:=s) (s':=s') fun p hp=>he p.2 (by simp[Op.operands];exact⟨p.1,by simpa using hp⟩)]
 ·rename_i t x lo hi';rw[he x (by simp[Op.operands])];cases lo<;>cases hi'<;>simp only[]
  ·rename_i y;rw[he y (by simp[Op.operands])]
  ·rename_i y;rw[he y (by simp[Op.operands])]
  ·rename_i y z;rw[he y (by simp[Op.operands]),he z (by simp[Op.operands])]
 ·rw[he _ (by simp[Op.operands])]
 ·rename_i f xs hno;rw[PF (s:=s) (s':=s') fun x hx=>he x (by simp[Op.operands];simpa using hx)]
 ·rename_i x t;rw[he x (by simp[Op.operands,Call.operands])];simp only[hn]
 ·rename_i x y ts;rw[he x (by simp[Op.operands,Call.operands]),he y (by simp[Op.operands,Call.operands])]
 ·rename_i x y ts;rw[he x (by simp[Op.operands,Call.operands]),he y (by simp[Op.operands,Call.operands])]
 ·rename_i t x i ok;rw[he x (by simp[Op.operands]),he i (by simp[Op.operands])];have:∀v u,JG ty s t v u ok=JG ty s' t v u ok:=fun v u=>by unfold JG;rw[hH]
  simp only[this]
 ·rename_i x t;rw[he x (by simp[Op.operands,Call.operands])]
 ·rfl
end
end
section
section
variable {P:Program} {base:Nat} {E M:Nat→Prop} {w0 w w':World} {β β':K3} {st s s':St} {a:Act} {N:Nat→Prop} {ty:TypeId→Option Ty} {tm:Array Value} {spec:Spec} {n:Nat}
def Qa{α:Type}:List Nat→List (Nat×α)→List (Nat×α)
 |[],l=>l
 |b::W,l=>del b (Qa W l)
theorem Aj{α:Type}(W:List Nat)(l:List (Nat×α))(t:Nat):look (Qa W l) t=if t∈W then none else look l t:=by
 induction W with
 |nil=>simp[Qa]
 |cons b W ih=>
  simp only[Qa,Rk,ih,av];by_cases h:t=b
  ·simp[h]
  ·simp[h]
theorem Eu{α:Type}(b:Nat)(x:α)(l:List (Nat×α)):del b (put l b x)=del b l:=by
 induction l with
 |nil=>simp[put,del]
 |cons p r ih=>
  obtain⟨k,v⟩:=p;simp only[put];by_cases h:k=b
  ·rw[if_pos h];simp[del,h]
  ·rw[if_neg h];simp only[del];rw[if_neg h,if_neg h,ih]
theorem RP{α:Type}{b c:Nat}(hc:c≠b)(x:α)(l:List (Nat×α)):del b (put l c x)=put (del b l) c x:=by
 induction l with
 |nil=>simp[put,del,hc]
 |cons p r ih=>
  obtain⟨k,v⟩:=p;simp only[put,del];by_cases h:k=c
  ·rw[if_pos h];have hkb:k≠b:=by rw[h];exact hc
   rw[if_neg hkb];simp only[del,put];rw[if_neg hc,if_pos h]
  ·rw[if_neg h];simp only[del];by_cases g:k=b
   ·rw[if_pos g,if_pos g,ih]
   ·rw[if_neg g,if_neg g];simp only[put];rw[if_neg h,ih]
theorem OE{α:Type}{W:List Nat}{c:Nat}(hc:c∈W)(x:α)(l:List (Nat×α)):Qa W (put l c x)=Qa W l:=by
 induction W with
 |nil=>cases hc
 |cons b W ih=>
  simp only[Qa];by_cases h:c∈W
  ·rw[ih h]
  ·have hb:c=b:=by rcases av.1 hc with h'|h';exact h';exact absurd h' h
   subst hb;have key:∀(W:List Nat),c∉W→Qa W (put l c x)=put (Qa W l) c x:=by
    intro W
    induction W with
    |nil=>intro _;rfl
    |cons d W ihW=>
     intro hd;simp only[Qa];rw[ihW (fun q=>hd (bc _ q)),RP (fun q=>hd (by rw[q];exact br))]
   rw[key W h,Eu]
def Gq(W:List Nat)(st:St):St:={st with H:=Qa W st.H}
def Qz(ty:TypeId→Option Ty)(st:St)(t:TypeId)(x v:EV):Option (Prop×Nat×OB):=
 match ty t,Hg v with
 |some T,some ys=>
  match x with
  | .one (.ptr b off)=>(match look st.H b with
   |some (.box xs)=>some (ys.length=T.size∧off+ys.length≤xs.length,b, .box (over xs off ys))
   |_=>none)
  | .rp b esz i off=>(match look st.H b,CS ys with
   |some (.row z t' esz' els),some cs=>some (esz'=esz∧ys.length=T.size∧i<els.length∧off+cs.length≤esz,b, .row z t' esz' (els.set i (UH (els.getD i []) off cs)))
   |_,_=>none)
  |_=>none
 |_,_=>none
theorem M8{t:TypeId}{x v:EV}{p:Prop}{b:Nat}{ob:OB}(h:Qz ty st t x v=some (p,b,ob)):U4 ty st t x v=some (p,{st with H:=put st.H b ob}):=by
 unfold Qz at h;unfold U4;split at h
 ·rename_i T ys hT hys;simp only[hT,hys];split at h
  ·split at h
   ·rename_i hb;simp only[hb];simp only[ab,af]at h;obtain⟨rfl,rfl,rfl⟩:=h;rfl
   ·cases h
  ·split at h
   ·rename_i hb hc;simp only[hb,hc];simp only[ab,af]at h;obtain⟨rfl,rfl,rfl⟩:=h;rfl
   ·cases h
  ·cases h
 ·cases h
theorem M9{t:TypeId}{x v:EV}{p:Prop}{b:Nat}{ob:OB}(h:Qz ty s' t x v=some (p,b,ob))(hb:look s.H b=look s'.H b):Qz ty s t x v=some (p,b,ob):=by
 unfold Qz at h⊢;split at h
 ·rename_i T ys hT hys
  try simp only[hT,hys]
  split at h
  ·split at h
   ·rename_i hl;simp only[ab,af]at h;obtain⟨rfl,rfl,rfl⟩:=h;rw[hl]at hb
    try simp only[hb]
   ·cases h
  ·split at h
   ·rename_i hl hc;simp only[ab,af]at h;obtain⟨rfl,rfl,rfl⟩:=h;rw[hl]at hb
    try simp only[hb,hc]
   ·cases h
  ·cases h
 ·cases h
def jV(ty:TypeId→Option Ty)(t:TypeId)(len:Nat)(ps:List (Nat×EV)):Option (Prop×OB):=
 match elemOf ty t with
 |some (none,el,Te)=>
  (match UR (fun i=>some (i*Te.size,Te.size)) ((List.replicate len Te.zero).flatten.map Cx.c) ps with
   |some (p,xs)=>(match CS xs with
    |some cs=>some ((len≤1000000∧len*Te.size≤16777216∧cs.length=len*Te.size)∧p, .row false el Te.size (chunks Te.size len cs))
    |none=>none)
   |none=>none)
 |_=>none
theorem SL{d:Nat}{t:TypeId}{len:Nat}{ps:List (Nat×EV)}{p:Prop}{ob:OB}(hd:look st.H d=none)(h:jV ty t len ps=some (p,ob)):bQ ty st d t len ps=some (p,{st with H:=put st.H d ob}, .one (.own d)):=by
 unfold jV at h;unfold bQ;split at h
 ·rename_i el Te he;simp only[he,hd];split at h
  ·rename_i p' xs hf;simp only[hf];split at h
   ·rename_i cs hc;simp only[hc];simp only[ab,af]at h;obtain⟨rfl,rfl⟩:=h;rfl
   ·cases h
  ·cases h
 ·cases h
abbrev Eff:=Prop×EV×Option (Nat×OB)
def rdO(W:List Nat)(st:St)(o:Oper):Option Nat:=
 match o.op with
 | .load _ x=>(match evO st x with
  |some (.one (.ptr b _))=>if b∈W then some b else none
  |some (.rp b _ _ _)=>if b∈W then some b else none
  |_=>none)
 |_=>none
def Lr(W:List Nat)(st:St)(o:Oper):St:=match rdO W st o with|some _=>st|none=>Gq W st
def Me(ty:TypeId→Option Ty)(spec:Spec)(W:List Nat)(st:St)(o:Oper):Option Eff:=
 match o.op with
 | .pick c x y=>(match evO st c with
  |some (.one (.c (.sc (.bool true))))=>(match evO st x with|some v=>some (True,v,none)|none=>none)
  |some (.one (.c (.sc (.bool false))))=>(match evO st y with|some v=>some (True,v,none)|none=>none)
  |_=>none)
 | .alloc t=>(match o.dst,ty t with
  |some d,some T=>(match look st.H d with|none=>some (True, .one (.ptr d 0),some (d, .box (T.zero.map Cx.c)))|some _=>none)
  |_,_=>none)
 | .box _ x=>(match o.dst,evO st x with
  |some d,some v=>(match Hg v,look st.H d with|some xs,none=>some (True, .one (.ptr d 0),some (d, .box xs))|_,_=>none)
  |_,_=>none)
 | .store t x v=>(match evO st x,evO st v with
  |some vx,some vv=>(match Qz ty st t vx vv with|some (p,b,ob)=>some (p, .any,some (b,ob))|none=>none)
  |_,_=>none)
 | .call {callee:= .value f,args:=xs, .. }=>(match ZG spec (Gq W st) f xs.toList with
  |some (p, .val v)=>some (p,v,none)
  |_=>none)
 | .makeSlice .. =>none
 | .buildSlice t len ps=>(match o.dst,Zh st ps.toList with
  |some d,some l=>(match look st.H d,jV ty t len l with|none,some (p,ob)=>some (p, .one (.own d),some (d,ob))|_,_=>none)
  |_,_=>none)
 | .call {callee:= .builtin .append, .. }=>none
 | .makeMap .. =>none
 | .mapUpdate .. =>none
 | .insert .. =>none
 | .slice t x lo hi none=>
  (match evO st x,(match lo with|none=>some none|some x=>(evO st x).map some),(match hi with|none=>some none|some x=>(evO st x).map some)with
   |some v,some l,some h=>(match ZN ty t v l h with|some (p,r)=>some (p,r,none)|none=>none)
   |_,_,_=>none)
 |_=>match VI ty (Lr W st o) o with
  |some (p,v)=>some (p,v,none)
  |none=>none
def Zi(st:St)(d:Option Nat)(v:EV)(u:Option (Nat×OB)):St:=
 setD {st with H:=match u with|some (b,ob)=>put st.H b ob|none=>st.H} d v
theorem BZ(W:List Nat):∀b ob,look (Gq W st).H b=some ob→look st.H b=some ob:=by
 intro b ob h;simp only[Gq,Aj]at h;split at h
 ·cases h
 ·exact h
theorem Nw(W:List Nat)(o:Oper):(Lr W st o).env=st.env:=by unfold Lr;split<;>rfl
theorem Tx(W:List Nat)(o:Oper):∀b ob,look (Lr W st o).H b=some ob→look st.H b=some ob:=by
 unfold Lr;split
 ·exact fun _ _ h=>h
 ·exact BZ W
theorem WA(h:s.env=s'.env)(f:Operand):fnE s f=fnE s' f:=by unfold fnE;rw[FL h f]
theorem LW(hH:∀b ob,look s.H b=some ob→look s'.H b=some ob){v:EV}(h:VH (Z6 s v)=true):Z6 s' v=Z6 s v:=by
 unfold Z6 at h⊢;split at h
 ·split at h
  ·rename_i hb;simp only[hH _ _ hb]
  ·cases h
 ·split at h
  ·rename_i hb;simp only[hH _ _ hb]
  ·cases h
 ·rfl
theorem LX(hH:∀b ob,look s.H b=some ob→look s'.H b=some ob):∀{vs:List EV},(Gt s vs).all VH=true→Gt s' vs=Gt s vs:=by
 intro vs
 induction vs with
 |nil=>intro _;rfl
 |cons v vs ih=>
  intro h;simp only[Gt,List.all_cons,aj]at h;simp only[Gt,LW hH h.1,ih h.2]
theorem My{f:Operand}{xs:List Operand}{r:Prop×Yw}(he:s.env=s'.env)(hH:∀b ob,look s.H b=some ob→look s'.H b=some ob)(h:ZG spec s f xs=some r):ZG spec s' f xs=some r:=by
 unfold ZG at h⊢;rw[←WA he,←PF fun x _=>FL he x];split at h
 ·split at h
  ·rename_i hp;simp only[hp,if_true];exact h
  ·rename_i hp;split at h
   ·rename_i hq;simp only[LX hH hq,hp,hq,if_true];exact h
   ·cases h
 ·cases h
theorem N8(hH:s.H=s'.H):∀vs:List EV,Gt s vs=Gt s' vs:=by
 intro vs
 induction vs with
 |nil=>rfl
 |cons v vs ih=>
  have:Z6 s v=Z6 s' v:=by unfold Z6;rw[hH]
  simp only[Gt,this,ih]
theorem OW{f:Operand}{xs:List Operand}(h1:evO s f=evO s' f)(h2:∀x∈xs,evO s x=evO s' x)(hH:s.H=s'.H):ZG spec s f xs=ZG spec s' f xs:=by
 unfold ZG;have e1:fnE s f=fnE s' f:=by unfold fnE;rw[h1]
 rw[e1,PF h2];simp only[N8 hH]
theorem Qo{t:TypeId}{v:EV}{l h:Option EV}{r:Prop×EV}(q:ZN ty t v l h=some r):fS ty st t v l h=none:=by
 unfold ZN at q;split at q
 ·rfl
 ·rfl
 ·cases q
theorem IS{W:List Nat}{o:Oper}{p:Prop}{v:EV}{u:Option (Nat×OB)}(h:Me ty spec W st o=some (p,v,u))(hp:p):V5 ty spec st o (fun s=>s=Zi st o.dst v u):=by
 unfold Me at h;split at h
 ·rename_i c x y ho;unfold V5;simp only[ho];split at h
  ·rename_i hc;simp only[hc];split at h
   ·rename_i hx;simp only[ab,af]at h;obtain⟨_,rfl,rfl⟩:=h;simp only[if_true];rfl
   ·cases h
  ·rename_i hc;simp only[hc];split at h
   ·rename_i hx;simp only[ab,af]at h;obtain⟨_,rfl,rfl⟩:=h;simp only[de,dg];rfl
   ·cases h
  ·cases h
 ·rename_i t ho;unfold V5 opE;simp only[ho];split at h
  ·rename_i d T hd hT;split at h
   ·rename_i hl;simp only[ab,af]at h;obtain⟨_,rfl,rfl⟩:=h;simp only[hd,EM,hT,aH,hl];exact⟨trivial,rfl⟩
   ·cases h
  ·cases h
 ·rename_i t x ho;unfold V5 opE;simp only[ho];split at h
  ·rename_i d v' hd hv;split at h
   ·rename_i xs hx hl;simp only[ab,af]at h;obtain⟨_,rfl,rfl⟩:=h;simp only[hd,EC,hv,hx,aH,hl];exact⟨trivial,rfl⟩
   ·cases h
  ·cases h
 ·rename_i t x v' ho;unfold V5 opE;simp only[ho];split at h
  ·rename_i vx vv hx hv;split at h
   ·rename_i p' b ob hs;simp only[ab,af]at h;obtain⟨rfl,rfl,rfl⟩:=h;simp only[M8 hs];exact⟨hp,rfl⟩
   ·cases h
  ·cases h
 ·rename_i f xs ts ho;unfold V5 opE;simp only[ho];split at h
  ·rename_i p' v' hc;simp only[ab,af]at h;obtain⟨rfl,rfl,rfl⟩:=h;have hc':=My (s:=Gq W st) (s':=st) rfl (BZ W) hc;simp only[hc',CB];exact⟨hp,rfl⟩
  ·cases h
 ·cases h
 ·rename_i t len ps ho;unfold V5 opE;simp only[ho];split at h
  ·rename_i d l hd hl;split at h
   ·rename_i p' ob hlk hv;simp only[ab,af]at h;obtain⟨rfl,rfl,rfl⟩:=h;simp only[hd,SL hlk hv];exact⟨hp,rfl⟩
   ·cases h
  ·cases h
 ·cases h
 ·cases h
 ·cases h
 ·cases h
 ·rename_i t x lo hi ho;unfold V5 opE;simp only[ho];split at h
  ·rename_i v' l h' hv1 hlo hhi;split at h
   ·rename_i p' r' hs;simp only[ab,af]at h;obtain⟨rfl,rfl,rfl⟩:=h;cases lo<;>cases hi<;>simp only[]at hlo hhi⊢
    ·injection hlo with hlo;injection hhi with hhi;subst hlo;subst hhi;simp only[Qo hs];exact⟨hp,rfl⟩
    ·injection hlo with hlo;subst hlo;simp only[Qo hs];exact⟨hp,rfl⟩
    ·injection hhi with hhi;subst hhi;simp only[Qo hs];exact⟨hp,rfl⟩
    ·simp only[Qo hs];exact⟨hp,rfl⟩
   ·cases h
  ·cases h
 ·rename_i h1 h2 h3 h4 h5 h6 h7 h8 h9 h10 h11 h12;split at h
  ·rename_i p' v' hpu;simp only[ab,af]at h;obtain⟨rfl,rfl,rfl⟩:=h;have hpu':=Lu (s:=Lr W st o) (s':=st) (Nw W o) (Tx W o) hpu;have hop:opE ty spec st o=some (p',setD st o.dst v'):=by
    unfold opE;split
    ·rename_i ho;exact absurd ho (h2 _)
    ·rename_i ho;exact absurd ho (h3 _ _)
    ·rename_i ho;exact absurd ho (h4 _ _ _)
    ·rename_i ho;exact absurd ho (h6 _ _ _)
    ·rename_i ho;exact absurd ho (h7 _ _ _)
    ·rename_i ho;exact absurd ho (h8 _ _)
    ·rename_i ho;exact absurd ho (h9 _ _)
    ·rename_i ho;exact absurd ho (h10 _ _ _ _)
    ·rename_i ho;exact absurd ho (h11 _ _ _ _)
    ·rename_i ho;exact absurd ho (h12 _ _ _ _)
    ·rename_i ho;exact absurd ho (h5 _ _ _)
    ·rw[hpu']
   unfold V5;split
   ·rename_i ho;exact absurd ho (h1 _ _ _)
   ·rw[hop];exact⟨hp,rfl⟩
  ·cases h
end
end
section
section
variable {P:Program} {base:Nat} {E M:Nat→Prop} {w0 w w':World} {β β':K3} {st s s':St} {a:Act} {N:Nat→Prop} {ty:TypeId→Option Ty} {tm:Array Value} {spec:Spec} {n:Nat}
def MU(ty:TypeId→Option Ty)(spec:Spec)(W:List Nat)(ops:List Oper)(st:St)(o:Oper):Option Eff:=
 match Jf st ops o with
 |some true=>Me ty spec W st o
 |some false=>some (True, .tup [],none)
 |none=>none
def rdG(W:List Nat)(ops:List Oper)(st:St)(o:Oper):Option Nat:=
 match Jf st ops o with
 |some true=>rdO W st o
 |_=>none
def rdL(W:List Nat)(ops:List Oper)(st:St)(o:Oper)(k:Nat)(wr:List (Nat×Nat×Bool)):List (Nat×Nat×Bool):=match rdG W ops st o with|some b=>(k,b,false)::wr|none=>wr
def V8(ty:TypeId→Option Ty)(spec:Spec)(W:List Nat)(ops:List Oper):List Oper→Nat→List (Nat×Nat×Bool)→(List (Nat×Nat×Bool)→St→Prop)→St→Prop
 |[],_,wr,Q,st=>Q wr st
 |o::r,k,wr,Q,st=>match MU ty spec W ops st o with
  |some (p,v,none)=>p∧V8 ty spec W ops r (k+1) (rdL W ops st o k wr) Q (Zi st o.dst v none)
  |some (p,v,some (b,ob))=>p∧b∈W∧V8 ty spec W ops r (k+1) ((k,b,true)::wr) Q (Zi st o.dst v (some (b,ob)))
  |none=>False
def tmpsOf(ops:List Oper)(o:Oper):List Nat:=
 (o.op.operands.toList.filterMap fun| .tmp t=>some t|_=>none)++(match o.guard with|some (j,_)=>(match ops[j]? with|some g=>g.dst.toList|none=>[])|none=>[])
def Mn(ops:List Oper)(x y:Oper):Bool:=
 (match x.dst with|some d=>(tmpsOf ops y).contains d||(y.dst==some d)|none=>false)||(match y.dst with|some d=>(tmpsOf ops x).contains d|none=>false)
def Zg(ops:List Oper)(i j:Nat):Bool:=Sim.before (Sim.XU ops) i j
def M1(ops:List Oper):Bool:=
 (List.range ops.length).all fun j=>(List.range j).all fun i=>match ops[i]?,ops[j]? with
  |some x,some y=>!(Mn ops x y)||Zg ops i j
  |_,_=>true
def A6(ops:List Oper):Bool:=(List.range ops.length).all fun j=>match ops[j]? with|some o=>Sim.J8 o.after.toList j|none=>true
def Uj(n:Nat)(ops:List Oper):Bool:=JZ n ops&&(M1 ops&&A6 ops)
def Qb(ops:List Oper)(wr:List (Nat×Nat×Bool)):Bool:=wr.all fun q=>wr.all fun p=>!(p.2.1==q.2.1)||(!(p.2.2||q.2.2)||(!(Nat.blt p.1 q.1)||Zg ops p.1 q.1))
theorem dG{W:List Nat}{o:Oper}(he:∀x,x∈o.op.operands→evO s x=evO s' x):rdO W s o=rdO W s' o:=by
 unfold rdO;split
 ·rename_i t x ho;rw[ho]at he;rw[he x (by simp[Op.operands])]
 ·rfl
theorem NB{W:List Nat}{o:Oper}{b:Nat}(h:rdO W s' o=some b)(he:∀x,x∈o.op.operands→evO s x=evO s' x)(hb:look s.H b=look s'.H b):VI ty s o=VI ty s' o:=by
 unfold rdO at h;split at h
 ·rename_i t x ho;rw[ho]at he;have e:=he x (by simp[Op.operands]);unfold VI;simp only[ho,e];split at h
  ·rename_i b' off hx;split at h
   ·injection h with h;subst h;simp only[hx,H3,hb]
   ·cases h
  ·rename_i b' e1 e2 e3 hx;split at h
   ·injection h with h;subst h;simp only[hx,H3,hb]
   ·cases h
  ·cases h
 ·cases h
theorem A5{W:List Nat}{o:Oper}{p:Prop}{v:EV}{u:Option (Nat×OB)}(h:Me ty spec W s' o=some (p,v,u))(he:∀x,x∈o.op.operands→evO s x=evO s' x)(hW:Qa W s.H=Qa W s'.H)
  (hb:∀b ob,u=some (b,ob)→look s.H b=look s'.H b) (hr:∀b,rdO W s' o=some b→look s.H b=look s'.H b):Me ty spec W s o=some (p,v,u):=by
 unfold Me at h⊢;split at h
 ·rename_i c x y ho;rw[ho]at he;have e1:=he c (by simp[Op.operands]);have e2:=he x (by simp[Op.operands]);have e3:=he y (by simp[Op.operands]);simp only[e1,e2,e3];exact h
 ·rename_i t ho;split at h
  ·rename_i d T hd hT
   try simp only[hd,hT]
   split at h
   ·rename_i hl;simp only[ab,af]at h;obtain⟨rfl,rfl,rfl⟩:=h;have:=hb d _ rfl;rw[hl]at this
    try simp only[this]
   ·cases h
  ·cases h
 ·rename_i t x ho;rw[ho]at he;have e1:=he x (by simp[Op.operands]);simp only[e1];split at h
  ·rename_i d v' hd hv
   try simp only[hd,hv]
   split at h
   ·rename_i xs hx hl;simp only[ab,af]at h;obtain⟨rfl,rfl,rfl⟩:=h;have:=hb d _ rfl;rw[hl]at this
    try simp only[hx,this]
   ·cases h
  ·cases h
 ·rename_i t x v' ho;rw[ho]at he;have e1:=he x (by simp[Op.operands]);have e2:=he v' (by simp[Op.operands]);simp only[e1,e2];split at h
  ·rename_i vx vv hx hv
   try simp only[hx,hv]
   split at h
   ·rename_i p' b ob hs;simp only[ab,af]at h;obtain⟨rfl,rfl,rfl⟩:=h;simp only[M9 hs (hb b ob rfl)]
   ·cases h
  ·cases h
 ·rename_i f xs ts ho;rw[ho]at he;have e1:=he f (by simp[Op.operands,Call.operands]);have em:∀x,evO s x=evO s' x→evO (Gq W s) x=evO (Gq W s') x:=fun x h=>by cases x<;>(first|(simp[evO,Gq];done)|simpa[evO,Gq]using h)
  have:ZG spec (Gq W s) f xs.toList=ZG spec (Gq W s') f xs.toList:=OW (em f e1) (fun x hx=>em x (he x (by simp[Op.operands,Call.operands];exact .inr (by simpa using hx)))) hW;simp only[this];exact h
 ·cases h
 ·rename_i t len ps ho;rw[ho]at he;have e1:Zh s ps.toList=Zh s' ps.toList:=RU fun p hp=>he p.2 (by simp[Op.operands];exact⟨p.1,by simpa using hp⟩);simp only[e1];split at h
  ·rename_i d l hd hl
   try simp only[hd,hl]
   split at h
   ·rename_i p' ob hlk hv;simp only[ab,af]at h;obtain⟨rfl,rfl,rfl⟩:=h;have:=hb d _ rfl;rw[hlk]at this
    try simp only[this,hv]
   ·cases h
  ·cases h
 ·cases h
 ·cases h
 ·cases h
 ·cases h
 ·rename_i t x lo hi ho;rw[ho]at he;have e1:=he x (by simp[Op.operands]);simp only[e1];cases lo<;>cases hi<;>simp only[]at h⊢
  ·exact h
  ·rename_i y;rw[he y (by simp[Op.operands])];exact h
  ·rename_i y;rw[he y (by simp[Op.operands])];exact h
  ·rename_i y z;rw[he y (by simp[Op.operands]),he z (by simp[Op.operands])];exact h
 ·have e:=dG (W:=W) he;have:VI ty (Lr W s o) o=VI ty (Lr W s' o) o:=by
   unfold Lr;rw[e];split
   ·rename_i b hb';exact NB hb' he (hr b hb')
   ·exact NC (fun x hx=>by have:=he x hx;cases x<;>(first|(simp[evO,Gq];done)|simpa[evO,Gq]using this)) hW
  rw[this];exact h
structure Run(ty:TypeId→Option Ty)(spec:Spec)(W:List Nat)(ops:List Oper)(S:Nat→St)(V:Nat→EV)(U:Nat→Option (Nat×OB)):Prop where
 step:∀k o,ops[k]? =some o→∃p,MU ty spec W ops (S k) o=some (p,V k,U k)∧p∧S (k+1)=Zi (S k) o.dst (V k) (U k)
 inW:∀k b ob,k<ops.length→U k=some (b,ob)→b∈W
def Got(ty:TypeId→Option Ty)(spec:Spec)(W:List Nat)(ops:List Oper)(Q:List (Nat×Nat×Bool)→St→Prop)(r:List Oper)(k:Nat)(wr:List (Nat×Nat×Bool))(st:St):Prop:=
 ∃(S:Nat→St) (V:Nat→EV) (U:Nat→Option (Nat×OB)) (wr':List (Nat×Nat×Bool)),S k=st∧Q wr' (S (k+r.length))∧
   (∀j o,r[j]? =some o→∃p,MU ty spec W ops (S (k+j)) o=some (p,V (k+j),U (k+j))∧p∧S (k+j+1)=Zi (S (k+j)) o.dst (V (k+j)) (U (k+j)))∧
   (∀j b ob,j<r.length→U (k+j)=some (b,ob)→b∈W∧(k+j,b,true)∈wr')∧(∀q∈wr,q∈wr')∧∀j o b,r[j]? =some o→rdG W ops (S (k+j)) o=some b→∃f,(k+j,b,f)∈wr'
theorem Bf{W:List Nat}{ops:List Oper}{Q:List (Nat×Nat×Bool)→St→Prop}:∀(r:List Oper) (k:Nat) (wr:List (Nat×Nat×Bool)) (st:St),V8 ty spec W ops r k wr Q st→Got ty spec W ops Q r k wr st:=by
 intro r
 induction r with
 |nil=>
  intro k wr st h;exact⟨fun _=>st,fun _=> .any,fun _=>none,wr,rfl,h,fun j o h=>(by simp at h),fun j b ob h=>(by simp at h),fun q hq=>hq,fun j o b h=>(by simp at h)⟩
 |cons o r ih=>
  intro k wr st h;simp only[V8]at h;have fin:∀(p:Prop) (v:EV) (u:Option (Nat×OB)) (wr1:List (Nat×Nat×Bool)),MU ty spec W ops st o=some (p,v,u)→p→(∀b ob,u=some (b,ob)→b∈W∧(k,b,true)∈wr1)→(∀q∈wr,q∈wr1)→(∀b,rdG W ops st o=some b→∃f,(k,b,f)∈wr1)→
    V8 ty spec W ops r (k+1) wr1 Q (Zi st o.dst v u)→Got ty spec W ops Q (o::r) k wr st:=by
   intro p v u wr1 h1 hp h2 h2' h2r h3;obtain⟨S,V,U,wr',s1,s2,s3,s4,s5,s6⟩:=ih (k+1) wr1 _ h3;have hne:∀j,k+1+j≠k:=fun j=>by omega
   refine⟨fun i=>if i=k then st else S i,fun i=>if i=k then v else V i,fun i=>if i=k then u else U i,wr',by simp,?_,fun j o' hj=>?_,fun j b ob hj hu=>?_,fun q hq=>s5 q (h2' q hq),fun j o' b hj hrd=>?_⟩
   ·have e:k+(o::r).length=k+1+r.length:=by simp;omega
    simp only[e];rw[if_neg (by omega)];exact s2
   ·cases j with
    |zero=>
     simp at hj;subst hj;refine⟨p,by simpa using h1,hp,?_⟩;simp only[dy,if_true];rw[if_neg (by omega)];exact s1
    |succ j=>
     have e:k+(j+1)=k+1+j:=by omega
     simp only[e];rw[if_neg (hne j),if_neg (hne j),if_neg (hne j),if_neg (by omega)];exact s3 j o' (by simpa using hj)
   ·cases j with
    |zero=>
     simp only[dy,if_true]at hu;exact⟨(h2 b ob hu).1,s5 _ (h2 b ob hu).2⟩
    |succ j=>
     have e:k+(j+1)=k+1+j:=by omega
     simp only[e]at hu⊢;rw[if_neg (hne j)]at hu;exact s4 j b ob (by simpa using hj) hu
   ·cases j with
    |zero=>
     simp at hj;subst hj;simp only[dy,if_true]at hrd⊢;obtain⟨f,hf⟩:=h2r b hrd;exact⟨f,s5 _ hf⟩
    |succ j=>
     have e:k+(j+1)=k+1+j:=by omega
     simp only[e]at hrd⊢;rw[if_neg (hne j)]at hrd;exact s6 j o' b (by simpa using hj) hrd
  split at h
  ·rename_i p v hef;refine fin p v none (rdL W ops st o k wr) hef h.1 (fun b ob q=>by cases q) (fun q hq=>?_) (fun b hb=>?_) h.2
   ·unfold rdL;split
    ·exact bc _ hq
    ·exact hq
   ·unfold rdL;rw[hb];exact⟨false,br⟩
  ·rename_i p v b ob hef;refine fin p v (some (b,ob)) ((k,b,true)::wr) hef h.1 (fun b' ob' q=>by injection q with q;injection q with q1 q2;subst q1;exact⟨h.2.1,br⟩) (fun q hq=>bc _ hq) (fun b' hb'=>?_) h.2.2;unfold rdG at hb';unfold MU at hef;split at hb'
   ·rename_i hg;rw[hg]at hef;simp only at hef;unfold rdO at hb';split at hb'
    ·rename_i t x ho;unfold Me at hef;simp only[ho]at hef;split at hef<;>simp at hef
    ·cases hb'
   ·cases hb'
  ·exact h.elim
theorem YP{d:Option Nat}{v:EV}{u:Option (Nat×OB)}(t:Nat):look (Zi st d v u).env t=if d=some t then some v else look st.env t:=by
 cases d with
 |none=>simp[Zi,Dw.setD]
 |some d=>
  simp only[Zi,Dw.setD,X1];by_cases h:d=t<;>simp[h]
theorem VP{d:Option Nat}{v:EV}{u:Option (Nat×OB)}(b:Nat):look (Zi st d v u).H b=match u with|some (c,ob)=>if c=b then some ob else look st.H b|none=>look st.H b:=by
 have:(Zi st d v u).H=match u with|some (b,ob)=>put st.H b ob|none=>st.H:=by cases d<;>rfl
 rw[this];cases u with
 |none=>rfl
 |some q=>obtain⟨c,ob⟩:=q;simp only[X1]
theorem Ur{d:Option Nat}{v:EV}:(Zi st d v none).H=st.H:=by cases d<;>rfl
theorem Uq{d:Option Nat}{v:EV}{b:Nat}{ob:OB}:(Zi st d v (some (b,ob))).H=put st.H b ob:=by cases d<;>rfl
theorem Ew{W:List Nat}{d:Option Nat}{v:EV}{u:Option (Nat×OB)}(h:∀b ob,u=some (b,ob)→b∈W):Qa W (Zi st d v u).H=Qa W st.H:=by
 cases u with
 |none=>rw[Ur]
 |some q=>obtain⟨c,ob⟩:=q;rw[Uq];exact OE (h c ob rfl) _ _
structure Ba(ops:List Oper)(W:List Nat)(S:Nat→St)(U:Nat→Option (Nat×OB))(Dn:List Nat)(s:St):Prop where
 env:∀t,∃m,m≤ops.length∧(∀i o,ops[i]? =some o→o.dst=some t→(i∈Dn↔i<m))∧look s.env t=look (S m).env t
 obj:∀b,∃m,m≤ops.length∧(∀i ob,i<ops.length→U i=some (b,ob)→(i∈Dn↔i<m))∧look s.H b=look (S m).H b
 msk:Qa W s.H=Qa W (S 0).H
section
variable {W:List Nat} {ops:List Oper} {S:Nat→St} {V:Nat→EV} {U:Nat→Option (Nat×OB)} (hrun:Run ty spec W ops S V U)
include hrun
theorem PN{t:Nat}:∀{x y:Nat},x≤y→y≤ops.length→(∀i o,x≤i→i<y→ops[i]? =some o→o.dst≠some t)→look (S y).env t=look (S x).env t:=by
 intro x y hxy
 induction hxy with
 |refl=>intro _ _;rfl
 | @step y hxy ih=>
  intro hy hno;have hlt:y<ops.length:=by omega
  obtain⟨p,_,_,hs⟩:=hrun.step y _ (aa hlt);rw[hs,YP,if_neg (hno y _ hxy (dv _) (aa hlt))];exact ih (by omega) fun i o h1 h2=>hno i o h1 (by omega)
theorem PM{b:Nat}:∀{x y:Nat},x≤y→y≤ops.length→(∀i ob,x≤i→i<y→U i≠some (b,ob))→look (S y).H b=look (S x).H b:=by
 intro x y hxy
 induction hxy with
 |refl=>intro _ _;rfl
 | @step y hxy ih=>
  intro hy hno;have hlt:y<ops.length:=by omega
  obtain⟨p,_,_,hs⟩:=hrun.step y _ (aa hlt);rw[hs,VP];have:=ih (by omega) fun i ob h1 h2=>hno i ob h1 (by omega);split
  ·rename_i c ob hu;rw[if_neg (fun q=>by subst q;exact hno y ob hxy (dv _) hu)];exact this
  ·exact this
theorem Sh:∀{y:Nat},y≤ops.length→Qa W (S y).H=Qa W (S 0).H:=by
 intro y
 induction y with
 |zero=>intro _;rfl
 |succ y ih=>
  intro hy;obtain⟨p,_,_,hs⟩:=hrun.step y _ (aa (show y<ops.length by omega));rw[hs,Ew fun b ob hu=>hrun.inW y b ob (by omega) hu];exact ih (by omega)
end
end
end
end Go.Proofs.YtbkpmfjfpcoehaaGreatDoor.Dw
end
