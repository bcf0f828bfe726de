/- Values, boxes, rows and maps of a call as plain data, and rules for code over them. No condition. -/
import Derived.Test.YtjhfcfpkgfpoiaaGreatDoorDc
noncomputable section
namespace Go.Proofs.YtjhfcfpkgfpoiaaGreatDoor.Dw
open Go Go.RowKit
set_option maxRecDepth 100000
section
section
variable {P:Program} {base:Nat} {E M:Nat→Prop} {w0 w w':World} {β β':Vl} {st:St} {a:Act} {N:Nat→Prop} {ty:TypeId→Option Ty} {tm:Array Value} {spec:Spec} {n:Nat}
def J9(ty:TypeId→Option Ty)(st:St):List ResultVar→Option (Prop×List EV)
 |[]=>some (True,[])
 | .tmp t::r=>match look st.env t,J9 ty st r with
  |some v,some (p,l)=>some (p,v::l)
  |_,_=>none
 | .cell t T::r=>match look st.env t,J9 ty st r with
  |some x,some (p,l)=>(match Je ty st T x with|some (q,v)=>some (q∧p,v::l)|none=>none)
  |_,_=>none
def Xe0:List EV→EV
 |[v]=>v
 |l=> .tup l
theorem Xnj(C:Vk P ty)(R:Rel base E M w0 β st tm w){fn:Func}{p:Prop}{l:List EV}(h:J9 ty st fn.results.toList=some (p,l))(hp:p):
  ∃u,(results fn tm).run P w= .ok u w∧X9 w (X6 M w β) β (Xe0 l) u:=by
 have key:∀(rs:List ResultVar) (p:Prop) (l:List EV),J9 ty st rs=some (p,l)→p→
   ∃us,(rs.mapM (fun(r:ResultVar)=>(match r with| .tmp t=>pure (tm.getD t undef)| .cell a t=>do loadVar t (←asAddr (tm.getD a undef)):Sem Value))).run P w= .ok us w∧Y5 (X9 w (X6 M w β) β) l us:=by
  intro rs
  induction rs with
  |nil=>
   intro p l h _;simp only[J9,Option.some.injEq,Prod.mk.injEq]at h;obtain⟨_,rfl⟩:=h;exact⟨[],by simp, .nil⟩
  |cons r rs ih=>
   intro p l h hp;cases r with
   |tmp t=>
    simp only[J9]at h;split at h
    ·rename_i v p' l' hv hl;simp only[Option.some.injEq,Prod.mk.injEq]at h;obtain⟨rfl,rfl⟩:=h;obtain⟨us,g1,g2⟩:=ih _ _ hl hp;obtain⟨u,hu,hr⟩:=R.env t v hv;refine⟨u::us,?_, .cons hr g2⟩;simp only[List.mapM_cons,Sem.run_bind,Sem.run_pure,Result.andThen_ok,Array.getD_eq_getD_getElem?,hu,Option.getD_some];simp only[Array.getD_eq_getD_getElem?]at g1;rw[g1];rfl
    ·cases h
   |cell t T=>
    simp only[J9]at h;split at h
    ·rename_i x p' l' hx hl;split at h
     ·rename_i q v hv;simp only[Option.some.injEq,Prod.mk.injEq]at h;obtain⟨rfl,rfl⟩:=h;obtain⟨us,g1,g2⟩:=ih _ _ hl hp.2;obtain⟨u,hu,hr⟩:=R.env t x hx;obtain⟨r,r1,r2, -⟩:=Xnx (a:=⟨tm,[]⟩) C R hv hp.1 hr;refine⟨r::us,?_, .cons r2 g2⟩;have hl1:(do loadVar T (←asAddr u):Sem Value).run P w= .ok r w:=by
       cases u with
       |pointer A=>
        cases A with
        |some A=>simpa[Instr.loadAt,Instr.sureAddr,asAddr]using r1
        |none=>simp[Instr.loadAt,Instr.sureAddr,stuck,Sem.run]at r1
       |_=>simp[Instr.loadAt,Instr.sureAddr,stuck,Sem.run]at r1
      simp only[List.mapM_cons,Sem.run_bind,Array.getD_eq_getD_getElem?,hu,Option.getD_some];simp only[Array.getD_eq_getD_getElem?]at g1;simp only[Sem.run_bind]at hl1;rw[hl1];simp only[Result.andThen_ok];rw[g1];rfl
     ·cases h
    ·cases h
 obtain⟨us,g1,g2⟩:=key _ _ _ h hp;refine⟨if h:us.length=1 then us[0]else .tuple us.toArray,?_,?_⟩
 ·have hrun:(results fn tm).run P w= .ok (if h:us.toArray.size=1 then us.toArray[0]else .tuple us.toArray) w:=by
   unfold results;rw[Array.mapM_eq_mapM_toList];simp only[Sem.run_bind,Sem.run_map,Sem.run_pure]
   erw [g1]
   rfl
  rw[hrun];simp only[List.size_toArray];rfl
 ·match l,us,g2 with
  |[v],[u],g2=>simpa[Xe0]using g2.2 0 v u rfl rfl
  |[],[],g2=>exact .tup rfl (fun i x u h=>by simp at h)
  |a::b::l,x::y::us,g2=>
   rw[dif_neg (by simp)];exact .tup (by have:=g2.1;simpa using this) (fun i x u h1 h2=>g2.2 i x u h1 (by simpa using h2))
  |[],_::_,g2=>have:=g2.1;simp at this
  |_::_,[],g2=>have:=g2.1;simp at this
  |[_],_::_::_,g2=>have:=g2.1;simp at this
  |_::_::_,[_],g2=>have:=g2.1;simp at this
def Xex(ty:TypeId→Option Ty)(rs:List ResultVar)(r:YX)(st:St):Prop:=
 match J9 ty st rs with
 |some (p,l)=>p∧(match r with
  | .val v=>Xe0 l=v∧∀b,¬X1 v b
  | .row z t esz els=>∃b,Xe0 l= .one (.own b)∧look st.H b=some (.row z t esz els))
 |none=>False
def YP(ty:TypeId→Option Ty)(rs:List ResultVar)(r:YX):Xh4:=fun e st=>match e with| .normal| .ret=>Xex ty rs r st|_=>False
def Xdd(vs:List EV):St:={env:=(List.range vs.length).zip vs,H:=[]}
theorem Xya(vs:List EV)(k:Nat):∀t,look (((List.range' k vs.length)).zip vs) t=if k≤t then vs[t - k]? else none:=by
 induction vs generalizing k with
 |nil=>intro t;simp[look]
 |cons v vs ih=>
  intro t;simp only[List.length_cons,List.range'_succ,List.zip_cons_cons,look];by_cases h:k=t
  ·subst h;simp
  ·rw[if_neg h,ih];by_cases h1:k≤t
   ·rw[if_pos (by omega),if_pos h1];have:t - k=(t - (k+1))+1:=by omega
    rw[this];simp
   ·rw[if_neg (by omega),if_neg h1]
theorem Xnt{β:Vl}{v:EV}{u:Value}{N N':Nat→Prop}(h:X9 w N β v u)(hr:∀b,¬X1 v b)(hN:∀g,N g→N' g):X9 w N' noB v u:=
 h.mono hN (fun _ _=>rfl) fun b hb=>absurd hb (hr b)
theorem Ydl(C:Vk P ty){f:FuncId}{fn:Func}{c:Code}{vs:List EV}{r:YX}(hf:P.funcs[f]? =some fn)(hb:fn.body=some c)(hn:vs.length≤fn.ntmps)
  (h:Wp P fn.ntmps c (YP ty fn.results.toList r) (Xdd vs)):Xq P f vs r:=by
 intro M w us hM hargs;have hsz:vs.length=us.size:=by simpa using hargs.1
 have R:Rel w.heap.size (fun _=>False) M w noB (Xdd vs) (us++Array.replicate (fn.ntmps - us.size) undef) w:=by
  have hl:∀t v,look (Xdd vs).env t=some v→vs[t]? =some v:=by
   intro t v hv;have:=Xya vs 0 t;simp only[Xdd,List.range_eq_range']at hv;rw[this]at hv;simpa using hv
  refine⟨Fr.refl _ _ _,Nat.le_refl _,fun t v hv=>?_,fun b ob hb=>(by simp[Xdd,look]at hb),fun b u g hb=>(by cases hb),fun b c u v g hb=>(by cases hb),fun b u hb=>(by cases hb),⟨fun t v b hv hr=>?_,fun k xs x b hk=>(by simp[Xdd,look]at hk)⟩,fun g hg=>hM g (hg.elim id fun h=>h.elim)⟩
  ·obtain⟨u,hu,hr⟩:=hargs.get (hl t v hv);have ht:t<us.size:=by have:=(List.getElem?_eq_some_iff.1 hu).1;simpa using this
   refine⟨u,?_,hr.mono (fun g hg=>⟨hg,fun b u hb=>(by cases hb)⟩) (fun _ _=>rfl) fun _ _=>rfl⟩;rw[Array.getElem?_append_left ht];simpa using hu
  ·obtain⟨u,hu,hr'⟩:=hargs.get (hl t v hv);exact absurd hr (X9.no_refs hr' b)
 refine calls_of_wp hf hb (wp_mono (h rfl (by simp;omega) R) fun e a w' ⟨st,β,hq,hd,hs,R'⟩=>?_);have fin:Xex ty fn.results.toList r st→∃v,(results fn a.tmps).run P w'= .ok v w'∧∃u,Ending.returned v= .returned u∧Below w.heap.size w w'∧ResOk M w w' r u:=by
  intro hfin;unfold Xex at hfin;split at hfin
  ·rename_i p l hl;obtain⟨hp,hfin⟩:=hfin;obtain⟨u,hu,hr⟩:=Xnj C R' hl hp;refine⟨u,hu,u,rfl,R'.fr.below,?_⟩;cases r with
   |val v=>
    obtain⟨rfl,href⟩:=hfin;exact Xnt hr href fun g hg=>hg.1
   |row z t esz els=>
    obtain⟨b,hv,hb⟩:=hfin;rw[hv]at hr;cases hr with|one hr=>
    obtain⟨hβ,_⟩:=hr;obtain⟨u2,hu2,ho⟩:=R'.obj b _ hb;rw[hβ]at hu2;injection hu2 with hu2;subst hu2;obtain⟨cells,o1,o2,o3⟩:=ZF ho;refine⟨⟨cells,⟨o1.1,o1.2.imp id fun⟨g,cap,cur,h1,_,h3⟩=>⟨g,cap,cur,h1,?_,h3⟩⟩,o3.mono (fun g hg=>⟨hg.1,hg.2 b u hβ⟩) fun _ _=>rfl⟩,o2⟩;rcases(R'.at_ b u g hβ (by rw[h1];rfl)).1 with h|h
    ·exact h
    ·exact h.elim
  ·exact hfin.elim
 cases e with
 |normal=>obtain⟨v,h1,h2⟩:=fin hq;exact⟨hd,v,h1,h2⟩
 |ret=>obtain⟨v,h1,h2⟩:=fin hq;exact⟨hd,v,h1,h2⟩
 |_=>exact hq.elim
end
end
def Yht:Value→Cv
 | .slice none _ _=> .sl true 0 []
 |v=> .sc v
def D(P:Program)(t:TypeId):TypeDesc:=(P.underlying t).getD .bool
def isA:Value→Bool
 | .agg _=>true
 |_=>false
def isT:Value→Bool
 | .tuple _=>true
 |_=>false
def okZ(d:TypeDesc)(n:Nat)(z:Value):Bool:=Sim.YF z&&decide (z.cells.size=n)&&(Yeh d==isA z)&&!isT z
def eqD(P:Program)(t:TypeId):Bool:=match D P t with| .struct _=>!P.stoodInHeld t&&!P.eqGuardType P.depth t|_=>false
def Y6(P:Program)(t:TypeId):Option Ty:=
 match P.underlying t,P.info? t with
 |some _,some i=>match i.zero with
  |some z=>if okZ (D P t) i.size z=true
    then some {desc:=D P t,size:=i.size,bytes:=i.bytes,zero:=z.cells.toList.map Yht,agg:=Yeh (D P t),eq:=eqD P t}else none
  |none=>none
 |_,_=>none
theorem Xy8{v:Value}(h:Sim.Xw v=true)(w:World)(N:Nat→Prop):XN w N (Yht v) v:=by
 unfold Sim.Xw at h;split at h<;>first
  |(simp only[Yht];exact .sc rfl)
  |(simp only[Yht];exact .nil)
  |cases h
theorem Xj3{z:Value}(h:Sim.YF z=true)(ht:∀us,z≠ .tuple us):∀c∈z.cells.toList,Sim.Xw c=true:=by
 unfold Sim.YF at h;split at h
 ·rename_i cs;have key:∀l:List Value,(List.rec (motive:=fun _=>Bool) true (fun c _ r=>match Sim.Xw c with|true=>r|false=>false) l:Bool)=true→∀c∈l,Sim.Xw c=true:=by
   intro l
   induction l with
   |nil=>intro _ c hc;simp at hc
   |cons a l ih=>
    intro hl c hc;have hl':(match Sim.Xw a with|true=>(List.rec (motive:=fun _=>Bool) true (fun c _ r=>match Sim.Xw c with|true=>r|false=>false) l:Bool)|false=>false)=true:=hl;cases ha:Sim.Xw a with
    |false=>rw[ha]at hl';cases hl'
    |true=>
     rw[ha]at hl';rcases List.mem_cons.1 hc with rfl|hc
     ·exact ha
     ·exact ih hl' c hc
  exact fun c hc=>key _ h c hc
 ·exact absurd rfl (ht _)
 ·intro c hc;cases z<;>first
   |(simp[Value.cells]at hc;subst hc;exact h)
   |(rename_i hno _;exact absurd rfl (hno _))
theorem Xk(P:Program):Vk P (Y6 P):=by
 intro t T h;unfold Y6 at h;split at h
 ·rename_i d i hu hi;split at h
  ·rename_i z hz;split at h
   ·rename_i hc;injection h with h;subst h;simp only[okZ,Bool.and_eq_true,decide_eq_true_eq,beq_iff_eq,Bool.not_eq_true']at hc;obtain⟨⟨⟨h1,h2⟩,h3⟩,h4⟩:=hc;have hnt:∀us,z≠ .tuple us:=by rintro us rfl;simp[isT]at h4
    have hcc:=Xj3 h1 hnt;refine⟨by simp[D,hu],rfl,⟨i,z,hi,rfl,rfl,hz,fun w N=>⟨by simp,fun k x y hx hy=>?_⟩,by simpa using h2,fun ha=>?_,fun ha=>?_⟩,fun he=>?_⟩
    ·rw[List.getElem?_map]at hx;rw[hy]at hx;simp at hx;subst hx;exact Xy8 (hcc y (List.mem_of_getElem? hy)) w N
    ·have ha':Yeh (D P t)=true:=ha;rw[ha']at h3;cases z<;>simp[isA]at h3;exact⟨_,rfl⟩
    ·have ha':Yeh (D P t)=false:=ha;rw[ha']at h3;cases z<;>simp[isA]at h3<;>first|rfl|(exact absurd rfl (hnt _))
    ·have he:eqD P t=true:=he;unfold eqD at he;split at he
     ·simpa using he
     ·cases he
   ·cases h
  ·cases h
 ·cases h
theorem Xi{P:Program}{ty:TypeId→Option Ty}(C:Vk P ty){f:FuncId}{fn:Func}{c:Code}{vs:List EV}{r:YX}{n:Nat}{rs:List ResultVar}(hf:P.funcs[f]? =some fn)(hb:fn.body=some c)(hn:fn.ntmps=n)(hr:fn.results.toList=rs)(hl:vs.length≤n)
  (h:Wp P n c (YP ty rs r) (Xdd vs)):Xq P f vs r:=by
 subst hn;subst hr;exact Ydl C hf hb hl h
section
section
variable {P:Program} {ty:TypeId→Option Ty} {spec:Spec} {n:Nat} {Q:Xh4} {s:St}
theorem cEV_int(k:IntKind)(i:Int):cEV (.int k i)=some (.one (.c (.sc (.int k i)))):=rfl
theorem cEV_bool(b:Bool):cEV (.bool b)=some (.one (.c (.sc (.bool b)))):=rfl
theorem cEV_str(b:ByteArray):cEV (.string b)=some (.one (.c (.sc (.string b)))):=rfl
theorem cEV_nil:cEV (.slice none 0 0)=some (.one (.c (.sl true 0 []))):=rfl
theorem cEV_fn(f:Fn)(a b:Array Value):cEV (.func f a b)=some (.one (.c (.sc (.func f a b)))):=rfl
theorem init1(a:EV):Xdd [a]=⟨[(0,a)],[]⟩:=rfl
theorem init0:Xdd []=⟨[],[]⟩:=rfl
theorem init2(a b:EV):Xdd [a,b]=⟨[(0,a),(1,b)],[]⟩:=rfl
theorem init3(a b c:EV):Xdd [a,b,c]=⟨[(0,a),(1,b),(2,c)],[]⟩:=rfl
theorem init4(a b c d:EV):Xdd [a,b,c,d]=⟨[(0,a),(1,b),(2,c),(3,d)],[]⟩:=rfl
theorem init5(a b c d e:EV):Xdd [a,b,c,d,e]=⟨[(0,a),(1,b),(2,c),(3,d),(4,e)],[]⟩:=rfl
theorem init6(a b c d e f:EV):Xdd [a,b,c,d,e,f]=⟨[(0,a),(1,b),(2,c),(3,d),(4,e),(5,f)],[]⟩:=rfl
theorem Wp.seqk{x y:Code}(h:∀K:St→Prop,(∀st,Wp P n y Q st→K st)→Wp P n x (XV K Q) s):Wp P n (.seq x y) Q s:=Wp.seq (h _ fun _ h=>h)
theorem Wp.rk(C:Vk P ty)(S:XF P spec){id:Nat}{ops:Array Oper}{y:Code}(ho:GY n ops.toList=true)(h:∀K:St→Prop,(∀st,Wp P n y Q st→K st)→Xbs ty spec ops.toList ops.toList K s):Wp P n (.seq (.region id ops false) y) Q s:=
 Wp.seq (Wp.region C S ho (h _ fun _ h=>h))
theorem Wp.rl(C:Vk P ty)(S:XF P spec){id:Nat}{ops:Array Oper}(ho:GY n ops.toList=true)(h:∀K:St→Prop,(∀st,Q .normal st→K st)→Xbs ty spec ops.toList ops.toList K s):Wp P n (.region id ops false) Q s:=
 Wp.region C S ho (h _ fun _ h=>h)
end
end
section
section
variable {P:Program} {base:Nat} {E M:Nat→Prop} {w0 w w':World} {β β':Vl} {st s s':St} {a:Act} {N:Nat→Prop} {ty:TypeId→Option Ty} {tm:Array Value} {spec:Spec} {n:Nat}
theorem Xqb{t:TypeId}{x:EV}{r:Prop×EV}(hH:∀b ob,look s.H b=some ob→look s'.H b=some ob)(h:Je ty s t x=some r):Je ty s' t x=some r:=by
 cases hT:ty t with
 |none=>simp[Je,hT]at h
 |some T=>
  simp only[Je,hT]at h⊢;cases x with
  |one x=>
   cases x with
   |ptr b off=>
    cases hb:look s.H b with
    |none=>simp[hb]at h
    |some ob=>simp only[hb]at h;simp only[hH _ _ hb];exact h
   |_=>exact h
  |rp b esz i off=>
   cases hb:look s.H b with
   |none=>simp[hb]at h
   |some ob=>simp only[hb]at h;simp only[hH _ _ hb];exact h
  |_=>exact h
theorem Xde{t:TypeId}{x i:EV}{r:Prop×EV}(hH:∀b ob,look s.H b=some ob→look s'.H b=some ob)(h:XA ty s t x i=some r):XA ty s' t x i=some r:=by
 by_cases hx:∃b,x= .one (.own b)
 ·obtain⟨b,rfl⟩:=hx;have key:look s.H b=none∨look s.H b=look s'.H b:=by
   cases hb:look s.H b with
   |none=>exact .inl rfl
   |some ob=>exact .inr (hH _ _ hb).symm
  rcases key with key|key
  ·exfalso;unfold XA at h;split at h
   ·split at h<;>simp_all
   ·cases h
  ·have:XA ty s t (.one (.own b)) i=XA ty s' t (.one (.own b)) i:=by
    unfold XA;split
    ·split<;>first|rfl|(simp_all;done)
    ·rfl
   rw[←this];exact h
 ·have:XA ty s t x i=XA ty s' t x i:=by
   unfold XA;split
   ·split<;>first|rfl|(rename_i b _;exact absurd ⟨_,rfl⟩ hx)
   ·rfl
  rw[←this];exact h
theorem Xt3{t:TypeId}{x r:EV}(hH:∀b ob,look s.H b=some ob→look s'.H b=some ob)(h:Hn ty s t x=some r):Hn ty s' t x=some r:=by
 by_cases hx:∃b,x= .one (.own b)∨x= .one (.map b)
 ·obtain⟨b,hx⟩:=hx;have key:look s.H b=none∨look s.H b=look s'.H b:=by
   cases hb:look s.H b with
   |none=>exact .inl rfl
   |some ob=>exact .inr (hH _ _ hb).symm
  rcases key with key|key
  ·have:Hn ty s t x=none∨Hn ty s t x=Hn ty s' t x:=by
    unfold Hn;split
    ·split<;>first|exact .inr rfl|(left;simp_all;done)
    ·exact .inl rfl
   rcases this with this|this
   ·rw[this]at h;cases h
   ·rw[←this];exact h
  ·have:Hn ty s t x=Hn ty s' t x:=by
    unfold Hn;split
    ·split<;>first|rfl|(simp_all;done)
    ·rfl
   rw[←this];exact h
 ·have:Hn ty s t x=Hn ty s' t x:=by
   unfold Hn;split
   ·split<;>first|rfl|(rename_i b _;exact absurd ⟨_, .inl rfl⟩ hx)|(rename_i b _;exact absurd ⟨_, .inr rfl⟩ hx)
   ·rfl
  rw[←this];exact h
theorem Xjj{t:TypeId}{x i r:EV}{ok:Bool}(hH:∀b ob,look s.H b=some ob→look s'.H b=some ob)(h:Yq ty s t x i ok=some r):Yq ty s' t x i ok=some r:=by
 unfold Yq at h⊢;split at h
 ·rename_i hm;split at h
  ·rename_i es hb;simp only[hH _ _ hb];exact h
  ·cases h
 ·cases h
theorem Ycv(h:s.env=s'.env)(x:Operand):evO s x=evO s' x:=by cases x<;>simp[evO,h]
theorem Xoi:∀{ps:List (Nat×Operand)},(∀p∈ps,evO s p.2=evO s' p.2)→JD s ps=JD s' ps:=by
 intro ps
 induction ps with
 |nil=>intro _;rfl
 |cons p ps ih=>
  obtain⟨i,x⟩:=p;intro h;simp only[JD,h (i,x) List.mem_cons_self,ih fun p hp=>h p (List.mem_cons_of_mem _ hp)]
theorem Ya2:∀{xs:List Operand},(∀x∈xs,evO s x=evO s' x)→Xbr s xs=Xbr s' xs:=by
 intro xs
 induction xs with
 |nil=>intro _;rfl
 |cons x xs ih=>
  intro h;simp only[Xbr,h x List.mem_cons_self,ih fun y hy=>h y (List.mem_cons_of_mem _ hy)]
theorem Xpk{o:Oper}{r:Prop×EV}(he:s.env=s'.env)(hH:∀b ob,look s.H b=some ob→look s'.H b=some ob)(h:KM ty s o=some r):KM ty s' o=some r:=by
 have hv:∀x,evO s x=evO s' x:=Ycv he;have ha:∀ps,JD s ps=JD s' ps:=fun ps=>Xoi fun p _=>hv p.2;revert h;unfold KM;simp only[hv,ha];split
 all_goals first
  |exact id
  |skip
 ·split
  ·exact Xde hH
  ·exact id
 ·split
  ·exact Xqb hH
  ·exact id
 ·split
  ·rename_i v hv1;cases hl:Hn ty s _ v with
   |none=>intro h;cases h
   |some r'=>simp only[Xt3 hH hl];exact id
  ·exact id
 ·split
  ·rename_i v u hv1 hv2;cases hl:Yq ty s _ v u _ with
   |none=>intro h;cases h
   |some r'=>simp only[Xjj hH hl];exact id
  ·exact id
theorem Xxo{o:Oper}(he:∀x,x∈o.op.operands→evO s x=evO s' x)(hH:s.H=s'.H):KM ty s o=KM ty s' o:=by
 have hl:∀t x,Je ty s t x=Je ty s' t x:=fun t x=>by unfold Je;rw[hH]
 have hi:∀t x i,XA ty s t x i=XA ty s' t x i:=fun t x i=>by unfold XA;rw[hH]
 have hn:∀t x,Hn ty s t x=Hn ty s' t x:=fun t x=>by unfold Hn;rw[hH]
 unfold KM;split
 all_goals rename_i ho
 all_goals(try rw[ho]at he)
 ·rw[he _ (by simp[Op.operands])]
 ·rw[he _ (by simp[Op.operands])]
 ·rename_i op t x y yt;rw[he x (by simp[Op.operands]),he y (by simp[Op.operands])]
 ·rw[he _ (by simp[Op.operands])]
 ·rw[he _ (by simp[Op.operands])]
 ·rw[he _ (by simp[Op.operands])]
 ·rw[he _ (by simp[Op.operands])]
 ·rename_i t x i;rw[he x (by simp[Op.operands]),he i (by simp[Op.operands])];simp only[hi]
 ·rename_i t x i;rw[he x (by simp[Op.operands]),he i (by simp[Op.operands])]
 ·rw[he _ (by simp[Op.operands])];simp only[hl]
 ·rw[he _ (by simp[Op.operands])]
 ·rename_i t ps;rw[Xoi (s:=s) (s':=s') fun p hp=>he p.2 (by simp[Op.operands];exact⟨p.1,by simpa using hp⟩)]
 ·rename_i t x lo hi';rw[he x (by simp[Op.operands])];cases lo<;>cases hi'<;>simp only[]
  ·rename_i y;rw[he y (by simp[Op.operands])]
  ·rename_i y;rw[he y (by simp[Op.operands])]
  ·rename_i y z;rw[he y (by simp[Op.operands]),he z (by simp[Op.operands])]
 ·rw[he _ (by simp[Op.operands])]
 ·rename_i x t;rw[he x (by simp[Op.operands,Call.operands])];simp only[hn]
 ·rename_i x y ts;rw[he x (by simp[Op.operands,Call.operands]),he y (by simp[Op.operands,Call.operands])]
 ·rename_i x y ts;rw[he x (by simp[Op.operands,Call.operands]),he y (by simp[Op.operands,Call.operands])]
 ·rename_i t x i ok;rw[he x (by simp[Op.operands]),he i (by simp[Op.operands])];have:∀v u,Yq ty s t v u ok=Yq ty s' t v u ok:=fun v u=>by unfold Yq;rw[hH]
  simp only[this]
 ·rename_i x t;rw[he x (by simp[Op.operands,Call.operands])]
 ·rfl
end
end
section
section
variable {P:Program} {base:Nat} {E M:Nat→Prop} {w0 w w':World} {β β':Vl} {st s s':St} {a:Act} {N:Nat→Prop} {ty:TypeId→Option Ty} {tm:Array Value} {spec:Spec} {n:Nat}
def G4{α:Type}:List Nat→List (Nat×α)→List (Nat×α)
 |[],l=>l
 |b::W,l=>del b (G4 W l)
theorem Xt0{α:Type}(W:List Nat)(l:List (Nat×α))(t:Nat):look (G4 W l) t=if t∈W then none else look l t:=by
 induction W with
 |nil=>simp[G4]
 |cons b W ih=>
  simp only[G4,Xgw,ih,List.mem_cons];by_cases h:t=b
  ·simp[h]
  ·simp[h]
theorem Xj0{α:Type}(b:Nat)(x:α)(l:List (Nat×α)):del b (put l b x)=del b l:=by
 induction l with
 |nil=>simp[put,del]
 |cons p r ih=>
  obtain⟨k,v⟩:=p;simp only[put];by_cases h:k=b
  ·rw[if_pos h];simp[del,h]
  ·rw[if_neg h];simp only[del];rw[if_neg h,if_neg h,ih]
theorem Xhj{α:Type}{b c:Nat}(hc:c≠b)(x:α)(l:List (Nat×α)):del b (put l c x)=put (del b l) c x:=by
 induction l with
 |nil=>simp[put,del,hc]
 |cons p r ih=>
  obtain⟨k,v⟩:=p;simp only[put,del];by_cases h:k=c
  ·rw[if_pos h];have hkb:k≠b:=by rw[h];exact hc
   rw[if_neg hkb];simp only[del,put];rw[if_neg hc,if_pos h]
  ·rw[if_neg h];simp only[del];by_cases g:k=b
   ·rw[if_pos g,if_pos g,ih]
   ·rw[if_neg g,if_neg g];simp only[put];rw[if_neg h,ih]
theorem Xy6{α:Type}{W:List Nat}{c:Nat}(hc:c∈W)(x:α)(l:List (Nat×α)):G4 W (put l c x)=G4 W l:=by
 induction W with
 |nil=>cases hc
 |cons b W ih=>
  simp only[G4];by_cases h:c∈W
  ·rw[ih h]
  ·have hb:c=b:=by rcases List.mem_cons.1 hc with h'|h';exact h';exact absurd h' h
   subst hb;have key:∀(W:List Nat),c∉W→G4 W (put l c x)=put (G4 W l) c x:=by
    intro W
    induction W with
    |nil=>intro _;rfl
    |cons d W ihW=>
     intro hd;simp only[G4];rw[ihW (fun q=>hd (List.mem_cons_of_mem _ q)),Xhj (fun q=>hd (by rw[q];exact List.mem_cons_self))]
   rw[key W h,Xj0]
def Ge(W:List Nat)(st:St):St:={st with H:=G4 W st.H}
def KB(ty:TypeId→Option Ty)(st:St)(t:TypeId)(x v:EV):Option (Prop×Nat×OB):=
 match ty t,Kd v with
 |some T,some ys=>
  match x with
  | .one (.ptr b off)=>(match look st.H b with
   |some (.box xs)=>some (ys.length=T.size∧off+ys.length≤xs.length,b, .box (over xs off ys))
   |_=>none)
  | .rp b esz i off=>(match look st.H b,Xd7 ys with
   |some (.row z t' esz' els),some cs=>some (esz'=esz∧ys.length=T.size∧i<els.length∧off+cs.length≤esz,b, .row z t' esz' (els.set i (JK (els.getD i []) off cs)))
   |_,_=>none)
  |_=>none
 |_,_=>none
theorem Xr9{t:TypeId}{x v:EV}{p:Prop}{b:Nat}{ob:OB}(h:KB ty st t x v=some (p,b,ob)):KK ty st t x v=some (p,{st with H:=put st.H b ob}):=by
 unfold KB at h;unfold KK;split at h
 ·rename_i T ys hT hys;simp only[hT,hys];split at h
  ·split at h
   ·rename_i hb;simp only[hb];simp only[Option.some.injEq,Prod.mk.injEq]at h;obtain⟨rfl,rfl,rfl⟩:=h;rfl
   ·cases h
  ·split at h
   ·rename_i hb hc;simp only[hb,hc];simp only[Option.some.injEq,Prod.mk.injEq]at h;obtain⟨rfl,rfl,rfl⟩:=h;rfl
   ·cases h
  ·cases h
 ·cases h
theorem Xsa{t:TypeId}{x v:EV}{p:Prop}{b:Nat}{ob:OB}(h:KB ty s' t x v=some (p,b,ob))(hb:look s.H b=look s'.H b):KB ty s t x v=some (p,b,ob):=by
 unfold KB at h⊢;split at h
 ·rename_i T ys hT hys
  try simp only[hT,hys]
  split at h
  ·split at h
   ·rename_i hl;simp only[Option.some.injEq,Prod.mk.injEq]at h;obtain⟨rfl,rfl,rfl⟩:=h;rw[hl]at hb
    try simp only[hb]
   ·cases h
  ·split at h
   ·rename_i hl hc;simp only[Option.some.injEq,Prod.mk.injEq]at h;obtain⟨rfl,rfl,rfl⟩:=h;rw[hl]at hb
    try simp only[hb,hc]
   ·cases h
  ·cases h
 ·cases h
abbrev Eff:=Prop×EV×Option (Nat×OB)
def rdO(W:List Nat)(st:St)(o:Oper):Option Nat:=
 match o.op with
 | .load _ x=>(match evO st x with
  |some (.one (.ptr b _))=>if b∈W then some b else none
  |some (.rp b _ _ _)=>if b∈W then some b else none
  |_=>none)
 |_=>none
def Xbu(W:List Nat)(st:St)(o:Oper):St:=match rdO W st o with|some _=>st|none=>Ge W st
def Xdm(ty:TypeId→Option Ty)(spec:Spec)(W:List Nat)(st:St)(o:Oper):Option Eff:=
 match o.op with
 | .pick c x y=>(match evO st c with
  |some (.one (.c (.sc (.bool true))))=>(match evO st x with|some v=>some (True,v,none)|none=>none)
  |some (.one (.c (.sc (.bool false))))=>(match evO st y with|some v=>some (True,v,none)|none=>none)
  |_=>none)
 | .alloc t=>(match o.dst,ty t with
  |some d,some T=>(match look st.H d with|none=>some (True, .one (.ptr d 0),some (d, .box (T.zero.map Cx.c)))|some _=>none)
  |_,_=>none)
 | .box _ x=>(match o.dst,evO st x with
  |some d,some v=>(match Kd v,look st.H d with|some xs,none=>some (True, .one (.ptr d 0),some (d, .box xs))|_,_=>none)
  |_,_=>none)
 | .store t x v=>(match evO st x,evO st v with
  |some vx,some vv=>(match KB ty st t vx vv with|some (p,b,ob)=>some (p, .any,some (b,ob))|none=>none)
  |_,_=>none)
 | .call {callee:= .value f,args:=xs, .. }=>(match VD spec st f xs.toList with
  |some (p, .val v)=>some (p,v,none)
  |_=>none)
 | .makeSlice .. =>none
 | .buildSlice .. =>none
 | .call {callee:= .builtin .append, .. }=>none
 | .makeMap .. =>none
 | .mapUpdate .. =>none
 | .insert .. =>none
 | .slice t x lo hi none=>
  (match evO st x,(match lo with|none=>some none|some x=>(evO st x).map some),(match hi with|none=>some none|some x=>(evO st x).map some)with
   |some v,some l,some h=>(match Kq ty t v l h with|some (p,r)=>some (p,r,none)|none=>none)
   |_,_,_=>none)
 |_=>match KM ty (Xbu W st o) o with
  |some (p,v)=>some (p,v,none)
  |none=>none
def Zg(st:St)(d:Option Nat)(v:EV)(u:Option (Nat×OB)):St:=
 setD {st with H:=match u with|some (b,ob)=>put st.H b ob|none=>st.H} d v
theorem Xty(W:List Nat):∀b ob,look (Ge W st).H b=some ob→look st.H b=some ob:=by
 intro b ob h;simp only[Ge,Xt0]at h;split at h
 ·cases h
 ·exact h
theorem Xxj(W:List Nat)(o:Oper):(Xbu W st o).env=st.env:=by unfold Xbu;split<;>rfl
theorem Xsx(W:List Nat)(o:Oper):∀b ob,look (Xbu W st o).H b=some ob→look st.H b=some ob:=by
 unfold Xbu;split
 ·exact fun _ _ h=>h
 ·exact Xty W
theorem Xcb{t:TypeId}{v:EV}{l h:Option EV}{r:Prop×EV}(q:Kq ty t v l h=some r):Xfi ty st t v l h=none:=by
 unfold Kq at q;split at q
 ·rfl
 ·rfl
 ·cases q
theorem Xy1{W:List Nat}{o:Oper}{p:Prop}{v:EV}{u:Option (Nat×OB)}(h:Xdm ty spec W st o=some (p,v,u))(hp:p):Xaf ty spec st o (fun s=>s=Zg st o.dst v u):=by
 unfold Xdm at h;split at h
 ·rename_i c x y ho;unfold Xaf;simp only[ho];split at h
  ·rename_i hc;simp only[hc];split at h
   ·rename_i hx;simp only[Option.some.injEq,Prod.mk.injEq]at h;obtain⟨_,rfl,rfl⟩:=h;simp only[hx,if_true];rfl
   ·cases h
  ·rename_i hc;simp only[hc];split at h
   ·rename_i hx;simp only[Option.some.injEq,Prod.mk.injEq]at h;obtain⟨_,rfl,rfl⟩:=h;simp only[hx,Bool.false_eq_true,if_false];rfl
   ·cases h
  ·cases h
 ·rename_i t ho;unfold Xaf opE;simp only[ho];split at h
  ·rename_i d T hd hT;split at h
   ·rename_i hl;simp only[Option.some.injEq,Prod.mk.injEq]at h;obtain⟨_,rfl,rfl⟩:=h;simp only[hd,K3,hT,Xd6,hl];exact⟨trivial,rfl⟩
   ·cases h
  ·cases h
 ·rename_i t x ho;unfold Xaf opE;simp only[ho];split at h
  ·rename_i d v' hd hv;split at h
   ·rename_i xs hx hl;simp only[Option.some.injEq,Prod.mk.injEq]at h;obtain⟨_,rfl,rfl⟩:=h;simp only[hd,K0,hv,hx,Xd6,hl];exact⟨trivial,rfl⟩
   ·cases h
  ·cases h
 ·rename_i t x v' ho;unfold Xaf opE;simp only[ho];split at h
  ·rename_i vx vv hx hv;split at h
   ·rename_i p' b ob hs;simp only[Option.some.injEq,Prod.mk.injEq]at h;obtain⟨rfl,rfl,rfl⟩:=h;simp only[hx,hv,Xr9 hs];exact⟨hp,rfl⟩
   ·cases h
  ·cases h
 ·rename_i f xs ts ho;unfold Xaf opE;simp only[ho];split at h
  ·rename_i p' v' hc;simp only[Option.some.injEq,Prod.mk.injEq]at h;obtain⟨rfl,rfl,rfl⟩:=h;simp only[hc,Xec];exact⟨hp,rfl⟩
  ·cases h
 ·cases h
 ·cases h
 ·cases h
 ·cases h
 ·cases h
 ·cases h
 ·rename_i t x lo hi ho;unfold Xaf opE;simp only[ho];split at h
  ·rename_i v' l h' hv1 hlo hhi;split at h
   ·rename_i p' r' hs;simp only[Option.some.injEq,Prod.mk.injEq]at h;obtain⟨rfl,rfl,rfl⟩:=h;cases lo<;>cases hi<;>simp only[]at hlo hhi⊢
    ·injection hlo with hlo;injection hhi with hhi;subst hlo;subst hhi;simp only[hv1,Xcb hs,hs];exact⟨hp,rfl⟩
    ·injection hlo with hlo;subst hlo;simp only[hv1,hhi,Xcb hs,hs];exact⟨hp,rfl⟩
    ·injection hhi with hhi;subst hhi;simp only[hv1,hlo,Xcb hs,hs];exact⟨hp,rfl⟩
    ·simp only[hv1,hlo,hhi,Xcb hs,hs];exact⟨hp,rfl⟩
   ·cases h
  ·cases h
 ·rename_i h1 h2 h3 h4 h5 h6 h7 h8 h9 h10 h11 h12;split at h
  ·rename_i p' v' hpu;simp only[Option.some.injEq,Prod.mk.injEq]at h;obtain⟨rfl,rfl,rfl⟩:=h;have hpu':=Xpk (s:=Xbu W st o) (s':=st) (Xxj W o) (Xsx W o) hpu;have hop:opE ty spec st o=some (p',setD st o.dst v'):=by
    unfold opE;split
    ·rename_i ho;exact absurd ho (h2 _)
    ·rename_i ho;exact absurd ho (h3 _ _)
    ·rename_i ho;exact absurd ho (h4 _ _ _)
    ·rename_i ho;exact absurd ho (h6 _ _ _)
    ·rename_i ho;exact absurd ho (h7 _ _ _)
    ·rename_i ho;exact absurd ho (h8 _ _)
    ·rename_i ho;exact absurd ho (h9 _ _)
    ·rename_i ho;exact absurd ho (h10 _ _ _ _)
    ·rename_i ho;exact absurd ho (h11 _ _ _ _)
    ·rename_i ho;exact absurd ho (h12 _ _ _ _)
    ·rename_i ho;exact absurd ho (h5 _ _ _)
    ·rw[hpu']
   unfold Xaf;split
   ·rename_i ho;exact absurd ho (h1 _ _ _)
   ·rw[hop];exact⟨hp,rfl⟩
  ·cases h
end
end
section
section
variable {P:Program} {base:Nat} {E M:Nat→Prop} {w0 w w':World} {β β':Vl} {st s s':St} {a:Act} {N:Nat→Prop} {ty:TypeId→Option Ty} {tm:Array Value} {spec:Spec} {n:Nat}
def Xb9(ty:TypeId→Option Ty)(spec:Spec)(W:List Nat)(ops:List Oper)(st:St)(o:Oper):Option Eff:=
 match Kb st ops o with
 |some true=>Xdm ty spec W st o
 |some false=>some (True, .tup [],none)
 |none=>none
def rdG(W:List Nat)(ops:List Oper)(st:St)(o:Oper):Option Nat:=
 match Kb st ops o with
 |some true=>rdO W st o
 |_=>none
def rdL(W:List Nat)(ops:List Oper)(st:St)(o:Oper)(k:Nat)(wr:List (Nat×Nat×Bool)):List (Nat×Nat×Bool):=match rdG W ops st o with|some b=>(k,b,false)::wr|none=>wr
def Jz(ty:TypeId→Option Ty)(spec:Spec)(W:List Nat)(ops:List Oper):List Oper→Nat→List (Nat×Nat×Bool)→(List (Nat×Nat×Bool)→St→Prop)→St→Prop
 |[],_,wr,Q,st=>Q wr st
 |o::r,k,wr,Q,st=>match Xb9 ty spec W ops st o with
  |some (p,v,none)=>p∧Jz ty spec W ops r (k+1) (rdL W ops st o k wr) Q (Zg st o.dst v none)
  |some (p,v,some (b,ob))=>p∧b∈W∧Jz ty spec W ops r (k+1) ((k,b,true)::wr) Q (Zg st o.dst v (some (b,ob)))
  |none=>False
def tmpsOf(ops:List Oper)(o:Oper):List Nat:=
 (o.op.operands.toList.filterMap fun| .tmp t=>some t|_=>none)++(match o.guard with|some (j,_)=>(match ops[j]? with|some g=>g.dst.toList|none=>[])|none=>[])
def Xqy(ops:List Oper)(x y:Oper):Bool:=
 (match x.dst with|some d=>(tmpsOf ops y).contains d||(y.dst==some d)|none=>false)||(match y.dst with|some d=>(tmpsOf ops x).contains d|none=>false)
def Xk1(ops:List Oper)(i j:Nat):Bool:=Sim.before (Sim.X0 ops) i j
def Xww(ops:List Oper):Bool:=
 (List.range ops.length).all fun j=>(List.range j).all fun i=>match ops[i]?,ops[j]? with
  |some x,some y=>!(Xqy ops x y)||Xk1 ops i j
  |_,_=>true
def Xu9(ops:List Oper):Bool:=(List.range ops.length).all fun j=>match ops[j]? with|some o=>Sim.VU o.after.toList j|none=>true
def Xjy(n:Nat)(ops:List Oper):Bool:=GY n ops&&(Xww ops&&Xu9 ops)
def Xhl(ops:List Oper)(wr:List (Nat×Nat×Bool)):Bool:=wr.all fun q=>wr.all fun p=>!(p.2.1==q.2.1)||(!(p.2.2||q.2.2)||(!(Nat.blt p.1 q.1)||Xk1 ops p.1 q.1))
theorem Ye6{W:List Nat}{o:Oper}(he:∀x,x∈o.op.operands→evO s x=evO s' x):rdO W s o=rdO W s' o:=by
 unfold rdO;split
 ·rename_i t x ho;rw[ho]at he;rw[he x (by simp[Op.operands])]
 ·rfl
theorem Xxn{W:List Nat}{o:Oper}{b:Nat}(h:rdO W s' o=some b)(he:∀x,x∈o.op.operands→evO s x=evO s' x)(hb:look s.H b=look s'.H b):KM ty s o=KM ty s' o:=by
 unfold rdO at h;split at h
 ·rename_i t x ho;rw[ho]at he;have e:=he x (by simp[Op.operands]);unfold KM;simp only[ho,e];split at h
  ·rename_i b' off hx;split at h
   ·injection h with h;subst h;simp only[hx,Je,hb]
   ·cases h
  ·rename_i b' e1 e2 e3 hx;split at h
   ·injection h with h;subst h;simp only[hx,Je,hb]
   ·cases h
  ·cases h
 ·cases h
theorem Ycx{W:List Nat}{o:Oper}{p:Prop}{v:EV}{u:Option (Nat×OB)}(h:Xdm ty spec W s' o=some (p,v,u))(he:∀x,x∈o.op.operands→evO s x=evO s' x)(hW:G4 W s.H=G4 W s'.H)
  (hb:∀b ob,u=some (b,ob)→look s.H b=look s'.H b) (hr:∀b,rdO W s' o=some b→look s.H b=look s'.H b):Xdm ty spec W s o=some (p,v,u):=by
 unfold Xdm at h⊢;split at h
 ·rename_i c x y ho;rw[ho]at he;have e1:=he c (by simp[Op.operands]);have e2:=he x (by simp[Op.operands]);have e3:=he y (by simp[Op.operands]);simp only[e1,e2,e3];exact h
 ·rename_i t ho;split at h
  ·rename_i d T hd hT
   try simp only[hd,hT]
   split at h
   ·rename_i hl;simp only[Option.some.injEq,Prod.mk.injEq]at h;obtain⟨rfl,rfl,rfl⟩:=h;have:=hb d _ rfl;rw[hl]at this
    try simp only[this]
   ·cases h
  ·cases h
 ·rename_i t x ho;rw[ho]at he;have e1:=he x (by simp[Op.operands]);simp only[e1];split at h
  ·rename_i d v' hd hv
   try simp only[hd,hv]
   split at h
   ·rename_i xs hx hl;simp only[Option.some.injEq,Prod.mk.injEq]at h;obtain⟨rfl,rfl,rfl⟩:=h;have:=hb d _ rfl;rw[hl]at this
    try simp only[hx,this]
   ·cases h
  ·cases h
 ·rename_i t x v' ho;rw[ho]at he;have e1:=he x (by simp[Op.operands]);have e2:=he v' (by simp[Op.operands]);simp only[e1,e2];split at h
  ·rename_i vx vv hx hv
   try simp only[hx,hv]
   split at h
   ·rename_i p' b ob hs;simp only[Option.some.injEq,Prod.mk.injEq]at h;obtain⟨rfl,rfl,rfl⟩:=h;simp only[Xsa hs (hb b ob rfl)]
   ·cases h
  ·cases h
 ·rename_i f xs ts ho;rw[ho]at he;have e1:=he f (by simp[Op.operands,Call.operands]);have e2:Xbr s xs.toList=Xbr s' xs.toList:=Ya2 fun x hx=>he x (by simp[Op.operands,Call.operands];exact .inr (by simpa using hx));have:VD spec s f xs.toList=VD spec s' f xs.toList:=by unfold VD;rw[e1,e2]
  simp only[this];exact h
 ·cases h
 ·cases h
 ·cases h
 ·cases h
 ·cases h
 ·cases h
 ·rename_i t x lo hi ho;rw[ho]at he;have e1:=he x (by simp[Op.operands]);simp only[e1];cases lo<;>cases hi<;>simp only[]at h⊢
  ·exact h
  ·rename_i y;rw[he y (by simp[Op.operands])];exact h
  ·rename_i y;rw[he y (by simp[Op.operands])];exact h
  ·rename_i y z;rw[he y (by simp[Op.operands]),he z (by simp[Op.operands])];exact h
 ·have e:=Ye6 (W:=W) he;have:KM ty (Xbu W s o) o=KM ty (Xbu W s' o) o:=by
   unfold Xbu;rw[e];split
   ·rename_i b hb';exact Xxn hb' he (hr b hb')
   ·exact Xxo (fun x hx=>by have:=he x hx;cases x<;>(first|(simp[evO,Ge];done)|simpa[evO,Ge]using this)) hW
  rw[this];exact h
structure Run(ty:TypeId→Option Ty)(spec:Spec)(W:List Nat)(ops:List Oper)(S:Nat→St)(V:Nat→EV)(U:Nat→Option (Nat×OB)):Prop where
 step:∀k o,ops[k]? =some o→∃p,Xb9 ty spec W ops (S k) o=some (p,V k,U k)∧p∧S (k+1)=Zg (S k) o.dst (V k) (U k)
 inW:∀k b ob,k<ops.length→U k=some (b,ob)→b∈W
def Got(ty:TypeId→Option Ty)(spec:Spec)(W:List Nat)(ops:List Oper)(Q:List (Nat×Nat×Bool)→St→Prop)(r:List Oper)(k:Nat)(wr:List (Nat×Nat×Bool))(st:St):Prop:=
 ∃(S:Nat→St) (V:Nat→EV) (U:Nat→Option (Nat×OB)) (wr':List (Nat×Nat×Bool)),S k=st∧Q wr' (S (k+r.length))∧
   (∀j o,r[j]? =some o→∃p,Xb9 ty spec W ops (S (k+j)) o=some (p,V (k+j),U (k+j))∧p∧S (k+j+1)=Zg (S (k+j)) o.dst (V (k+j)) (U (k+j)))∧
   (∀j b ob,j<r.length→U (k+j)=some (b,ob)→b∈W∧(k+j,b,true)∈wr')∧(∀q∈wr,q∈wr')∧∀j o b,r[j]? =some o→rdG W ops (S (k+j)) o=some b→∃f,(k+j,b,f)∈wr'
theorem Xr4{W:List Nat}{ops:List Oper}{Q:List (Nat×Nat×Bool)→St→Prop}:∀(r:List Oper) (k:Nat) (wr:List (Nat×Nat×Bool)) (st:St),Jz ty spec W ops r k wr Q st→Got ty spec W ops Q r k wr st:=by
 intro r
 induction r with
 |nil=>
  intro k wr st h;exact⟨fun _=>st,fun _=> .any,fun _=>none,wr,rfl,h,fun j o h=>(by simp at h),fun j b ob h=>(by simp at h),fun q hq=>hq,fun j o b h=>(by simp at h)⟩
 |cons o r ih=>
  intro k wr st h;simp only[Jz]at h;have fin:∀(p:Prop) (v:EV) (u:Option (Nat×OB)) (wr1:List (Nat×Nat×Bool)),Xb9 ty spec W ops st o=some (p,v,u)→p→(∀b ob,u=some (b,ob)→b∈W∧(k,b,true)∈wr1)→(∀q∈wr,q∈wr1)→(∀b,rdG W ops st o=some b→∃f,(k,b,f)∈wr1)→
    Jz ty spec W ops r (k+1) wr1 Q (Zg st o.dst v u)→Got ty spec W ops Q (o::r) k wr st:=by
   intro p v u wr1 h1 hp h2 h2' h2r h3;obtain⟨S,V,U,wr',s1,s2,s3,s4,s5,s6⟩:=ih (k+1) wr1 _ h3;have hne:∀j,k+1+j≠k:=fun j=>by omega
   refine⟨fun i=>if i=k then st else S i,fun i=>if i=k then v else V i,fun i=>if i=k then u else U i,wr',by simp,?_,fun j o' hj=>?_,fun j b ob hj hu=>?_,fun q hq=>s5 q (h2' q hq),fun j o' b hj hrd=>?_⟩
   ·have e:k+(o::r).length=k+1+r.length:=by simp;omega
    simp only[e];rw[if_neg (by omega)];exact s2
   ·cases j with
    |zero=>
     simp at hj;subst hj;refine⟨p,by simpa using h1,hp,?_⟩;simp only[Nat.add_zero,if_true];rw[if_neg (by omega)];exact s1
    |succ j=>
     have e:k+(j+1)=k+1+j:=by omega
     simp only[e];rw[if_neg (hne j),if_neg (hne j),if_neg (hne j),if_neg (by omega)];exact s3 j o' (by simpa using hj)
   ·cases j with
    |zero=>
     simp only[Nat.add_zero,if_true]at hu;exact⟨(h2 b ob hu).1,s5 _ (h2 b ob hu).2⟩
    |succ j=>
     have e:k+(j+1)=k+1+j:=by omega
     simp only[e]at hu⊢;rw[if_neg (hne j)]at hu;exact s4 j b ob (by simpa using hj) hu
   ·cases j with
    |zero=>
     simp at hj;subst hj;simp only[Nat.add_zero,if_true]at hrd⊢;obtain⟨f,hf⟩:=h2r b hrd;exact⟨f,s5 _ hf⟩
    |succ j=>
     have e:k+(j+1)=k+1+j:=by omega
     simp only[e]at hrd⊢;rw[if_neg (hne j)]at hrd;exact s6 j o' b (by simpa using hj) hrd
  split at h
  ·rename_i p v hef;refine fin p v none (rdL W ops st o k wr) hef h.1 (fun b ob q=>by cases q) (fun q hq=>?_) (fun b hb=>?_) h.2
   ·unfold rdL;split
    ·exact List.mem_cons_of_mem _ hq
    ·exact hq
   ·unfold rdL;rw[hb];exact⟨false,List.mem_cons_self⟩
  ·rename_i p v b ob hef;refine fin p v (some (b,ob)) ((k,b,true)::wr) hef h.1 (fun b' ob' q=>by injection q with q;injection q with q1 q2;subst q1;exact⟨h.2.1,List.mem_cons_self⟩) (fun q hq=>List.mem_cons_of_mem _ hq) (fun b' hb'=>?_) h.2.2;unfold rdG at hb';unfold Xb9 at hef;split at hb'
   ·rename_i hg;rw[hg]at hef;simp only at hef;unfold rdO at hb';split at hb'
    ·rename_i t x ho;unfold Xdm at hef;simp only[ho]at hef;split at hef<;>simp at hef
    ·cases hb'
   ·cases hb'
  ·exact h.elim
theorem Vb{d:Option Nat}{v:EV}{u:Option (Nat×OB)}(t:Nat):look (Zg st d v u).env t=if d=some t then some v else look st.env t:=by
 cases d with
 |none=>simp[Zg,Dw.setD]
 |some d=>
  simp only[Zg,Dw.setD,Yb];by_cases h:d=t<;>simp[h]
theorem GH{d:Option Nat}{v:EV}{u:Option (Nat×OB)}(b:Nat):look (Zg st d v u).H b=match u with|some (c,ob)=>if c=b then some ob else look st.H b|none=>look st.H b:=by
 have:(Zg st d v u).H=match u with|some (b,ob)=>put st.H b ob|none=>st.H:=by cases d<;>rfl
 rw[this];cases u with
 |none=>rfl
 |some q=>obtain⟨c,ob⟩:=q;simp only[Yb]
theorem Xvs{d:Option Nat}{v:EV}:(Zg st d v none).H=st.H:=by cases d<;>rfl
theorem Xvr{d:Option Nat}{v:EV}{b:Nat}{ob:OB}:(Zg st d v (some (b,ob))).H=put st.H b ob:=by cases d<;>rfl
theorem Xj1{W:List Nat}{d:Option Nat}{v:EV}{u:Option (Nat×OB)}(h:∀b ob,u=some (b,ob)→b∈W):G4 W (Zg st d v u).H=G4 W st.H:=by
 cases u with
 |none=>rw[Xvs]
 |some q=>obtain⟨c,ob⟩:=q;rw[Xvr];exact Xy6 (h c ob rfl) _ _
structure Xrm(ops:List Oper)(W:List Nat)(S:Nat→St)(U:Nat→Option (Nat×OB))(Dn:List Nat)(s:St):Prop where
 env:∀t,∃m,m≤ops.length∧(∀i o,ops[i]? =some o→o.dst=some t→(i∈Dn↔i<m))∧look s.env t=look (S m).env t
 obj:∀b,∃m,m≤ops.length∧(∀i ob,i<ops.length→U i=some (b,ob)→(i∈Dn↔i<m))∧look s.H b=look (S m).H b
 msk:G4 W s.H=G4 W (S 0).H
section
variable {W:List Nat} {ops:List Oper} {S:Nat→St} {V:Nat→EV} {U:Nat→Option (Nat×OB)} (hrun:Run ty spec W ops S V U)
include hrun
theorem Xln{t:Nat}:∀{x y:Nat},x≤y→y≤ops.length→(∀i o,x≤i→i<y→ops[i]? =some o→o.dst≠some t)→look (S y).env t=look (S x).env t:=by
 intro x y hxy
 induction hxy with
 |refl=>intro _ _;rfl
 | @step y hxy ih=>
  intro hy hno;have hlt:y<ops.length:=by omega
  obtain⟨p,_,_,hs⟩:=hrun.step y _ (List.getElem?_eq_getElem hlt);rw[hs,Vb,if_neg (hno y _ hxy (Nat.lt_succ_self _) (List.getElem?_eq_getElem hlt))];exact ih (by omega) fun i o h1 h2=>hno i o h1 (by omega)
theorem Xlm{b:Nat}:∀{x y:Nat},x≤y→y≤ops.length→(∀i ob,x≤i→i<y→U i≠some (b,ob))→look (S y).H b=look (S x).H b:=by
 intro x y hxy
 induction hxy with
 |refl=>intro _ _;rfl
 | @step y hxy ih=>
  intro hy hno;have hlt:y<ops.length:=by omega
  obtain⟨p,_,_,hs⟩:=hrun.step y _ (List.getElem?_eq_getElem hlt);rw[hs,GH];have:=ih (by omega) fun i ob h1 h2=>hno i ob h1 (by omega);split
  ·rename_i c ob hu;rw[if_neg (fun q=>by subst q;exact hno y ob hxy (Nat.lt_succ_self _) hu)];exact this
  ·exact this
theorem Ybd:∀{y:Nat},y≤ops.length→G4 W (S y).H=G4 W (S 0).H:=by
 intro y
 induction y with
 |zero=>intro _;rfl
 |succ y ih=>
  intro hy;obtain⟨p,_,_,hs⟩:=hrun.step y _ (List.getElem?_eq_getElem (show y<ops.length by omega));rw[hs,Xj1 fun b ob hu=>hrun.inW y b ob (by omega) hu];exact ih (by omega)
end
end
end
section
section
variable {P:Program} {base:Nat} {E M:Nat→Prop} {w0 w w':World} {β β':Vl} {st s s':St} {a:Act} {ty:TypeId→Option Ty} {spec:Spec} {n:Nat}
variable {W:List Nat} {ops:List Oper} {S:Nat→St} {V:Nat→EV} {U:Nat→Option (Nat×OB)}
theorem Xb1(h:Xww ops=true){i j:Nat}(hij:i<j){x y:Oper}(hx:ops[i]? =some x)(hy:ops[j]? =some y)(hc:Xqy ops x y=true):Xk1 ops i j=true:=by
 have hj:=(List.getElem?_eq_some_iff.1 hy).1;have:=(List.all_eq_true.1 ((List.all_eq_true.1 h) j (List.mem_range.2 hj))) i (List.mem_range.2 hij);rw[hx,hy]at this;simp only[hc,Bool.not_true,Bool.false_or]at this;exact this
theorem Xcc{wr:List (Nat×Nat×Bool)}(h:Xhl ops wr=true){i j b:Nat}{f g:Bool}(hij:i<j)(hi:(i,b,f)∈wr)(hj:(j,b,g)∈wr)(hfg:(f||g)=true):Xk1 ops i j=true:=by
 have:=(List.all_eq_true.1 ((List.all_eq_true.1 h) _ hj)) _ hi;have hlt:Nat.blt i j=true:=by rw[Nat.blt_eq];exact hij
 simp only[beq_self_eq_true,Bool.not_true,Bool.false_or,hlt,hfg]at this;exact this
theorem Ygg(he:Xu9 ops=true){i j:Nat}(h:Xk1 ops i j=true):i<j:=by
 unfold Xk1 at h;have hj:j<ops.length:=by
  unfold Sim.before at h;split at h
  ·rename_i l hl;rw[Sim.YH]at hl;have:=(List.getElem?_eq_some_iff.1 hl).1;have e:(Sim.X0 ops).bef.length=ops.length:=by simp[Sim.X0,Sim.Xzm]
   omega
  ·cases h
 have key:∀j,j<ops.length→∀i,Sim.before (Sim.X0 ops) i j=true→i<j:=by
  intro j
  induction j using Nat.strongRecOn with
  |_ j ih=>
   intro hj i hb;have ho:=List.getElem?_eq_getElem hj;obtain⟨e,he1,he2,he3⟩:=Sim.Xdp ho hb;have hok:Sim.VU ops[j].after.toList j=true:=by
    have:=(List.all_eq_true.1 he) j (List.mem_range.2 hj);rw[ho]at this;exact this
   have hlt:=Sim.Hj hok e he1 he2;rcases he3 with he3|he3
   ·omega
   ·have:=ih e.on hlt (by omega) i he3;omega
 exact key j hj i h
theorem Xr1(hrun:Run ty spec W ops S V U)(ht:Xww ops=true){_L D _r:List Nat}{j:Nat}{o:Oper}(ho:ops[j]? =some o)(hjD:j∉D)(hpre:∀i,i<ops.length→Xk1 ops i j=true→i∈D)(hpost:∀i∈D,Xk1 ops j i=false)
  (A:Xrm ops W S U D s) {t:Nat} (htt:t∈tmpsOf ops o):look s.env t=look (S j).env t:=by
 obtain⟨m,hm,hiff,heq⟩:=A.env t;have hjl:=(List.getElem?_eq_some_iff.1 ho).1;rw[heq];have hcl1:∀i x,ops[i]? =some x→x.dst=some t→i<j→i∈D:=by
  intro i x hx hd hij;refine hpre i (by omega) (Xb1 ht hij hx ho ?_);unfold Xqy;rw[hd];have:(tmpsOf ops o).contains t=true:=by simpa using htt
  simp;exact .inl (.inl htt)
 have hcl2:∀i x,ops[i]? =some x→x.dst=some t→j<i→i∉D:=by
  intro i x hx hd hij hin;have:=Xb1 ht hij ho hx (by
   unfold Xqy;rw[hd];cases o.dst<;>simp[htt])
  rw[hpost i hin]at this;cases this
 rcases Nat.le_total m j with h|h
 ·refine(Xln hrun h (by omega) fun i x h1 h2 hx hd=>?_).symm;have:=(hiff i x hx hd).1 (hcl1 i x hx hd h2);omega
 ·refine Xln hrun h hm fun i x h1 h2 hx hd=>?_;have hin:=(hiff i x hx hd).2 h2;rcases Nat.eq_or_lt_of_le h1 with h3|h3
  ·subst h3;exact hjD hin
  ·exact hcl2 i x hx hd h3 hin
theorem Xid(hrun:Run ty spec W ops S V U){wr:List (Nat×Nat×Bool)}(hwr:∀k b ob,k<ops.length→U k=some (b,ob)→(k,b,true)∈wr)(hcf:Xhl ops wr=true){D:List Nat}{j:Nat}(hjl:j<ops.length)(hjD:j∉D)
  (hpre:∀i,i<ops.length→Xk1 ops i j=true→i∈D) (hpost:∀i∈D,Xk1 ops j i=false) (A:Xrm ops W S U D s) {b:Nat} {f:Bool} (hu:(j,b,f)∈wr):look s.H b=look (S j).H b:=by
 obtain⟨m,hm,hiff,heq⟩:=A.obj b;rw[heq];have hcl1:∀i ob',i<ops.length→U i=some (b,ob')→i<j→i∈D:=fun i ob' hi hx hij=>hpre i hi (Xcc hcf hij (hwr i b ob' hi hx) hu rfl);have hcl2:∀i ob',i<ops.length→U i=some (b,ob')→j<i→i∉D:=by
  intro i ob' hi hx hij hin;have:=Xcc hcf hij hu (hwr i b ob' hi hx) (by simp);rw[hpost i hin]at this;cases this
 rcases Nat.le_total m j with h|h
 ·refine(Xlm hrun h (by omega) fun i ob' h1 h2 hx=>?_).symm;have:=(hiff i ob' (by omega) hx).1 (hcl1 i ob' (by omega) hx h2);omega
 ·refine Xlm hrun h hm fun i ob' h1 h2 hx=>?_;have hin:=(hiff i ob' (by omega) hx).2 h2;rcases Nat.eq_or_lt_of_le h1 with h3|h3
  ·subst h3;exact hjD hin
  ·exact hcl2 i ob' (by omega) hx h3 hin
theorem Xu6{o:Oper}(h:∀t,t∈tmpsOf ops o→look s.env t=look s'.env t):∀x,x∈o.op.operands→evO s x=evO s' x:=by
 intro x hx;cases x with
 |tmp t=>
  simp only[evO];refine h t (List.mem_append.2 (.inl (List.mem_filterMap.2 ⟨.tmp t,by simpa using hx,rfl⟩)))
 |_=>rfl
theorem Xme{o:Oper}(h:∀t,t∈tmpsOf ops o→look s.env t=look s'.env t):Kb s ops o=Kb s' ops o:=by
 unfold Kb;split
 ·rfl
 ·rename_i j want hg;split
  ·rename_i g hj;split
   ·rename_i t ht;rw[h t (List.mem_append.2 (.inr (by rw[hg];simp only[hj,ht];simp)))]
   ·rfl
  ·rfl
theorem Xqr(hrun:Run ty spec W ops S V U)(ht:Xww ops=true){wr:List (Nat×Nat×Bool)}(hwr:∀k b ob,k<ops.length→U k=some (b,ob)→(k,b,true)∈wr)
  (hrd:∀k o b,ops[k]? =some o→rdG W ops (S k) o=some b→∃f,(k,b,f)∈wr) (hcf:Xhl ops wr=true)
  {D:List Nat} {j:Nat} {o:Oper} (ho:ops[j]? =some o) (hjD:j∉D) (hpre:∀i,i<ops.length→Xk1 ops i j=true→i∈D) (hpost:∀i∈D,Xk1 ops j i=false) (A:Xrm ops W S U D s):
  (∃p,Xb9 ty spec W ops s o=some (p,V j,U j)∧p)∧Xrm ops W S U (D++[j]) (Zg s o.dst (V j) (U j)):=by
 have hjl:=(List.getElem?_eq_some_iff.1 ho).1;obtain⟨p,he,hp,hS⟩:=hrun.step j o ho;have htm:∀t,t∈tmpsOf ops o→look s.env t=look (S j).env t:=fun t htt=>Xr1 (_L:=[]) (_r:=[]) hrun ht ho hjD hpre hpost A htt;have hmask:G4 W s.H=G4 W (S j).H:=by rw[A.msk];exact(Ybd hrun (Nat.le_of_lt hjl)).symm
 refine⟨⟨p,?_,hp⟩,?_⟩
 ·unfold Xb9 at he⊢;rw[Xme htm];split at he
  ·rename_i hg
   try simp only[hg]
   refine Ycx he (Xu6 htm) hmask (fun b ob hu=>Xid hrun hwr hcf hjl hjD hpre hpost A (hwr j b ob hjl hu)) fun b hb=>?_;obtain⟨f,hf⟩:=hrd j o b ho (by unfold rdG;rw[hg];exact hb);exact Xid hrun hwr hcf hjl hjD hpre hpost A hf
  ·rename_i hg;try simp only[hg]
   exact he
  ·cases he
 ·refine⟨fun t=>?_,fun b=>?_,?_⟩
  ·by_cases hd:o.dst=some t
   ·refine⟨j+1,by omega,fun i x hx hdx=>?_,?_⟩
    ·rw[List.mem_append,List.mem_singleton];constructor
     ·rintro(h|h)
      ·rcases Nat.lt_or_ge i (j+1)with g|g
       ·exact g
       ·have:=Xb1 ht (show j<i by omega) ho hx (by unfold Xqy;rw[hd,hdx];simp);rw[hpost i h]at this;cases this
      ·omega
     ·intro h;rcases Nat.eq_or_lt_of_le (Nat.le_of_lt_succ h)with g|g
      ·exact .inr g
      ·exact .inl (hpre i (by omega) (Xb1 ht g hx ho (by unfold Xqy;rw[hd,hdx];simp)))
    ·rw[Vb,if_pos hd,hS,Vb,if_pos hd]
   ·obtain⟨m,hm,hiff,heq⟩:=A.env t;refine⟨m,hm,fun i x hx hdx=>?_,?_⟩
    ·rw[List.mem_append,List.mem_singleton,←hiff i x hx hdx];exact⟨fun h=>h.elim id fun h=>by subst h;rw[ho]at hx;injection hx with hx;subst hx;exact absurd hdx hd, .inl⟩
    ·rw[Vb,if_neg hd];exact heq
  ·by_cases hu:∃ob,U j=some (b,ob)
   ·obtain⟨ob,hu⟩:=hu;refine⟨j+1,by omega,fun i ob' hi hx=>?_,?_⟩
    ·rw[List.mem_append,List.mem_singleton];constructor
     ·rintro(h|h)
      ·rcases Nat.lt_or_ge i (j+1)with g|g
       ·exact g
       ·have:=Xcc hcf (show j<i by omega) (hwr j b ob hjl hu) (hwr i b ob' hi hx) rfl;rw[hpost i h]at this;cases this
      ·omega
     ·intro h;rcases Nat.eq_or_lt_of_le (Nat.le_of_lt_succ h)with g|g
      ·exact .inr g
      ·exact .inl (hpre i hi (Xcc hcf g (hwr i b ob' hi hx) (hwr j b ob hjl hu) rfl))
    ·rw[GH,hS,GH,hu];simp
   ·obtain⟨m,hm,hiff,heq⟩:=A.obj b;refine⟨m,hm,fun i ob' hi hx=>?_,?_⟩
    ·rw[List.mem_append,List.mem_singleton,←hiff i ob' hi hx];exact⟨fun h=>h.elim id fun h=>by subst h;exact absurd ⟨ob',hx⟩ hu, .inl⟩
    ·rw[GH];split
     ·rename_i c ob' hc;rw[if_neg (fun q=>by subst q;exact hu ⟨ob',hc⟩)];exact heq
     ·exact heq
  ·rw[Xj1 fun b ob hu=>hrun.inW j b ob hjl hu];exact A.msk
theorem Rel.same(R:Rel base E M w0 β s a.tmps w)(h1:∀t,look s'.env t=look s.env t)(h2:∀b,look s'.H b=look s.H b):∃β',Rel base E M w0 β' s' a.tmps w:=
 R.le_ ⟨fun t v h=>by rw[←h1];exact h,fun b ob h=>by rw[←h2];exact h,⟨fun t v b hv hr=>by rw[h2];rw[h1]at hv;exact R.cl.env t v b hv hr,fun k xs x b hk hx hr=>by rw[h2]at hk⊢;exact R.cl.obj k xs x b hk hx hr⟩⟩
theorem Xy4(C:Vk P ty)(Sp:XF P spec)(hrun:Run ty spec W ops S V U)(hd:Xjy n ops=true){wr:List (Nat×Nat×Bool)}(hwr:∀k b ob,k<ops.length→U k=some (b,ob)→(k,b,true)∈wr)
  (hrd:∀k o b,ops[k]? =some o→rdG W ops (S k) o=some b→∃f,(k,b,f)∈wr) (hcf:Xhl ops wr=true)
  {Q':Exit→Act→World→Prop} {df:List Deferred} (hQ:∀a' w' β',a'.defers=df→a'.tmps.size=n→Rel base E M w0 β' (S ops.length) a'.tmps w'→Q' .normal a' w') {L:List Nat}
  (hnd:L.Nodup) (hmem:∀i,i∈L↔i<ops.length) (hpw:L.Pairwise fun a b=>Xk1 ops b a=false):
  ∀(r D:List Nat) (s:St) (a:Act) (w:World) (β:Vl),L=D++r→a.defers=df→a.tmps.size=n→Rel base E M w0 β s a.tmps w→Xrm ops W S U D s→wpOps P ops.toArray Q' r a w:=by
 simp only[Xjy,Bool.and_eq_true]at hd;obtain⟨hdo,htm,hed⟩:=hd;intro r
 induction r with
 |nil=>
  intro D s a w β hL hdf hn R A;rw[List.append_nil]at hL;subst hL;have h1:∀t,look (S ops.length).env t=look s.env t:=fun t=>by
   obtain⟨m,hm,hiff,heq⟩:=A.env t;rw[heq];refine Xln hrun hm (Nat.le_refl _) fun i o g1 g2 ho hdst=>?_;have:=(hiff i o ho hdst).1 ((hmem i).2 g2);omega
  have h2:∀b,look (S ops.length).H b=look s.H b:=fun b=>by
   obtain⟨m,hm,hiff,heq⟩:=A.obj b;rw[heq];refine Xlm hrun hm (Nat.le_refl _) fun i ob g1 g2 hu=>?_;have:=(hiff i ob g2 hu).1 ((hmem i).2 g2);omega
  obtain⟨β',R'⟩:=R.same h1 h2;exact hQ a w β' hdf hn R'
 |cons j r ih=>
  intro D s a w β hL hdf hn R A;have hjl:j<ops.length:=(hmem j).1 (by rw[hL];simp);have ho:=List.getElem?_eq_getElem hjl;have hnd':(D++j::r).Nodup:=hL▸hnd;have hpw':(D++j::r).Pairwise fun a b=>Xk1 ops b a=false:=hL▸hpw;have hjD:j∉D:=fun h=>(List.nodup_append.1 hnd').2.2 j h j List.mem_cons_self rfl;have hpre:∀i,i<ops.length→Xk1 ops i j=true→i∈D:=by
   intro i hi hb;have hiL:i∈D++j::r:=hL▸(hmem i).2 hi;rcases List.mem_append.1 hiL with h|h
   ·exact h
   ·exfalso;rcases List.mem_cons.1 h with h|h
    ·subst h;have:=Ygg hed hb;omega
    ·have:=(List.pairwise_append.1 hpw').2.1;rw[List.pairwise_cons]at this;rw[this.1 i h]at hb;cases hb
  have hpost:∀i∈D,Xk1 ops j i=false:=fun i hi=>(List.pairwise_append.1 hpw').2.2 i hi j List.mem_cons_self;obtain⟨⟨p,he,hp⟩,A'⟩:=Xqr hrun htm hwr hrd hcf ho hjD hpre hpost A;have hdst:∀t,ops[j].dst=some t→t<a.tmps.size:=by rw[hn];exact Xdn hdo (List.mem_of_getElem? ho)
  rw[wpOps_cons];unfold wpOp;have ho':ops.toArray[j]? =some ops[j]:=by simp
  rw[ho'];simp only;have hL':L=(D++[j])++r:=by rw[hL];simp
  unfold Xb9 at he;split at he
  ·rename_i hg;have hw:=Gj R hg;rw[if_pos hw];refine .inl (Xl9 C Sp (Xy1 he hp) R hdst fun st' a' w' β' h1 h2 h3 h4=>?_);subst h1;exact ih (D++[j]) _ a' w' β' hL' (by rw[h2,hdf]) (by rw[h3,hn]) h4 A'
  ·rename_i hg;have hw:=Gj R hg;rw[if_neg (by rw[hw];simp)];simp only[Option.some.injEq,Prod.mk.injEq]at he;obtain⟨_,hv,hu⟩:=he;rw[←hv,←hu]at A';have R':Rel base E M w0 β (Zg s ops[j].dst (.tup []) none) (a.put ops[j].dst undef).tmps w:=R.setD (v:= .tup []) hdst (.tup (us:=#[]) rfl fun i x u h=>by simp at h) fun b hb=>by cases hb with|tup h1 h2=>simp at h1
   exact ih (D++[j]) _ _ w β hL' (by rw[put_defers,hdf]) (by rw[VK,hn]) R' A'
  ·cases he
theorem Wp.drawn{Q:Xh4}(C:Vk P ty)(Sp:XF P spec)(hm:P.follows .mixedOrders=true)(W:List Nat){id:Nat}{opa:Array Oper}{s:St}(hd:Xjy n opa.toList=true)
  (h:Jz ty spec W opa.toList opa.toList 0 [] (fun wr st=>Xhl opa.toList wr=true∧Q .normal st) s):Wp P n (.region id opa true) Q s:=by
 intro base E M w0 w β a hdf hn R;obtain⟨S,V,U,wr,s1,s2,s3,s4, -,s6⟩:=Xr4 _ _ _ _ h;simp only[Nat.zero_add]at s2 s3 s4 s6;have hrun:Run ty spec W opa.toList S V U:=⟨s3,fun k b ob hk hu=>(s4 k b ob hk hu).1⟩;refine wp_region_draw fun t=>?_;rw[hm];have hed:Xu9 opa.toList=true:=by simp only[Xjy,Bool.and_eq_true]at hd;exact hd.2.2
 obtain⟨q1,q2,q3⟩:=Sim.Xcl (ops:=opa) (fun j o ho=>by
  have hj:j<opa.toList.length:=by simpa using (Array.getElem?_eq_some_iff.1 ho).1
  have:=(List.all_eq_true.1 hed) j (List.mem_range.2 hj);have e:opa.toList[j]? =some o:=by simpa using ho
  rw[e]at this;exact this) t
 have R':Rel base E M w0 β s a.tmps {w with drawn:=w.drawn+1}:=⟨⟨R.fr.os,R.fr.tape,R.fr.output,R.fr.size,R.fr.block⟩,R.le,fun t v hv=>by
   obtain⟨u,h1,h2⟩:=R.env t v hv;exact⟨u,h1,h2.mono (fun _ h=>h) (fun _ _=>rfl) fun _ _=>rfl⟩,fun b ob hb=>by
   obtain⟨u,h1,h2⟩:=R.obj b ob hb;exact⟨u,h1,h2.mono (fun _ h=>h) (fun _ _=>rfl) (fun _ _=>rfl) fun _ _ _ _ _ _=>rfl⟩,R.at_,R.inj,R.dom,R.cl,R.may⟩
 have A:Xrm opa.toList W S U [] s:=by
  subst s1;exact⟨fun t=>⟨0,Nat.zero_le _,fun i o _ _=>by simp,rfl⟩,fun b=>⟨0,Nat.zero_le _,fun i ob _ _=>by simp,rfl⟩,rfl⟩
 have:=Xy4 (base:=base) (E:=E) (M:=M) (w0:=w0) (n:=n) (df:=[]) (Q':=Xfx n base E M w0 Q) C Sp hrun hd (fun k b ob hk hu=>(s4 k b ob hk hu).2) s6 s2.1
  (fun a' w' β' h1 h2 h3=>⟨_,β',s2.2,h1,h2,h3⟩) q1 (fun i=>by rw[q2 i];simp) q3 _ [] s a _ β rfl hdf hn R' A
 have e:opa.toList.toArray=opa:=by simp
 rw[e]at this;exact this
theorem Wp.dk{Q:Xh4}(C:Vk P ty)(Sp:XF P spec)(hm:P.follows .mixedOrders=true)(W:List Nat){id:Nat}{opa:Array Oper}{y:Code}(hd:Xjy n opa.toList=true)
  (h:∀K:St→Prop,(∀st,Wp P n y Q st→K st)→Jz ty spec W opa.toList opa.toList 0 [] (fun wr st=>Xhl opa.toList wr=true∧K st) s):Wp P n (.seq (.region id opa true) y) Q s:=
 Wp.seq (Wp.drawn C Sp hm W hd (h _ fun _ h=>h))
theorem Wp.dl{Q:Xh4}(C:Vk P ty)(Sp:XF P spec)(hm:P.follows .mixedOrders=true)(W:List Nat){id:Nat}{opa:Array Oper}(hd:Xjy n opa.toList=true)
  (h:∀K:St→Prop,(∀st,Q .normal st→K st)→Jz ty spec W opa.toList opa.toList 0 [] (fun wr st=>Xhl opa.toList wr=true∧K st) s):Wp P n (.region id opa true) Q s:=
 Wp.drawn C Sp hm W hd (h _ fun _ h=>h)
end
end
section
def VT(x:Cx):List Nat:=match x with| .own b| .map b| .ptr b _=>[b]|_=>[]
def Gu:EV→Option (List Nat)
 | .one x=>some (VT x)
 | .agg xs=>some (xs.flatMap VT)
 | .ep _ _ _ _=>some []
 | .rp b _ _ _=>some [b]
 | .any=>some []
 | .tup _=>none
def Gt:EV→Option (List Nat)
 | .tup l=>l.foldr (fun v r=>match Gu v,r with|some a,some b=>some (a++b)|_,_=>none) (some [])
 |v=>Gu v
theorem Xgg{x:Cx}{b:Nat}(h:refs x=some b):b∈VT x:=by cases x<;>simp_all[refs,VT]
theorem Xb3{v:EV}{l:List Nat}(h:Gu v=some l){b:Nat}(hb:X1 v b):b∈l:=by
 cases v with
 |one x=>injection h with h;subst h;cases hb with|one hb=>exact Xgg hb
 |agg xs=>injection h with h;subst h;cases hb with|agg hm hb=>exact List.mem_flatMap.2 ⟨_,hm,Xgg hb⟩
 |tup l=>cases h
 |ep=>cases hb
 |rp c e i o=>injection h with h;subst h;cases hb;simp
 |any=>cases hb
theorem Xxi{v:EV}{l:List Nat}(h:Gt v=some l){b:Nat}(hb:X1 v b):b∈l:=by
 cases v with
 |tup vs=>
  simp only[Gt]at h;cases hb with| @tup _ x _ hm hb=>
  induction vs generalizing l with
  |nil=>cases hm
  |cons v vs ih=>
   simp only[List.foldr_cons]at h;split at h
   ·rename_i a c ha hc;injection h with h;subst h;rcases List.mem_cons.1 hm with hm|hm
    ·subst hm;exact List.mem_append_left _ (Xb3 ha hb)
    ·exact List.mem_append_right _ (ih hc hm)
   ·cases h
 |one x=>exact Xb3 (v:= .one x) h hb
 |agg xs=>exact Xb3 (v:= .agg xs) h hb
 |ep=>cases hb
 |rp c e i o=>exact Xb3 (v:= .rp c e i o) h hb
 |any=>cases hb
theorem GG{α:Type}{l:List (Nat×α)}{t:Nat}{v:α}(h:look l t=some v):(t,v)∈l:=by
 induction l with
 |nil=>cases h
 |cons p r ih=>
  obtain⟨k,x⟩:=p;simp only[look]at h;split at h
  ·rename_i hk;injection h with h;subst hk;subst h;exact List.mem_cons_self
  ·exact List.mem_cons_of_mem _ (ih h)
def inH(H:List (Nat×OB))(l:Option (List Nat)):Prop:=match l with|some l=>∀b∈l,(look H b).isSome=true|none=>False
def Kt:OB→List Nat
 | .box xs=>xs.flatMap VT
 |_=>[]
theorem Gh.of{s s':St}(h1:∀p∈s'.env,look s.env p.1=some p.2)(h2:∀p∈s'.H,look s.H p.1=some p.2)(h3:∀p∈s'.env,inH s'.H (Gt p.2))(h4:∀p∈s'.H,inH s'.H (some (Kt p.2))):Gh s s':=by
 refine .le ⟨fun t v h=>h1 (t,v) (GG h),fun b ob h=>h2 (b,ob) (GG h),⟨fun t v b h hr=>?_,fun k xs x b h hx hr=>?_⟩⟩
 ·have:=h3 (t,v) (GG h);unfold inH at this;split at this
  ·rename_i l hl;have:=this b (Xxi hl hr);intro q;rw[q]at this;cases this
  ·exact this.elim
 ·have:=h4 (k, .box xs) (GG h) b (by exact List.mem_flatMap.2 ⟨x,hx,Xgg hr⟩);intro q;rw[q]at this;cases this
def Xj(xs:List Int):List (List Cv):=xs.map fun x=>[.sc (.int .i64 x)]
theorem Xf(xs:List Int):(Xj xs).length=xs.length:=by simp[Xj]
theorem wrap_small{n:Int}(h1:0≤n)(h2:n≤4611686018427387904):IntKind.i64.wrap n=n:=by
 simp only[IntKind.wrap,IntKind.bits,IntKind.signed];simp;omega
theorem Kl(v:Cv)(b:Nat):X1 (.one (.c v)) b↔False:=⟨fun h=>no_refs h,False.elim⟩
theorem erefs_agg_c(xs:List Cv)(b:Nat):X1 (.agg (xs.map Cx.c)) b↔False:=⟨fun h=>by cases h with|agg hm hr=>exact HN hm hr,False.elim⟩
theorem XT(b:Nat):X1 (.agg []) b↔False:=⟨fun h=>(by cases h with|agg hm hr=>cases hm),False.elim⟩
theorem XJ(v:Cv)(xs:List Cx)(b:Nat):X1 (.agg (.c v::xs)) b↔X1 (.agg xs) b:=
 ⟨fun h=>by
  cases h with|agg hm hr=>
  rcases List.mem_cons.1 hm with hm|hm
  ·subst hm;cases hr
  ·exact .agg hm hr,fun h=>by cases h with|agg hm hr=>exact .agg (List.mem_cons_of_mem _ hm) hr⟩
theorem XQ(b:Nat):X1 (.tup []) b↔False:=⟨fun h=>(by cases h with|tup hm hr=>cases hm),False.elim⟩
theorem XI(v:EV)(l:List EV)(b:Nat):X1 (.tup (v::l)) b↔X1 v b∨X1 (.tup l) b:=
 ⟨fun h=>by
  cases h with|tup hm hr=>
  rcases List.mem_cons.1 hm with hm|hm
  ·subst hm;exact .inl hr
  ·exact .inr (.tup hm hr),fun h=>by
   rcases h with h|h
   ·exact .tup List.mem_cons_self h
   ·cases h with|tup hm hr=>exact .tup (List.mem_cons_of_mem _ hm) hr⟩
theorem Xg{xs:List Int}{i:Nat}(h:i<(Xj xs).length):(Xj xs)[i]'h=[.sc (.int .i64 (xs[i]'(by simpa[Xj]using h)))]:=by simp[Xj]
section
variable {P:Program} {n:Nat} {Q:Xh4} {s:St}
theorem Wp.condT{c:Operand}{x y:Code}(hc:evO s c=some (bv true))(h:Wp P n x Q s):Wp P n (.cond c x y) Q s:=Wp.cond hc (fun _=>h) (fun h=>by cases h)
theorem Wp.condF{c:Operand}{x y:Code}(hc:evO s c=some (bv false))(h:Wp P n y Q s):Wp P n (.cond c x y) Q s:=Wp.cond hc (fun h=>by cases h) (fun _=>h)
end
section
variable {ty:TypeId→Option Ty} {t:TypeId} {T:Ty}
def Yag(ty:TypeId→Option Ty)(d:TypeDesc):Option (List (Nat×Nat)):=match d with| .struct fs=>Xcs ty fs.toList|_=>none
def Yiy(ty:TypeId→Option Ty)(d:TypeDesc):Option (List (Nat×Nat)):=match d with| .struct fs=>Yee ty fs.toList|_=>none
theorem Yf1{l:List (Nat×Nat)}(hT:ty t=some T)(he:T.eq=true)(hl:Yiy ty T.desc=some l)(xs ys:List Cx):eqE ty t xs ys=Xd5 xs ys l:=by
 unfold eqE;unfold Yiy at hl;rw[hT];simp only[he,if_true];split at hl
 ·simp_all
 ·cases hl
def YS(T:Ty)(pl:Nat→Option (Nat×Nat))(ps:List (Nat×EV)):Option (Prop×EV):=match Vd pl (T.zero.map Cx.c) ps with|some (p,xs)=>some (p, .agg xs)|none=>none
theorem Gl{pl:List (Nat×Nat)}(hT:ty t=some T)(hl:Yag ty T.desc=some pl)(ps:List (Nat×EV)):VE ty t ps=YS T (fun i=>pl[i]?) ps:=by
 unfold VE YS;unfold Yag at hl;rw[hT];split at hl
 ·rename_i fs hd;simp only[hd,hl];rfl
 ·cases hl
theorem Xfn{n el:Nat}{Te:Ty}(hT:ty t=some T)(hd:T.desc= .array n el)(he:ty el=some Te)(ps:List (Nat×EV)):VE ty t ps=YS T (fun i=>some (i*Te.size,Te.size)) ps:=by
 unfold VE YS;rw[hT];simp only[hd,he];rfl
end
section
variable {P:Program} {s:Spec}
def Xao:Spec:=fun _ _=>none
theorem Xb:XF P Xao:=fun f vs p r h=>by cases h
def Xn(n:Nat)(g:List EV→Option (Prop×YX))(s:Spec):Spec:=fun f vs=>if f=n then g vs else s f vs
theorem Xp{n:Nat}{g:List EV→Option (Prop×YX)}(hf:Ylv P n)(hg:∀vs p r,g vs=some (p,r)→p→Xq P n vs r)(hs:XF P s):XF P (Xn n g s):=by
 intro f vs p r h;unfold Xn at h;split at h
 ·rename_i e;subst e;exact⟨hf,hg vs p r h⟩
 ·exact hs f vs p r h
end
abbrev iV(k:IntKind)(n:Int):EV:= .one (.c (.sc (.int k n)))
abbrev bV(b:Bool):EV:= .one (.c (.sc (.bool b)))
abbrev sV(z:Bool)(n:Nat)(els:List (List Cv)):EV:= .one (.c (.sl z n els))
def unI:List (List Cv)→Option (List Int)
 |[]=>some []
 |[.sc (.int .i64 n)]::r=>(match unI r with|some l=>some (n::l)|none=>none)
 |_=>none
theorem Xa(xs:List Int):unI (Xj xs)=some xs:=by
 induction xs with
 |nil=>rfl
 |cons a r ih=>simp only[Xj,List.map_cons,unI]at*;rw[ih]
theorem YK{els:List (List Cv)}{xs:List Int}(h:unI els=some xs):els=Xj xs:=by
 induction els generalizing xs with
 |nil=>injection h with h;subst h;rfl
 |cons a r ih=>
  unfold unI at h;split at h
  ·rename_i e;cases e
  ·rename_i n r' e;injection e with e1 e2;subst e1;subst e2;split at h
   ·rename_i l hl;injection h with h;subst h;rw[ih hl];rfl
   ·cases h
  ·cases h
end
section
section
variable {P:Program} {base:Nat} {E M:Nat→Prop} {w0 w w':World} {β β':Vl} {st:St} {tm:Array Value} {n:Nat} {Q:Xh4}
def fzV(b:Nat)(cs:List Cv):EV→EV
 | .one (.ptr c off)=>if c=b then(if 0<cs.length then .ep cs.length [cs] 0 off else .any)else .one (.ptr c off)
 |v=>v
def Yci(b:Nat)(cs:List Cv)(st:St):St:={env:=Xbw (fzV b cs) st.env,H:=del b st.H}
def Yij(b:Nat):EV→Bool
 | .one (.ptr _ _)=>true
 | .one x=>YZ b x
 | .agg xs=>xs.all (YZ b)
 | .tup l=>l.all (KP b)
 | .ep _ _ _ _=>true
 | .rp c _ _ _=>!(c==b)
 | .any=>true
def Ym0(b:Nat):OB→Bool
 | .box xs=>xs.all (YZ b)
 |_=>true
def Yii(b:Nat)(st:St):Bool:=st.env.all (fun p=>Yij b p.2)&&st.H.all (fun p=>p.1==b||Ym0 b p.2)
theorem Rel.frzBox(R:Rel base E M w0 β st tm w){b:Nat}{cs:List Cv}(hb:look st.H b=some (.box (cs.map Cx.c)))(hok:Yii b st=true):Rel base E M w0 (less β b) (Yci b cs st) tm w:=by
 obtain⟨u,hu,ho⟩:=R.obj b _ hb;obtain⟨g,arr,t,rfl,hg,ha⟩:=ho;simp only[Yii,Bool.and_eq_true]at hok;obtain⟨okE,okH⟩:=hok;have hN:∀g,X6 M w β g→X6 M w (less β b) g:=fun g hg=>⟨hg.1,fun c u' hc=>by
  unfold less at hc;split at hc
  ·cases hc
  ·exact hg.2 c u' hc⟩
 have hbl:X6 M w (less β b) g:=⟨⟨(Array.getElem?_eq_some_iff.1 hg).1,R.may g (R.at_ b _ g hu rfl).1⟩,fun c u' hc=>by
  unfold less at hc;split at hc
  ·cases hc
  ·rename_i hne;exact fun h=>hne (R.inj c b u' _ g hc hu h rfl)⟩
 have hlk:∀c,look (Yci b cs st).H c=if c=b then none else look st.H c:=fun c=>Xgw b st.H c
 have hle:∀c,c≠b→less β b c=β c:=fun c hc=>if_neg hc;have hep:∀off,0<cs.length→X9 w (X6 M w (less β b)) (less β b) (.ep cs.length [cs] 0 off) (.pointer (some ⟨g,off,none⟩)):=by
  intro off hpos;have hs:XN w (X6 M w (less β b)) (.sl false cs.length [cs]) (.slice (some ⟨g,0,none⟩) 1 1):=by
   have hc1:∀(i j:Nat) (c:Cv),cellAt [cs] i j=some c→i=0∧cs[j]? =some c:=by
    intro i j c h;unfold cellAt at h;cases i with
    |zero=>exact⟨rfl,by simpa using h⟩
    |succ i=>simp at h
   have hc2:∀(j:Nat) (c:Cv),cs[j]? =some c→∃x,arr[j]? =some x∧XN w (X6 M w β) c x:=by
    intro j c hj;obtain⟨x,hx,hr⟩:=ha.get (i:=j) (x:=Cx.c c) (by simp[hj]);exact⟨x,by simpa using hx,hr⟩
   refine .sl (fun _ j=>arr.getD j undef) rfl (Nat.le_refl _) (fun i es h=>?_) (fun i j c h=>?_) (fun i j c h=>?_)
   ·cases i with
    |zero=>simp at h;subst h;rfl
    |succ i=>simp at h
   ·obtain⟨rfl,hj⟩:=hc1 i j c h;obtain⟨x,hx,_⟩:=hc2 j c hj;refine⟨hbl,?_⟩;rw[Xwg,Xj4 hg];simp[hx,Array.getD_eq_getD_getElem?]
   ·obtain⟨rfl,hj⟩:=hc1 i j c h;obtain⟨x,hx,hr⟩:=hc2 j c hj;have:arr.getD j undef=x:=by simp[hx,Array.getD_eq_getD_getElem?]
    rw[this];exact hr.mono hN fun _ _=>rfl
  have:=X9.ep (w:=w) (N:=X6 M w (less β b)) (β:=less β b) (i:=0) (off:=off) hs (by simp);rw[Xwg]at this;simpa using this
 have hV:∀t v u,look st.env t=some v→X9 w (X6 M w β) β v u→X9 w (X6 M w (less β b)) (less β b) (fzV b cs v) u∧∀c,X1 (fzV b cs v) c→look (Yci b cs st).H c≠none:=by
  intro t v u hv hr;have hcl:Yij b v=true:=(List.all_eq_true.1 okE) (t,v) (GG hv);have stay:¬X1 v b→X9 w (X6 M w (less β b)) (less β b) v u∧∀c,X1 v c→look (Yci b cs st).H c≠none:=fun hn=>
   ⟨hr.mono hN (fun p _=>rfl) fun c hc=>hle c (fun q=>hn (q▸hc)),fun c hc=>by rw[hlk,if_neg (fun(q:c=b)=>hn (q▸hc))];exact R.cl.env t v c hv hc⟩
  have clean:∀v,KP b v=true→¬X1 v b:=by
   intro v hcl hrr;cases v with
   |one x=>cases hrr with|one h=>exact Kc hcl h
   |agg xs=>cases hrr with|agg hm h=>exact Kc ((List.all_eq_true.1 hcl) _ hm) h
   |_=>cases hcl
  unfold fzV;split
  ·rename_i c off;by_cases hcb:c=b
   ·subst hcb;rw[if_pos rfl];cases hr with|one hx=>
    obtain⟨g',h1,rfl⟩:=hx;rw[hu]at h1;injection h1 with h1;injection h1 with h1;injection h1 with h1;injection h1 with h1;subst h1;split
    ·rename_i hpos;exact⟨hep off hpos,fun c hc=>by cases hc⟩
    ·exact⟨.any,fun c hc=>by cases hc⟩
   ·rw[if_neg hcb];exact stay fun h=>by cases h with|one h=>injection h with h;exact hcb h
  ·rename_i hno;refine stay fun h=>?_;cases v with
   |one x=>
    cases h with|one h=>
    cases x with
    |ptr c off=>exact hno c off rfl
    |c v=>cases h
    |own c=>exact Kc (show YZ b (.own c)=true from hcl) h
    |map c=>exact Kc (show YZ b (.map c)=true from hcl) h
    |dead=>cases h
   |agg xs=>cases h with|agg hm h=>exact Kc ((List.all_eq_true.1 hcl) _ hm) h
   |tup l=>cases h with|tup hm h=>exact clean _ ((List.all_eq_true.1 hcl) _ hm) h
   |ep=>cases h
   |rp c esz i off=>cases h;simp[Yij]at hcl
   |any=>cases h
 have hE:∀t v,look (Yci b cs st).env t=some v→∃v0,look st.env t=some v0∧fzV b cs v0=v:=by
  intro t v hv;simp only[Yci,Gi,Option.map_eq_some_iff]at hv;exact hv
 refine⟨R.fr,R.le,fun t v hv=>?_,fun c o hc=>?_,fun c u' g hc hg=>?_,fun c d u1 u2 g h1 h2 g1 g2=>?_,fun c u' hc=>?_,⟨fun t v c hv hr=>?_,fun k xs x c hk hx hr=>?_⟩,R.may⟩
 ·obtain⟨v0,h1,rfl⟩:=hE t v hv;obtain⟨y,hy,hr⟩:=R.env t v0 h1;exact⟨y,hy,(hV t v0 y h1 hr).1⟩
 ·rw[hlk]at hc;split at hc
  ·cases hc
  ·rename_i hcb;obtain⟨y,hy,hr⟩:=R.obj c o hc;refine⟨y,by rw[hle c hcb];exact hy,hr.mono hN (fun p _=>rfl) (fun _ _=>rfl) fun xs x d hxs hx hd=>hle d fun q=>?_⟩;subst hxs;subst q;have:=(List.all_eq_true.1 okH) (c, .box xs) (GG hc);simp only[Bool.or_eq_true,beq_iff_eq]at this;rcases this with h|h
   ·exact hcb h
   ·exact Kc ((List.all_eq_true.1 h) _ hx) hd
 ·unfold less at hc;split at hc
  ·cases hc
  ·exact R.at_ c u' g hc hg
 ·unfold less at h1 h2;split at h1
  ·cases h1
  ·split at h2
   ·cases h2
   ·exact R.inj c d u1 u2 g h1 h2 g1 g2
 ·unfold less at hc;split at hc
  ·cases hc
  ·rename_i hcb;rw[hlk,if_neg hcb];exact R.dom c u' hc
 ·obtain⟨v0,h1,rfl⟩:=hE t v hv;obtain⟨y,hy,hr'⟩:=R.env t v0 h1;exact(hV t v0 y h1 hr').2 c hr
 ·rw[hlk]at hk;split at hk
  ·cases hk
  ·rename_i hkb;rw[hlk,if_neg ?_]
   ·exact R.cl.obj k xs x c hk hx hr
   ·rintro rfl;have:=(List.all_eq_true.1 okH) (k, .box xs) (GG hk);simp only[Bool.or_eq_true,beq_iff_eq]at this;rcases this with h|h
    ·exact hkb h
    ·exact Kc ((List.all_eq_true.1 h) _ hx) hr
theorem Wp.frzBox{c:Code}{s:St}{b:Nat}{cs:List Cv}(hb:look s.H b=some (.box (cs.map Cx.c)))(hok:Yii b s=true)(h:Wp P n c Q (Yci b cs s)):Wp P n c Q s:=by
 intro base E M w0 w β a hd hn R;exact h hd hn (R.frzBox hb hok)
end
end
end Go.Proofs.YtjhfcfpkgfpoiaaGreatDoor.Dw
end
