/- Values, boxes, rows and maps of a call as plain data, and rules for code over them. No condition. -/
import Derived.Laws.Strings
import Derived.Maps.AppendAt
import Derived.Test.YtjhfcfpkgfpoiaaGreatDoorDa
namespace Go.Proofs.YtjhfcfpkgfpoiaaGreatDoor.Dw
open Go Go.RowKit
set_option maxRecDepth 100000
section
section
variable {P:Program} {base:Nat} {E M:Nat→Prop} {w0 w:World} {β:Vl} {st:St} {a:Act} {N:Nat→Prop} {ty:TypeId→Option Ty} {tm:Array Value}
def Yhm:TypeDesc→Bool
 | .int _| .string| .bool=>true
 |_=>false
def Xsp(d:TypeDesc):Cv→Cv→Option Bool
 | .sc (.int k a), .sc (.int k' b)=>(match d with| .int _=>if k=k' then some (decide (a=b))else none|_=>none)
 | .sc (.string a), .sc (.string b)=>(match d with| .string=>some (a.data.toList==b.data.toList)|_=>none)
 | .sc (.bool a), .sc (.bool b)=>(match d with| .bool=>some (a==b)|_=>none)
 |_,_=>none
def Xbz(d:TypeDesc)(k:Cv):List (Cv×Cv)→Nat→Option (Option (Nat×Cv))
 |[],_=>some none
 |e::es,i=>match Xsp d k e.1 with
  |some true=>some (some (i,e.2))
  |some false=>Xbz d k es (i+1)
  |none=>none
theorem Xnf{d:TypeDesc}{x y:Cv}{b:Bool}(h:Xsp d x y=some b){u u':Value}(hx:XN w N x u)(hy:XN w N y u'):
  Instr.sameNow d u u'=some b∧(b=true→Instr.sameBits 10000 u' u=true):=by
 unfold Xsp at h;split at h
 ·cases hx;cases hy;split at h
  ·split at h
   ·rename_i hk;subst hk;injection h with h;subst h;refine⟨by simp only[Instr.sameNow,if_true,Option.some.injEq];rw[Bool.eq_iff_iff];simp,fun hb=>?_⟩;have:=of_decide_eq_true hb;subst this;simp[Instr.sameBits]
   ·cases h
  ·cases h
 ·cases hx;cases hy;split at h
  ·injection h with h;subst h;refine⟨by simp[Instr.sameNow,beq_toListBytes,ByteArray.toList_eq],fun hb=>?_⟩;have hb:=eq_of_beq hb;simp[Instr.sameBits,beq_toListBytes,ByteArray.toList_eq,hb]
  ·cases h
 ·cases hx;cases hy;split at h
  ·injection h with h;subst h;rename_i p q _;refine⟨by simp[Instr.sameNow],fun hb=>?_⟩;have:=eq_of_beq hb;subst this;simp[Instr.sameBits]
  ·cases h
 ·cases h
abbrev EntRel(w:World)(N:Nat→Prop)(p:Cv×Cv)(e:MapEntry):Prop:=XN w N p.1 e.key∧XN w N p.2 e.val
theorem Xn6{d:TypeDesc}{k:Cv}{kv:Value}(hk:XN w N k kv):∀{es:List (Cv×Cv)} {l:List MapEntry},Y5 (EntRel w N) es l→∀{i:Nat} {r:Option (Nat×Cv)},Xbz d k es i=some r→
  ∃r',Instr.findNow d kv l i=some r'∧(match r,r' with
   |none,none=>True
   |some (j,v),some (j',u)=>j=j'∧XN w N v u∧i≤j∧∃e,l[j - i]? =some e∧Instr.sameBits 10000 e.key kv=true
   |_,_=>False):=by
 intro es
 induction es with
 |nil=>
  intro l h i r hr;have:l=[]:=List.length_eq_zero_iff.1 h.1.symm;subst this;injection hr with hr;subst hr;exact⟨none,rfl,trivial⟩
 |cons e es ih=>
  intro l h i r hr;cases l with
  |nil=>have:=h.1;simp at this
  |cons m l=>
   obtain⟨h1,h2⟩:=h.2 0 e m rfl rfl;have ht:Y5 (EntRel w N) es l:=⟨by have:=h.1;simpa using this,fun j x y a b=>h.2 (j+1) x y (by simpa using a) (by simpa using b)⟩;unfold Xbz at hr;split at hr
   ·rename_i hs;injection hr with hr;subst hr;obtain⟨g1,g2⟩:=Xnf hs hk h1;exact⟨some (i,m.val),by simp[Instr.findNow,g1],rfl,h2,Nat.le_refl _,m,by simp,g2 rfl⟩
   ·rename_i hs;obtain⟨g1,g2⟩:=Xnf hs hk h1;obtain⟨r',k1,k2⟩:=ih ht hr;refine⟨r',by simp[Instr.findNow,g1,k1],?_⟩;split at k2
    ·trivial
    ·obtain⟨q1,q2,q3,e0,q4,q5⟩:=k2;refine⟨q1,q2,by omega,e0,?_,q5⟩;rename_i j _ _ _;have:j - i=(j - (i+1))+1:=by omega
     rw[this];simpa using q4
    ·exact k2.elim
   ·cases hr
theorem run_checkKey{kt:TypeId}{d:TypeDesc}(hu:P.underlying kt=some d)(hk:Yhm d=true)(em:Bool)(n:Nat)(v:Value)(w:World):(Instr.checkKey em (n+1) kt v).run P w= .ok () w:=by
 have hu':(underlying kt).run P w= .ok d w:=by simp[Go.underlying,hu]
 unfold Yhm at hk;split at hk
 ·simp only[Instr.checkKey,Sem.run_bind,hu',Result.andThen_ok];rfl
 ·simp only[Instr.checkKey,Sem.run_bind,hu',Result.andThen_ok];rfl
 ·simp only[Instr.checkKey,Sem.run_bind,hu',Result.andThen_ok];rfl
 ·cases hk
theorem run_findKey{kt:TypeId}{d:TypeDesc}(hu:P.underlying kt=some d){kv:Value}{l:List MapEntry}{r:Option (Nat×Value)}(h:Instr.findNow d kv l 0=some r)(w:World):(Instr.findKey kt kv l).run P w= .ok r w:=by
 have hu':(underlying kt).run P w= .ok d w:=by simp[Go.underlying,hu]
 simp only[Instr.findKey,Sem.run_bind,hu',Result.andThen_ok,h];rfl
def mapOf(ty:TypeId→Option Ty)(t:TypeId):Option (TypeDesc×Cv):=
 match ty t with
 |some T=>(match T.desc with
  | .map kt et=>(match ty kt,ty et with
   |some Tk,some Te=>(match Yhm Tk.desc,Te.agg,Te.zero with
    |true,false,[z]=>some (Tk.desc,z)
    |_,_,_=>none)
   |_,_=>none)
  |_=>none)
 |none=>none
theorem Xnv(C:Vk P ty){t:TypeId}{d:TypeDesc}{z:Cv}(h:mapOf ty t=some (d,z)):
  ∃kt et,P.underlying t=some (.map kt et)∧P.underlying kt=some d∧Yhm d=true∧∃zv,(∀w:World,(zeroValue et).run P w= .ok zv w)∧∀w N,XN w N z zv:=by
 unfold mapOf at h;split at h
 ·rename_i T hT;split at h
  ·rename_i kt et hd;split at h
   ·rename_i Tk Te hTk hTe;split at h
    ·rename_i hk ha hz;simp only[Option.some.injEq,Prod.mk.injEq]at h;obtain⟨rfl,rfl⟩:=h;obtain⟨info,zv,i1,i2,i3,i4,i5,i6,i7,i8⟩:=(C et Te hTe).info;have hone:=i8 ha;refine⟨kt,et,by rw[(C t T hT).und,hd],(C kt Tk hTk).und,hk,zv,fun w=>by simp[Go.zeroValue,Go.typeInfo,i1,i4],fun w N=>?_⟩;have:=i5 w N;rw[hz]at this;have hc:zv.cells.toList=[zv]:=by cases zv<;>first|rfl|(cases hone)
     rw[hc]at this;exact this.2 0 _ _ rfl rfl
    ·cases h
   ·cases h
  ·cases h
 ·cases h
def Yq(ty:TypeId→Option Ty)(st:St)(t:TypeId)(x i:EV)(ok:Bool):Option EV:=
 match mapOf ty t,x,i with
 |some (d,z), .one (.map b), .one (.c k)=>(match look st.H b with
  |some (.map es)=>(match Xbz d k es 0 with
   |some (some (_,v))=>some (if ok then .tup [.one (.c v),bv true]else .one (.c v))
   |some none=>some (if ok then .tup [.one (.c z),bv false]else .one (.c z))
   |none=>none)
  |_=>none)
 |_,_,_=>none
theorem Yaf{v:Cv}{u:Value}{b:Bool}(h:XN w N v u):X9 w N β (.tup [.one (.c v),bv b]) (.tuple #[u, .bool b]):=by
 refine .tup rfl fun i x y hx hy=>?_
 match i with
 |0=>simp at hx hy;subst hx;subst hy;exact .one h
 |1=>simp at hx hy;subst hx;subst hy;exact .one (.sc rfl)
 |i+2=>simp at hx
theorem Xja{v:Cv}{b:Bool}(c:Nat):¬X1 (.tup [.one (.c v),bv b]) c:=by
 intro h;cases h with
 |tup hm hr=>
  simp at hm;rcases hm with rfl|rfl<;>exact no_refs hr
theorem Xp9(C:Vk P ty)(R:Rel base E M w0 β st a.tmps w){t:TypeId}{x i v:EV}{ok:Bool}(h:Yq ty st t x i ok=some v){u u':Value}(hx:X9 w (X6 M w β) β x u)(hi:X9 w (X6 M w β) β i u'):
  ∃r,(Instr.lookup t u u' ok).run P w= .ok r w∧X9 w (X6 M w β) β v r∧∀b,¬X1 v b:=by
 unfold Yq at h;split at h
 ·rename_i d z b k hm;obtain⟨kt,et,m1,m2,m3,zv,m4,m5⟩:=Xnv C hm;split at h
  ·rename_i es hb;cases hx with|one hx=>
   obtain⟨g,hβ,rfl⟩:=hx;obtain⟨u2,hu2,g2,arr,clock,rfl,hg,hl⟩:=R.obj b _ hb;rw[hβ]at hu2;injection hu2 with hu2;injection hu2 with hu2;injection hu2 with hu2;subst hu2;cases hi with|one hi=>
   have hun:(underlying t).run P w= .ok (.map kt et) w:=by simp[Go.underlying,m1]
   have hgo:(getObj g).run P w= .ok (.map arr clock) w:=by simp only[getObj,Sem.run,hg]
   have hck:=run_checkKey m2 m3 arr.isEmpty 9999 u' w;cases hf:Xbz d k es 0 with
   |none=>rw[hf]at h;cases h
   |some r=>
    rw[hf]at h;obtain⟨r',f1,f2⟩:=Xn6 (show XN w (X6 M w β) k u' from hi) hl hf;have hfk:=run_findKey m2 f1 w;cases r with
    |none=>
     cases r' with
     |some q=>exact f2.elim
     |none=>
      simp only[Option.some.injEq]at h;subst h;have hr:(Instr.lookup t (.map (some g)) u' ok).run P w= .ok (if ok then .tuple #[zv, .bool false]else zv) w:=by
       simp only[Instr.lookup,Sem.run_bind,hun,Result.andThen_ok,hgo,Sem.run_pure,hck,hfk,m4]
      refine⟨_,hr,?_⟩;cases ok
      ·exact⟨.one (m5 _ _),fun b hb=>no_refs hb⟩
      ·exact⟨Yaf (m5 _ _),fun b hb=>Xja b hb⟩
    |some q=>
     obtain⟨j,v'⟩:=q;cases r' with
     |none=>exact f2.elim
     |some q'=>
      obtain⟨j',u3⟩:=q';simp only[Option.some.injEq]at h;subst h;obtain⟨-,q2, -⟩:=f2;have hr:(Instr.lookup t (.map (some g)) u' ok).run P w= .ok (if ok then .tuple #[u3, .bool true]else u3) w:=by
       simp only[Instr.lookup,Sem.run_bind,hun,Result.andThen_ok,hgo,Sem.run_pure,hck,hfk]
      refine⟨_,hr,?_⟩;cases ok
      ·exact⟨.one q2,fun b hb=>no_refs hb⟩
      ·exact⟨Yaf q2,fun b hb=>Xja b hb⟩
  ·cases h
 ·cases h
end
end
section
section
variable {P:Program} {base:Nat} {E M:Nat→Prop} {w0 w:World} {β:Vl} {st:St} {a:Act} {N:Nat→Prop} {ty:TypeId→Option Ty}
def unE(op:UnOp)(x:EV):Option EV:=
 match op,x with
 | .not, .one (.c (.sc (.bool b)))=>some (bv (!b))
 | .neg, .one (.c (.sc (.int k n)))=>some (iv k (k.wrap (0 - n)))
 |_,_=>none
theorem Yev{op:UnOp}{x v:EV}(h:unE op x=some v){u:Value}(hx:X9 w N β x u):∃r,(Op.unary op u).run P w= .ok r w∧X9 w N β v r∧∀b,¬X1 v b:=by
 unfold unE at h;split at h
 ·injection h with h;subst h;rw[hx.bool];exact⟨_,by simp[Op.unary], .one (.sc rfl),fun b hb=>no_refs hb⟩
 ·injection h with h;subst h;rw[hx.int];exact⟨_,by simp[Op.unary,Op.intArith], .one (.sc rfl),fun b hb=>no_refs hb⟩
 ·cases h
def GM(ty:TypeId→Option Ty)(src dst:TypeId)(x:EV):Option EV:=
 match ty src,ty dst with
 |some _S,some D=>match D.desc,x with
  | .int k, .one (.c (.sc (.int _ n)))=>some (iv k (k.wrap n))
  |_,_=>none
 |_,_=>none
theorem Xza(C:Vk P ty){src dst:TypeId}{x v:EV}(h:GM ty src dst x=some v){u:Value}(hx:X9 w N β x u):∃r,(convert src dst u).run P w= .ok r w∧X9 w N β v r∧∀b,¬X1 v b:=by
 unfold GM at h;split at h
 ·rename_i S D hS hD;split at h
  ·rename_i k k' n hd;injection h with h;subst h;rw[hx.int];have h1:=(C _ _ hS).underlying w;have h2:=(C _ _ hD).underlying w;rw[hd]at h2;exact⟨_,by simp[convert,h1,h2,Conv.intToInt], .one (.sc rfl),fun b hb=>no_refs hb⟩
  ·cases h
 ·cases h
def KM(ty:TypeId→Option Ty)(st:St)(o:Oper):Option (Prop×EV):=
 match o.op with
 | .move x| .assign x=>(match evO st x with|some v=>some (True,v)|none=>none)
 | .binOp op t x y _=>(match evO st x,evO st y with|some v,some u=>Xhq ty op t v u|_,_=>none)
 | .unOp op _ x=>(match evO st x with|some v=>(match unE op v with|some r=>some (True,r)|none=>none)|none=>none)
 | .convert s d x=>(match evO st x with|some v=>(match GM ty s d v with|some r=>some (True,r)|none=>none)|none=>none)
 | .fieldAddr s x f=>(match evO st x with|some v=>(match X5 ty s v f with|some r=>some (True,r)|none=>none)|none=>none)
 | .field s x f=>(match evO st x with|some v=>Jj ty s v f|none=>none)
 | .indexAddr t x i=>(match evO st x,evO st i with|some v,some u=>XA ty st t v u|_,_=>none)
 | .index t x i=>(match evO st x,evO st i with|some v,some u=>Jf ty t v u|_,_=>none)
 | .load t x=>(match evO st x with|some v=>Je ty st t v|none=>none)
 | .extract x i=>(match evO st x with|some (.tup l)=>(match l[i]? with|some r=>some (True,r)|none=>none)|_=>none)
 | .build t ps=>(match JD st ps.toList with|some l=>VE ty t l|none=>none)
 | .slice t x lo hi none=>
  (match evO st x,(match lo with|none=>some none|some x=>(evO st x).map some),(match hi with|none=>some none|some x=>(evO st x).map some)with
   |some v,some l,some h=>Kq ty t v l h
   |_,_,_=>none)
 | .nilCheck x=>(match evO st x with|some (.one (.ptr b off))=>some (True, .one (.ptr b off))|some (.ep esz els i off)=>some (True, .ep esz els i off)|some (.rp b esz i off)=>some (True, .rp b esz i off)|_=>none)
 | .makeFunc f ⟨[]⟩ ⟨[]⟩=>some (True, .one (.c (.sc (.func f #[] #[]))))
 | .call {callee:= .builtin .len,args:=⟨[x]⟩,argTypes:=⟨[t]⟩}=>(match evO st x with|some v=>(match Hn ty st t v with|some r=>some (True,r)|none=>none)|none=>none)
 | .call {callee:= .builtin .min,args:=⟨[x,y]⟩, .. }=>(match evO st x,evO st y with|some (.one (.c (.sc (.int k m)))),some (.one (.c (.sc (.int _ n))))=>some (True,iv k (if n<m then n else m))|_,_=>none)
 | .call {callee:= .builtin .max,args:=⟨[x,y]⟩, .. }=>(match evO st x,evO st y with|some (.one (.c (.sc (.int k m)))),some (.one (.c (.sc (.int _ n))))=>some (True,iv k (if n>m then n else m))|_,_=>none)
 | .lookup t x i ok=>(match evO st x,evO st i with|some v,some u=>(match Yq ty st t v u ok with|some r=>some (True,r)|none=>none)|_,_=>none)
 | .call {callee:= .builtin .cap,args:=⟨[x]⟩,argTypes:=⟨[t]⟩}=>(match evO st x,elemOf ty t with|some (.one (.c (.sl true _ []))),some (none,_,_)=>some (True,iv .i64 0)|_,_=>none)
 |_=>none
theorem Xas(R:Rel base E M w0 β st a.tmps w){x:Option Operand}{v:Option EV}(h:(match x with|none=>some none|some x=>(evO st x).map some)=some v):OptE w (X6 M w β) β v (x.map a.eval):=by
 cases x with
 |none=>injection h with h;subst h;trivial
 |some x=>
  cases hv:evO st x with
  |none=>simp[hv]at h
  |some y=>
   simp[hv]at h;subst h;exact(evO_ok R hv).1
theorem Ybh(C:Vk P ty){o:Oper}{p:Prop}{v:EV}(h:KM ty st o=some (p,v))(hp:p):VOk P st o v:=by
 intro base E M w0 w β a R;unfold KM at h;split at h
 ·rename_i x ho;split at h
  ·rename_i v' hv;simp only[Option.some.injEq,Prod.mk.injEq]at h;obtain⟨rfl,rfl⟩:=h;obtain⟨h1,h2⟩:=evO_ok R hv;exact⟨_,by simp[execOp,ho],h1,h2⟩
  ·cases h
 ·rename_i x ho;split at h
  ·rename_i v' hv;simp only[Option.some.injEq,Prod.mk.injEq]at h;obtain⟨rfl,rfl⟩:=h;obtain⟨h1,h2⟩:=evO_ok R hv;exact⟨_,by simp[execOp,ho],h1,h2⟩
  ·cases h
 ·rename_i op t x y yt ho;split at h
  ·rename_i v1 v2 hv1 hv2;obtain⟨h1, -⟩:=evO_ok R hv1;obtain⟨h2, -⟩:=evO_ok R hv2;obtain⟨r,r1,r2,r3⟩:=Ydn C h hp h1 h2 x y;refine⟨r,?_,r2,fun b hb=>(r3 b hb).elim⟩;simp only[execOp,ho,Sem.run_bind]at r1⊢;rw[r1];rfl
  ·cases h
 ·rename_i op t x ho;split at h
  ·rename_i v1 hv1;split at h
   ·rename_i r' hr;simp only[Option.some.injEq,Prod.mk.injEq]at h;obtain⟨rfl,rfl⟩:=h;obtain⟨h1, -⟩:=evO_ok R hv1;obtain⟨r,r1,r2,r3⟩:=Yev (P:=P) hr h1;exact⟨r,by simp[execOp,ho,r1],r2,fun b hb=>(r3 b hb).elim⟩
   ·cases h
  ·cases h
 ·rename_i s d x ho;split at h
  ·rename_i v1 hv1;split at h
   ·rename_i r' hr;simp only[Option.some.injEq,Prod.mk.injEq]at h;obtain⟨rfl,rfl⟩:=h;obtain⟨h1, -⟩:=evO_ok R hv1;obtain⟨r,r1,r2,r3⟩:=Xza C hr h1;exact⟨r,by simp[execOp,ho,r1],r2,fun b hb=>(r3 b hb).elim⟩
   ·cases h
  ·cases h
 ·rename_i s x f ho;split at h
  ·rename_i v1 hv1;split at h
   ·rename_i r' hr;simp only[Option.some.injEq,Prod.mk.injEq]at h;obtain⟨rfl,rfl⟩:=h;obtain⟨h1,h2⟩:=evO_ok R hv1;obtain⟨r,r1,r2,r3⟩:=Xhg C hr h1;exact⟨r,by simp[execOp,ho,r1],r2,fun b hb=>h2 b (r3 b hb)⟩
   ·cases h
  ·cases h
 ·rename_i s x f ho;split at h
  ·rename_i v1 hv1;obtain⟨h1,h2⟩:=evO_ok R hv1;obtain⟨r,r1,r2,r3⟩:=Xu3 C h hp h1;exact⟨r,by simp[execOp,ho,r1],r2,fun b hb=>h2 b (r3 b hb)⟩
  ·cases h
 ·rename_i t x i ho;split at h
  ·rename_i v1 v2 hv1 hv2;obtain⟨h1,h1'⟩:=evO_ok R hv1;obtain⟨h2, -⟩:=evO_ok R hv2;obtain⟨r,r1,r2,r3⟩:=Xg3 C R h hp h1 h2;exact⟨r,by simp[execOp,ho,r1],r2,fun b hb=>h1' b (r3 b hb)⟩
  ·cases h
 ·rename_i t x i ho;split at h
  ·rename_i v1 v2 hv1 hv2;obtain⟨h1,h1'⟩:=evO_ok R hv1;obtain⟨h2, -⟩:=evO_ok R hv2;obtain⟨r,r1,r2,r3⟩:=Xub C h hp h1 h2;exact⟨r,by simp[execOp,ho,r1],r2,fun b hb=>h1' b (r3 b hb)⟩
  ·cases h
 ·rename_i t x ho;split at h
  ·rename_i v1 hv1;obtain⟨h1, -⟩:=evO_ok R hv1;obtain⟨r,r1,r2,r3⟩:=Xnx C R h hp h1;exact⟨r,by simp[execOp,ho,r1],r2,r3⟩
  ·cases h
 ·rename_i x i ho;split at h
  ·rename_i l hv1;split at h
   ·rename_i r' hr;simp only[Option.some.injEq,Prod.mk.injEq]at h;obtain⟨rfl,rfl⟩:=h;obtain⟨h1,h2⟩:=evO_ok R hv1;cases he:a.eval x with
    |tuple us=>
     rw[he]at h1;cases h1 with|tup hl hh=>
     have hi:i<us.size:=by rw[←hl];exact(List.getElem?_eq_some_iff.1 hr).1
     refine⟨us[i],?_,hh i r' us[i] hr (Array.getElem?_eq_getElem hi),fun b hb=>h2 b (.tup (List.mem_of_getElem? hr) hb)⟩;simp[execOp,ho,he,Instr.extract,hi]
    |_=>rw[he]at h1;cases h1
   ·cases h
  ·cases h
 ·rename_i t ps ho;split at h
  ·rename_i l hl;obtain⟨h1,h2⟩:=Xoh R hl;obtain⟨r,r1,r2,r3⟩:=Xvn C h hp (us:=ps.map fun(p:Nat×Operand)=>(p.1,a.eval p.2)) (by simpa using h1);refine⟨r,?_,r2,fun b hb=>by obtain⟨q,hq,hb'⟩:=r3 b hb;exact h2 q hq b hb'⟩;have:(ps.map fun x=>match x with|(i,x)=>(i,a.eval x))=ps.map fun(p:Nat×Operand)=>(p.1,a.eval p.2):=rfl;simp only[execOp,ho,Sem.run_bind,r1,Result.andThen_ok,Sem.run_pure]
  ·cases h
 ·rename_i t x lo hi ho;split at h
  ·rename_i v1 l h' hv1 hlo hhi;obtain⟨h1, -⟩:=evO_ok R hv1;obtain⟨r,r1,r2,r3⟩:=Xih C h hp h1 (Xas R hlo) (Xas R hhi);exact⟨r,by simp[execOp,ho,r1],r2,fun b hb=>(r3 b hb).elim⟩
  ·cases h
 ·rename_i x ho;split at h
  ·rename_i b off hv1;simp only[Option.some.injEq,Prod.mk.injEq]at h;obtain⟨rfl,rfl⟩:=h;obtain⟨h1,h2⟩:=evO_ok R hv1;cases hu:h1 with
   |one hx=>
   obtain⟨g,hg,hu'⟩:=hx;rw[hu']at h1;exact⟨.pointer (some ⟨g,off,none⟩),by simp[execOp,ho,hu'],h1,h2⟩
  ·rename_i esz els i off hv1;simp only[Option.some.injEq,Prod.mk.injEq]at h;obtain⟨rfl,rfl⟩:=h;obtain⟨h1,h2⟩:=evO_ok R hv1;generalize hw:a.eval x=u at h1;cases h1 with
   |ep hs hi=>exact⟨_,by simp[execOp,ho,hw], .ep hs hi,h2⟩
  ·rename_i b esz i off hv1;simp only[Option.some.injEq,Prod.mk.injEq]at h;obtain⟨rfl,rfl⟩:=h;obtain⟨h1,h2⟩:=evO_ok R hv1;generalize hw:a.eval x=u at h1;cases h1 with
   |rp hb=>exact⟨_,by simp[execOp,ho,hw], .rp hb,h2⟩
  ·cases h
 ·rename_i f ho;simp only[Option.some.injEq,Prod.mk.injEq]at h;obtain⟨rfl,rfl⟩:=h;exact⟨_,by simp[execOp,ho,Instr.makeFunc], .one (.sc rfl),fun b hb=>(no_refs hb).elim⟩
 ·rename_i x t ho;split at h
  ·rename_i v1 hv1;split at h
   ·rename_i r' hr;simp only[Option.some.injEq,Prod.mk.injEq]at h;obtain⟨rfl,rfl⟩:=h;obtain⟨h1, -⟩:=evO_ok R hv1;obtain⟨r,r1,r2,r3⟩:=Ybz C R hr h1 o.type;exact⟨r,by simp[execOp,ho,resolve,invoke,builtin,r1],r2,fun b hb=>(r3 b hb).elim⟩
   ·cases h
  ·cases h
 ·rename_i x y ts ho;split at h
  ·rename_i k m k' n hv1 hv2;simp only[Option.some.injEq,Prod.mk.injEq]at h;obtain⟨rfl,rfl⟩:=h;have h1:=(evO_ok R hv1).1.int;have h2:=(evO_ok R hv2).1.int;exact⟨_,by simp[execOp,ho,resolve,invoke,builtin,h1,h2,run_min_int2], .one (.sc rfl),fun b hb=>(no_refs hb).elim⟩
  ·cases h
 ·rename_i x y ts ho;split at h
  ·rename_i k m k' n hv1 hv2;simp only[Option.some.injEq,Prod.mk.injEq]at h;obtain⟨rfl,rfl⟩:=h;have h1:=(evO_ok R hv1).1.int;have h2:=(evO_ok R hv2).1.int;exact⟨_,by simp[execOp,ho,resolve,invoke,builtin,h1,h2,run_max_int2], .one (.sc rfl),fun b hb=>(no_refs hb).elim⟩
  ·cases h
 ·rename_i t x i ok ho;split at h
  ·rename_i v1 v2 hv1 hv2;split at h
   ·rename_i r' hr;simp only[Option.some.injEq,Prod.mk.injEq]at h;obtain⟨rfl,rfl⟩:=h;obtain⟨h1, -⟩:=evO_ok R hv1;obtain⟨h2, -⟩:=evO_ok R hv2;obtain⟨r,r1,r2,r3⟩:=Xp9 C R hr h1 h2;exact⟨r,by simp[execOp,ho,r1],r2,fun b hb=>(r3 b hb).elim⟩
   ·cases h
  ·cases h
 ·rename_i x t ho;split at h
  ·rename_i hv1 he;simp only[Option.some.injEq,Prod.mk.injEq]at h;obtain⟨rfl,rfl⟩:=h;obtain⟨h1, -⟩:=evO_ok R hv1;obtain⟨e1, -, -⟩:=YM C he w;generalize hw:a.eval x=u at h1;cases h1 with|one h1=>
   have h1':XN w _ (.sl true _ []) u:=h1;cases h1';exact⟨_,by simp[execOp,ho,resolve,invoke,builtin,hw,Builtin.cap_,e1];rfl, .one (.sc rfl),fun b hb=>(no_refs hb).elim⟩
  ·cases h
 ·cases h
end
end
section
section
variable {P:Program} {base:Nat} {E M:Nat→Prop} {w0 w w':World} {β β':Vl} {st:St} {a:Act} {N:Nat→Prop} {ty:TypeId→Option Ty} {tm:Array Value}
theorem Rel.putv(R:Rel base E M w0 β st tm w){d:Nat}{v:EV}{u:Value}(hd:d<tm.size)(hv:X9 w (X6 M w β) β v u)(hr:∀b,X1 v b→look st.H b≠none):
  Rel base E M w0 β {st with env:=put st.env d v} (tm.setIfInBounds d u) w:=by
 refine⟨R.fr,R.le,fun t x hx=>?_,R.obj,R.at_,R.inj,R.dom,⟨fun t x b hx hb=>?_,R.cl.obj⟩,R.may⟩
 ·rw[Yb]at hx;split at hx
  ·rename_i h;subst h;injection hx with hx;subst hx;exact⟨u,by simp[hd],hv⟩
  ·rename_i h;obtain⟨y,hy,hr⟩:=R.env t x hx;exact⟨y,by rw[Array.getElem?_setIfInBounds];simp[h,hy],hr⟩
 ·rw[Yb]at hx;split at hx
  ·injection hx with hx;subst hx;exact hr b hb
  ·exact R.cl.env t x b hx hb
def Xew(st:St)(b:Nat):Prop:=(∀t v,look st.env t=some v→¬X1 v b)∧∀k xs x,look st.H k=some (.box xs)→x∈xs→refs x≠some b
theorem Xew.of_none(R:Xwb st){b:Nat}(h:look st.H b=none):Xew st b:=
 ⟨fun t v hv hr=>R.env t v b hv hr h,fun k xs x hk hx hr=>R.obj k xs x b hk hx hr h⟩
theorem ORel.mono{ob:OB}{u:Value}{N':Nat→Prop}(h:ORel w N β ob u)(hN:∀g,N g→N' g)(hc:∀p:Addr,N p.block→w'.cell? p=w.cell? p)
  (hg:∀g,blk u=some g→w'.heap[g]? =w.heap[g]?) (hb:∀xs x b,ob= .box xs→x∈xs→refs x=some b→β' b=β b):ORel w' N' β' ob u:=by
 cases ob with
 |box xs=>
  obtain⟨g,arr,t,rfl,h1,h2⟩:=h;exact⟨g,arr,t,rfl,by rw[hg g rfl];exact h1,h2.1,fun i x y hx hy=>(h2.2 i x y hx hy).mono hN hc fun b hr=>hb xs x b rfl (List.mem_of_getElem? hx) hr⟩
 |row z t esz els=>
  obtain⟨cells,h1,h2,h3,h4⟩:=h;refine⟨cells,⟨h1.1,?_⟩,h2,h3,fun i j c hc'=>by
   obtain⟨x,hx,hr⟩:=h4 i j c hc';exact⟨x,hx,hr.mono hN hc⟩⟩
  rcases h1.2 with h|⟨g,cap,cur,rfl,h5,h6,h7⟩
  ·exact .inl h
  ·exact .inr ⟨g,cap,cur,rfl,h5,by rw[hg g rfl];exact h6,h7⟩
 |map es=>
  obtain⟨g,arr,clock,rfl,h1,h2⟩:=h;exact⟨g,arr,clock,rfl,by rw[hg g rfl];exact h1,h2.1,fun i x y hx hy=>⟨(h2.2 i x y hx hy).1.mono hN hc,(h2.2 i x y hx hy).2.mono hN hc⟩⟩
theorem YN{p:Addr}(h:w'.heap[p.block]? =w.heap[p.block]?):w'.cell? p=w.cell? p:=by simp[World.cell?,h]
theorem Rel.step(R:Rel base E M w0 β st tm w)(b:Nat)(ob:OB)(u:Value)
  (hfr:Fr base E w0 w') (hsz:w.heap.size≤w'.heap.size)
  (hfree:∀g,X6 M w β g→blk u≠some g∧w'.heap[g]? =w.heap[g]?)
  (hβ:β' b=some u) (hβ':∀c,c≠b→β' c=β c)
  (hoth:∀c u' g,c≠b→β c=some u'→blk u'=some g→w'.heap[g]? =w.heap[g]?∧blk u≠some g)
  (hat:∀g,blk u=some g→(base≤g∨E g)∧g<w'.heap.size)
  (href:β b=some u∨Xew st b)
  (hobj:ORel w' (X6 M w' β') β' ob u)
  (hcl:∀xs x c,ob= .box xs→x∈xs→refs x=some c→c=b∨look st.H c≠none):
  Rel base E M w0 β' {st with H:=put st.H b ob} tm w':=by
 have hN:∀g,X6 M w β g→X6 M w' β' g:=by
  intro g hg;refine⟨⟨Nat.lt_of_lt_of_le hg.1.1 hsz,hg.1.2⟩,fun c u' hc=>?_⟩;by_cases h:c=b
  ·subst h;rw[hβ]at hc;injection hc with hc;subst hc;exact(hfree g hg).1
  ·rw[hβ' c h]at hc;exact hg.2 c u' hc
 have hc:∀p:Addr,X6 M w β p.block→w'.cell? p=w.cell? p:=fun p hp=>YN (hfree _ hp).2;have hbb:∀c,(c=b→β b=some u∨False)→β' c=β c:=by
  intro c h;by_cases hcb:c=b
  ·subst hcb;rcases h rfl with h|h
   ·rw[hβ,h]
   ·exact h.elim
  ·exact hβ' c hcb
 refine⟨hfr,Nat.le_trans R.le hsz,fun t v hv=>?_,fun c oc hc'=>?_,fun c u' g hc' hg=>?_,fun c d u1 u2 g h1 h2 g1 g2=>?_,fun c u' hc'=>?_,⟨fun t v c hv hr=>?_,fun k xs x c hk hx hr=>?_⟩,R.may⟩
 ·obtain⟨y,hy,hr⟩:=R.env t v hv;refine⟨y,hy,hr.mono hN hc fun c hrc=>hbb c fun hcb=>?_⟩;rcases href with h|h
  ·exact .inl h
  ·subst hcb;exact absurd hrc (h.1 t v hv)
 ·rw[Yb]at hc';split at hc'
  ·rename_i h;subst h;injection hc' with hc';subst hc';exact⟨u,hβ,hobj⟩
  ·rename_i h;obtain⟨y,hy,hr⟩:=R.obj c oc hc';refine⟨y,by rw[hβ' c (Ne.symm h)];exact hy,hr.mono hN hc (fun g hg=>(hoth c y g (Ne.symm h) hy hg).1) fun xs x d hxs hx hrd=>hbb d fun hdb=>?_⟩;rcases href with h'|h'
   ·exact .inl h'
   ·subst hdb;subst hxs;exact absurd hrd (h'.2 c xs x hc' hx)
 ·by_cases h:c=b
  ·subst h;rw[hβ]at hc';injection hc' with hc';subst hc';exact hat g hg
  ·rw[hβ' c h]at hc';obtain⟨h1,h2⟩:=R.at_ c u' g hc' hg;exact⟨h1,Nat.lt_of_lt_of_le h2 hsz⟩
 ·by_cases hcb:c=b
  ·by_cases hdb:d=b
   ·rw[hcb,hdb]
   ·subst hcb;rw[hβ]at h1;injection h1 with h1;subst h1;rw[hβ' d hdb]at h2;exact absurd g1 (hoth d u2 g hdb h2 g2).2
  ·by_cases hdb:d=b
   ·subst hdb;rw[hβ]at h2;injection h2 with h2;subst h2;rw[hβ' c hcb]at h1;exact absurd g2 (hoth c u1 g hcb h1 g1).2
   ·rw[hβ' c hcb]at h1;rw[hβ' d hdb]at h2;exact R.inj c d u1 u2 g h1 h2 g1 g2
 ·rw[Yb];split
  ·simp
  ·rename_i h;rw[hβ' c (Ne.symm h)]at hc';exact R.dom c u' hc'
 ·rw[Yb];split
  ·simp
  ·exact R.cl.env t v c hv hr
 ·rw[Yb];rw[Yb]at hk;split
  ·simp
  ·rename_i h;split at hk
   ·injection hk with hk;rcases hcl xs x c hk hx hr with h'|h'
    ·exact absurd h'.symm h
    ·exact h'
   ·exact R.cl.obj k xs x c hk hx hr
def upd(β:Vl)(b:Nat)(u:Value):Vl:=fun c=>if c=b then some u else β c
theorem Yj(β:Vl)(b:Nat)(u:Value):upd β b u b=some u:=if_pos rfl
theorem Kp(β:Vl){b c:Nat}(u:Value)(h:c≠b):upd β b u c=β c:=if_neg h
theorem Fr.alloc(h:Fr base E w0 w)(hb:base≤w.heap.size)(o:Obj):Fr base E w0 (w.alloc o):=
 h.trans ⟨rfl,rfl,rfl,by simp,fun k hk _=>Below.heap_alloc _ _ _ (by omega)⟩
theorem Rel.new(R:Rel base E M w0 β st tm w){b:Nat}(hb:look st.H b=none)(o:Obj)(ob:OB)(u:Value)(hu:blk u=some w.heap.size)
  (hobj:∀β',(∀c,c≠b→β' c=β c)→β' b=some u→(∀g,X6 M w β g→X6 M (w.alloc o) β' g)→ORel (w.alloc o) (X6 M (w.alloc o) β') β' ob u)
  (hcl:∀xs x c,ob= .box xs→x∈xs→refs x=some c→look st.H c≠none):
  Rel base E M w0 (upd β b u) {st with H:=put st.H b ob} tm (w.alloc o):=by
 have hN:∀g,X6 M w β g→X6 M (w.alloc o) (upd β b u) g:=by
  intro g hg;refine⟨⟨by have:=hg.1.1;simp;omega,hg.1.2⟩,fun c u' hc=>?_⟩;by_cases h:c=b
  ·subst h;rw[Yj]at hc;injection hc with hc;subst hc;rw[hu];intro q;injection q with q;have:=hg.1.1;omega
  ·rw[Kp _ _ h]at hc;exact hg.2 c u' hc
 refine R.step b ob u (R.fr.alloc R.le o) (by simp) (fun g hg=>⟨?_,Below.heap_alloc _ _ _ hg.1.1⟩) (Yj ..) (fun c hc=>Kp _ _ hc) (fun c u' g hc h1 h2=>?_) (fun g hg=>?_) (.inr (Xew.of_none R.cl hb)) ?_ ?_
 ·rw[hu];intro q;injection q with q;have:=hg.1.1;omega
 ·have hlt:=(R.at_ c u' g h1 h2).2;exact⟨Below.heap_alloc _ _ _ hlt,by rw[hu];intro q;injection q with q;omega⟩
 ·rw[hu]at hg;injection hg with hg;subst hg;exact⟨.inl R.le,by simp⟩
 ·exact hobj _ (fun c hc=>Kp _ _ hc) (Yj ..) hN
 ·exact fun xs x c h1 h2 h3=> .inr (hcl xs x c h1 h2 h3)
theorem Xzr(_R:Rel base E M w0 β st tm w){b:Nat}(hb:look st.H b=none){o:Obj}{β':Vl}{xs:List Cx}{us:List Value}(h:Y5 (Yz w (X6 M w β) β) xs us)(hr:∀x∈xs,∀c,refs x=some c→look st.H c≠none)
  (h1:∀c,c≠b→β' c=β c) (h2:∀g,X6 M w β g→X6 M (w.alloc o) β' g):Y5 (Yz (w.alloc o) (X6 M (w.alloc o) β') β') xs us:=
 ⟨h.1,fun i x y hx hy=>(h.2 i x y hx hy).mono h2 (fun p hp=>YN (Below.heap_alloc _ _ _ hp.1.1)) fun c hc=>h1 c fun q=>by subst q;exact hr x (List.mem_of_getElem? hx) _ hc hb⟩
def Xon(P:Program)(st:St)(o:Oper)(st':St)(v:EV):Prop:=
 ∀{base:Nat} {E M:Nat→Prop} {w0 w:World} {β:Vl} {a:Act},Rel base E M w0 β st a.tmps w→
  ∃u w' β',((execOp a.eval o).run P w= .ok (.value u) w'∨((execOp a.eval o).run P w= .ok .skip w'∧u=undef))∧Rel base E M w0 β' st' a.tmps w'∧X9 w' (X6 M w' β') β' v u∧∀b,X1 v b→look st'.H b≠none
def Xd6(st:St)(b:Nat)(xs:List Cx):Option (St×EV):=match look st.H b with|none=>some ({st with H:=put st.H b (.box xs)}, .one (.ptr b 0))|some _=>none
theorem Xvp{b:Nat}{xs:List Cx}{st':St}{v:EV}(h:Xd6 st b xs=some (st',v))(R:Rel base E M w0 β st tm w){arr:Array Value}(hx:Y5 (Yz w (X6 M w β) β) xs arr.toList)(hr:∀x∈xs,∀c,refs x=some c→look st.H c≠none)(t:TypeId):
  ∃β',Rel base E M w0 β' st' tm (w.alloc (.cells arr t))∧X9 (w.alloc (.cells arr t)) (X6 M (w.alloc (.cells arr t)) β') β' v (.pointer (some ⟨w.heap.size,0,none⟩))∧∀b,X1 v b→look st'.H b≠none:=by
 unfold Xd6 at h;split at h
 ·rename_i hb;simp only[Option.some.injEq,Prod.mk.injEq]at h;obtain⟨rfl,rfl⟩:=h;refine⟨upd β b (.pointer (some ⟨w.heap.size,0,none⟩)),R.new hb _ _ _ rfl (fun β' h1 h2 h3=>?_) (fun ys x c hy hx' hc=>?_),?_,fun c hc=>?_⟩
  ·exact⟨w.heap.size,arr,t,rfl,heap_alloc_new _ _,Xzr R hb hx hr h1 h3⟩
  ·injection hy with hy;subst hy;exact hr x hx' c hc
  ·exact .one ⟨w.heap.size,Yj ..,rfl⟩
  ·cases hc with|one h=>injection h with h;subst h;simp[Yb]
 ·cases h
def K3(ty:TypeId→Option Ty)(st:St)(d:Nat)(t:TypeId):Option (St×EV):=match ty t with|some T=>Xd6 st d (T.zero.map Cx.c)|none=>none
theorem Xv0(C:Vk P ty){o:Oper}{d:Nat}{t:TypeId}(ho:o.op= .alloc t){st':St}{v:EV}(h:K3 ty st d t=some (st',v)):Xon P st o st' v:=by
 intro base E M w0 w β a R;unfold K3 at h;split at h
 ·rename_i T hT;obtain⟨info,z,i1,i2,i3,i4,i5,i6,i7,i8⟩:=(C t T hT).info;have hzv:(zeroValue t).run P w= .ok z w:=by simp[Go.zeroValue,Go.typeInfo,i1,i4]
  obtain⟨β',h1,h2,h3⟩:=Xvp h R (arr:=z.cells) ((i5 w _).map_c) (fun x hx c hc=>(HN hx hc).elim) t;refine⟨_,_,β', .inl ?_,h1,h2,h3⟩;simp[execOp,ho,Instr.alloc,hzv,newVar,newRow]
 ·cases h
def K0(st:St)(d:Nat)(x:Operand):Option (St×EV):=match evO st x with|some v=>(match Kd v with|some xs=>Xd6 st d xs|none=>none)|none=>none
theorem Xvo{o:Oper}{d:Nat}{t:TypeId}{x:Operand}(ho:o.op= .box t x){st':St}{v:EV}(h:K0 st d x=some (st',v)):Xon P st o st' v:=by
 intro base E M w0 w β a R;unfold K0 at h;split at h
 ·rename_i v1 hv1;split at h
  ·rename_i xs hxs;obtain⟨h1,h2⟩:=evO_ok R hv1;obtain⟨h3,h4⟩:=Z6 hxs h1;obtain⟨β',k1,k2,k3⟩:=Xvp h R (arr:=(a.eval x).cells) h3 (fun x hx c hc=>h2 c (h4 x hx c hc)) t;refine⟨_,_,β', .inl ?_,k1,k2,k3⟩;simp[execOp,ho,Instr.box,newVar,newRow]
  ·cases h
 ·cases h
end
end
section
section
variable {P:Program} {base:Nat} {E M:Nat→Prop} {w0 w w':World} {β β':Vl} {st:St} {a:Act} {N:Nat→Prop} {ty:TypeId→Option Ty} {tm:Array Value}
def unC:Cx→Option Cv
 | .c v=>some v
 |_=>none
def Xd7:List Cx→Option (List Cv)
 |[]=>some []
 |x::r=>match unC x,Xd7 r with|some v,some l=>some (v::l)|_,_=>none
theorem Xv1:∀{xs:List Cx} {cs:List Cv},Xd7 xs=some cs→xs=cs.map Cx.c:=by
 intro xs
 induction xs with
 |nil=>intro cs h;injection h with h;subst h;rfl
 |cons x r ih=>
  intro cs h;simp only[Xd7]at h;split at h
  ·rename_i v l hv hl;injection h with h;subst h;rw[ih hl];cases x<;>simp[unC]at hv;subst hv;rfl
  ·cases h
theorem Y5.of_map_c{cs:List Cv}{us:List Value}(h:Y5 (Yz w N β) (cs.map Cx.c) us):Y5 (XN w N) cs us:=
 ⟨by simpa using h.1,fun i x y hx hy=>h.2 i (.c x) y (by simp[hx]) hy⟩
def JK(xs:List Cv)(off:Nat)(ys:List Cv):List Cv:=xs.take off++ys++xs.drop (off+ys.length)
def KK(ty:TypeId→Option Ty)(st:St)(t:TypeId)(x v:EV):Option (Prop×St):=
 match ty t,Kd v with
 |some T,some ys=>
  match x with
  | .one (.ptr b off)=>(match look st.H b with
   |some (.box xs)=>some (ys.length=T.size∧off+ys.length≤xs.length,{st with H:=put st.H b (.box (over xs off ys))})
   |_=>none)
  | .rp b esz i off=>(match look st.H b,Xd7 ys with
   |some (.row z t' esz' els),some cs=>some (esz'=esz∧ys.length=T.size∧i<els.length∧off+cs.length≤esz,{st with H:=put st.H b (.row z t' esz' (els.set i (JK (els.getD i []) off cs)))})
   |_,_=>none)
  |_=>none
 |_,_=>none
theorem Fr.wr{g:Nat}(h:Fr base E w0 w)(hg:base≤g∨E g)(o:Obj):Fr base E w0 (Sim.wr w g o):=
 h.trans ⟨rfl,rfl,rfl,by simp,fun k hk he=>Sim.Y1 (fun q=>by
  subst q;rcases hg with h|h
  ·omega
  ·exact he h) o⟩
theorem Xxu{xs ys:List Cv}{off j:Nat}(h:off+ys.length≤xs.length):(JK xs off ys)[j]? =if off≤j∧j<off+ys.length then ys[j - off]? else xs[j]?:=by
 unfold JK;rw[List.append_assoc,List.getElem?_append,List.getElem?_append];have hk:(xs.take off).length=off:=by simp;omega
 rw[hk];by_cases h1:j<off
 ·rw[if_pos h1,if_neg (by omega),List.getElem?_take];simp[h1]
 ·rw[if_neg h1];by_cases h2:j<off+ys.length
  ·rw[if_pos (by omega),if_pos (by omega)]
  ·rw[if_neg (by omega),if_neg (by omega),List.getElem?_drop]
   congr 1;omega
theorem Xiy{xs ys:List Cv}{off:Nat}(h:off+ys.length≤xs.length):(JK xs off ys).length=xs.length:=by simp[JK];omega
theorem Xtq{esz i i' off n j:Nat}(h1:off+n≤esz)(hj:j<esz):(i*esz+off≤i'*esz+j∧i'*esz+j<i*esz+off+n)↔(i'=i∧off≤j∧j<off+n):=by
 constructor
 ·rintro⟨a,b⟩;have hi:i'=i:=by
   rcases Nat.lt_trichotomy i' i with h|h|h
   ·have:=Nat.mul_le_mul_right esz (show i'+1≤i from h);rw[Nat.add_mul,Nat.one_mul]at this;omega
   ·exact h
   ·have:=Nat.mul_le_mul_right esz (show i+1≤i' from h);rw[Nat.add_mul,Nat.one_mul]at this;omega
  subst hi;omega
 ·rintro⟨rfl,a,b⟩;omega
theorem Xsb(C:Vk P ty)(R:Rel base E M w0 β st tm w){t:TypeId}{x v:EV}{p:Prop}{st':St}(h:KK ty st t x v=some (p,st'))(hp:p){u u':Value}(hx:X9 w (X6 M w β) β x u)(hv:X9 w (X6 M w β) β v u')(hrefs:∀b,X1 v b→look st.H b≠none):
  ∃w',(Instr.storeAt t u u').run P w= .ok () w'∧Rel base E M w0 β st' tm w':=by
 unfold KK at h;split at h
 ·rename_i T ys hT hys;obtain⟨hc,hcr⟩:=Z6 hys hv;have hone:∀q∈u'.cells.toList,q.oneCell'=true:=by
   intro q hq;obtain⟨i,hi,rfl⟩:=List.getElem_of_mem hq;have hl:=hc.1;exact(hc.2 i ys[i] _ (List.getElem?_eq_getElem (by omega)) (List.getElem?_eq_getElem hi)).one
  have hsz:=(C t T hT).sizeOf w;have hcl:=hc.1;simp only[Array.length_toList]at hcl;split at h
  ·rename_i b off;split at h
   ·rename_i xs hb;simp only[Option.some.injEq,Prod.mk.injEq]at h;obtain⟨rfl,rfl⟩:=h;obtain⟨p1,p2⟩:=hp;cases hx with|one hx=>
    obtain⟨g,hg,rfl⟩:=hx;obtain⟨arr,t',ha,hr⟩:=Yap (a:=⟨tm,[]⟩) R hb hg;have hal:=hr.1;simp only[Array.length_toList]at hal;have hlt:g<w.heap.size:=(Array.getElem?_eq_some_iff.1 ha).1;have hst:=Sim.KL P g off t' (0,0) u'.cells.toList 0 w arr ha hone (by simp;omega) (by simp);rw[Nat.add_zero]at hst;refine⟨Sim.wr w g (.cells (Sim.written arr off u'.cells.toList) t' (0,0)),?_,R.step b (.box (over xs off ys)) _ (R.fr.wr (R.at_ b _ g hg rfl).1 _) (by simp) (fun k hk=>?_) hg (fun c _=>rfl) (fun c u2 k hc' h1 h2=>?_) (fun k hk=>?_) (.inl hg) ?_ ?_⟩
    ·have hs:¬(u'.cells.size≠T.size):=by omega
     simp only[Instr.storeAt,Instr.sureAddr,Sem.run_bind,Sem.run_pure,Result.andThen_ok,storeVar,hsz];rw[if_neg hs];exact hst
    ·have hne:k≠g:=fun q=>hk.2 b _ hg (by rw[q];rfl);exact⟨by intro q;injection q with q;exact hne q.symm,Sim.Y1 hne _⟩
    ·have hne:k≠g:=fun q=>hc' (R.inj c b u2 _ k h1 hg h2 (by rw[q];rfl));exact⟨Sim.Y1 hne _,by intro q;injection q with q;exact hne q.symm⟩
    ·injection hk with hk;subst hk;exact⟨(R.at_ b _ g hg rfl).1,by simpa using hlt⟩
    ·have hN:∀k,X6 M w β k→X6 M (Sim.wr w g (.cells (Sim.written arr off u'.cells.toList) t' (0,0))) β k:=fun k hk=>⟨by simpa using hk.1,hk.2⟩;have hce:∀q:Addr,X6 M w β q.block→(Sim.wr w g (.cells (Sim.written arr off u'.cells.toList) t' (0,0))).cell? q=w.cell? q:=fun q hq=>YN (Sim.Y1 (fun e=>hq.2 b _ hg (by rw[e];rfl)) _);exact⟨g,_,t',rfl,Sim.Ja hlt _,(Xtg hr hc).mono fun x y h=>h.mono hN hce fun c _=>rfl⟩
    ·intro zs y c hz hy hc';injection hz with hz;subst hz;rcases Xnp hy with h|h
     ·exact .inr (R.cl.obj b xs y c hb h hc')
     ·exact .inr (hrefs c (hcr y h c hc'))
   ·cases h
  ·rename_i b esz i off;split at h
   ·rename_i z t' esz' els cs hb hcs;simp only[Option.some.injEq,Prod.mk.injEq]at h;obtain⟨rfl,rfl⟩:=h;obtain⟨rfl,p1,p2,p3⟩:=hp;obtain rfl:=Xv1 hcs;have hcv:=hc.of_map_c;have hcvl:=hcv.1;simp only[Array.length_toList]at hcvl;cases hx with
    | @rp _ _ _ _ g n0 c0 hβ=>
    obtain⟨u2,hu2,cells,ho,hz,hl,hce⟩:=R.obj b _ hb;rw[hβ]at hu2;injection hu2 with hu2;subst hu2;rcases ho.2 with⟨h0,_⟩|⟨g',cap,cur,h0, -,hg',hn,hm,hcs',htk⟩
    ·cases h0
    injection h0 with h0 h01 h02;injection h0 with h0;injection h0 with h0;subst h0;subst h02;have hlt:g<w.heap.size:=(Array.getElem?_eq_some_iff.1 hg').1;have hmul:i*esz'+esz'≤els.length*esz':=by
     have:=Nat.mul_le_mul_right esz' (show i+1≤els.length from p2)
     rwa[Nat.add_mul,Nat.one_mul]at this
    have hmul2:els.length*esz'≤c0*esz':=Nat.mul_le_mul_right _ hn;have hbnd:i*esz'+off+u'.cells.toList.length≤cur.size:=by simp;omega
    have hst:=Sim.KL P g (i*esz'+off) t' (0,0) u'.cells.toList 0 w cur hg' hone (by simpa using hbnd) (by simp);rw[Nat.add_zero]at hst;have hclen:=ho.1;refine⟨Sim.wr w g (.cells (Sim.written cur (i*esz'+off) u'.cells.toList) t' (0,0)),?_,R.step b (.row z t' esz' (els.set i (JK (els.getD i []) off cs))) _ (R.fr.wr (R.at_ b _ g hβ rfl).1 _) (by simp) (fun k hk=>?_) hβ (fun c _=>rfl) (fun c u2 k hc' h1 h2=>?_) (fun k hk=>?_) (.inl hβ) ?_ ?_⟩
    ·have hs:¬(u'.cells.size≠T.size):=by omega
     simp only[Instr.storeAt,Instr.sureAddr,Sem.run_bind,Sem.run_pure,Result.andThen_ok,storeVar,hsz];rw[if_neg hs];exact hst
    ·have hne:k≠g:=fun q=>hk.2 b _ hβ (by rw[q];rfl);exact⟨by intro q;injection q with q;exact hne q.symm,Sim.Y1 hne _⟩
    ·have hne:k≠g:=fun q=>hc' (R.inj c b u2 _ k h1 hβ h2 (by rw[q];rfl));exact⟨Sim.Y1 hne _,by intro q;injection q with q;exact hne q.symm⟩
    ·injection hk with hk;subst hk;exact⟨(R.at_ b _ g hβ rfl).1,by simpa using hlt⟩
    ·have hN:∀k,X6 M w β k→X6 M (Sim.wr w g (.cells (Sim.written cur (i*esz'+off) u'.cells.toList) t' (0,0))) β k:=fun k hk=>⟨by simpa using hk.1,hk.2⟩;have hcell:∀q:Addr,X6 M w β q.block→(Sim.wr w g (.cells (Sim.written cur (i*esz'+off) u'.cells.toList) t' (0,0))).cell? q=w.cell? q:=fun q hq=>YN (Sim.Y1 (fun e=>hq.2 b _ hβ (by rw[e];rfl)) _);have hel:(els.getD i []).length=esz':=hl i _ (by rw[List.getD_eq_getElem?_getD,List.getElem?_eq_getElem p2];rfl);have hge:els[i]? =some (els.getD i []):=by rw[List.getD_eq_getElem?_getD,List.getElem?_eq_getElem p2];rfl
     refine⟨((Sim.written cur (i*esz'+off) u'.cells.toList).toList.take (els.length*esz')),⟨?_, .inr ⟨g,c0,_,by simp[←h01],Nat.zero_le _,Sim.Ja hlt _,by simpa using hn,hm,by rw[Sim.KV hbnd];exact hcs',by simp⟩⟩,by rw[hz],fun i2 es hes=>?_,fun i2 j c hcc=>?_⟩
     ·have:=Sim.KV hbnd;simp only[List.length_take,Array.length_toList,List.length_set];omega
     ·rw[List.getElem?_set]at hes;split at hes
      ·rename_i q;subst q
       try rw[if_pos p2]at hes
       injection hes with hes;subst hes;rw[Xiy (by omega)];exact hel
      ·exact hl i2 es hes
     ·have key:∀es,(els.set i (JK (els.getD i []) off cs))[i2]? =some es→es.length=esz'∧i2<els.length:=by
       intro es hes;have hi2:=(List.getElem?_eq_some_iff.1 hes).1;simp at hi2;refine⟨?_,hi2⟩;rw[List.getElem?_set]at hes;split at hes
       ·rename_i q;subst q
        try rw[if_pos p2]at hes
        injection hes with hes;subst hes;rw[Xiy (by omega)];exact hel
       ·exact hl i2 es hes
      unfold cellAt at hcc;cases hq:(els.set i (JK (els.getD i []) off cs))[i2]? with
      |none=>rw[hq]at hcc;cases hcc
      |some es=>
      rw[hq]at hcc;simp only[Option.bind_some]at hcc;obtain⟨k1,k2⟩:=key es hq;have hj:j<esz':=by have:=(List.getElem?_eq_some_iff.1 hcc).1;omega
      have hidx:i2*esz'+j<els.length*esz':=by
       have:=Nat.mul_le_mul_right esz' (show i2+1≤els.length from k2);rw[Nat.add_mul,Nat.one_mul]at this;omega
      have hw:((Sim.written cur (i*esz'+off) u'.cells.toList).toList.take (els.length*esz'))[i2*esz'+j]? =if i2=i∧off≤j∧j<off+cs.length then u'.cells.toList[j - off]? else cells[i2*esz'+j]?:=by
       rw[List.getElem?_take,if_pos hidx,Array.getElem?_toList,Sim.Ym hbnd];have hl':u'.cells.toList.length=cs.length:=by simp;omega
       rw[hl'];have hmb:=Xtq (i:=i) (i':=i2) (off:=off) (n:=cs.length) (j:=j) p3 hj;by_cases hcase:i2=i∧off≤j∧j<off+cs.length
       ·rw[if_pos (hmb.2 hcase),if_pos hcase];obtain⟨rfl, -, -⟩:=hcase
        congr 1;omega
       ·rw[if_neg (fun q=>hcase (hmb.1 q)),if_neg hcase];rw[←htk,List.getElem?_take,if_pos (by simpa using hidx)];simp
      rw[hw];rw[List.getElem?_set]at hq;by_cases hii:i=i2
      ·subst hii;rw[if_pos rfl,if_pos p2]at hq;injection hq with hq;subst hq;rw[Xxu (by omega)]at hcc;by_cases hcase:off≤j∧j<off+cs.length
       ·rw[if_pos hcase]at hcc;rw[if_pos ⟨rfl,hcase⟩];obtain⟨y,hy,hr⟩:=hcv.get hcc;exact⟨y,hy,hr.mono hN hcell⟩
       ·rw[if_neg hcase]at hcc;rw[if_neg (fun q=>hcase q.2)];obtain⟨y,hy,hr⟩:=hce i j c (by unfold cellAt;rw[hge];exact hcc);exact⟨y,hy,hr.mono hN hcell⟩
      ·rw[if_neg hii]at hq;rw[if_neg (fun q=>hii q.1.symm)];obtain⟨y,hy,hr⟩:=hce i2 j c (by unfold cellAt;rw[hq];exact hcc);exact⟨y,hy,hr.mono hN hcell⟩
    ·intro zs y c hz' _ _;cases hz'
   ·cases h
  ·cases h
 ·cases h
end
end
section
section
variable {P:Program} {base:Nat} {E M:Nat→Prop} {w0 w w':World} {β β':Vl} {st:St} {a:Act} {N:Nat→Prop} {ty:TypeId→Option Ty} {tm:Array Value}
def Vv(b:Nat)(x:Cx):Cx:=match refs x with|some c=>if c=b then .dead else x|none=>x
def YZ(b:Nat)(x:Cx):Bool:=match refs x with|some c=>!(c==b)|none=>true
def KP(b:Nat):EV→Bool
 | .one x=>YZ b x
 | .agg xs=>xs.all (YZ b)
 |_=>false
def Vc(b:Nat):EV→EV
 | .one x=>if YZ b x then .one x else .any
 | .agg xs=> .agg (xs.map (Vv b))
 | .tup l=>if l.all (KP b)then .tup l else .any
 | .ep esz els i off=> .ep esz els i off
 | .rp c esz i off=>if c=b then .any else .rp c esz i off
 | .any=> .any
def KW(b:Nat):OB→OB
 | .box xs=> .box (xs.map (Vv b))
 | .row z t esz els=> .row z t esz els
 | .map es=> .map es
def Xbw{α β:Type}(f:α→β):List (Nat×α)→List (Nat×β)
 |[]=>[]
 |(k,v)::r=>(k,f v)::Xbw f r
theorem Gi{α β:Type}(f:α→β)(l:List (Nat×α))(t:Nat):look (Xbw f l) t=(look l t).map f:=by
 induction l with
 |nil=>rfl
 |cons p r ih=>
  obtain⟨k,v⟩:=p;simp only[Xbw,look];split
  ·rfl
  ·exact ih
def YL(b:Nat)(st:St):St:={env:=Xbw (Vc b) st.env,H:=Xbw (KW b) st.H}
theorem Kc{b:Nat}{x:Cx}(h:YZ b x=true):refs x≠some b:=by
 unfold YZ at h;split at h
 ·rename_i c hc;rw[hc];intro q;injection q with q;subst q;simp at h
 ·rename_i hn;rw[hn];simp
theorem HO{b:Nat}{x:Cx}{c:Nat}(h:refs (Vv b x)=some c):refs x=some c∧c≠b:=by
 unfold Vv at h;split at h
 ·rename_i d hd;split at h
  ·cases h
  ·rename_i hne;rw[hd]at h;injection h with h;subst h;exact⟨hd,hne⟩
 ·rename_i hn;rw[hn]at h;cases h
theorem Xjm{b:Nat}{x:Cx}{u:Value}(h:Yz w N β x u):Yz w N β (Vv b x) u:=by
 unfold Vv;split
 ·split
  ·exact h.one
  ·exact h
 ·exact h
theorem Xgz{b:Nat}{v:EV}{u:Value}(hv:X9 w N β v u):X9 w N β (Vc b v) u∧(∀c,X1 (Vc b v) c→X1 v c)∧¬X1 (Vc b v) b:=by
 cases v with
 |one x=>
  simp only[Vc];split
  ·rename_i hx;exact⟨hv,fun c hc=>hc,fun hr=>by cases hr with|one hr=>exact Kc hx hr⟩
  ·exact⟨.any,fun c hc=>(by cases hc),fun hr=>by cases hr⟩
 |agg xs=>
  cases hv with|agg hv=>
  refine⟨.agg ⟨by simpa using hv.1,fun i x y hx hy=>?_⟩,fun c hc=>?_,fun hr=>?_⟩
  ·rw[List.getElem?_map]at hx;cases hq:xs[i]? with
   |none=>rw[hq]at hx;cases hx
   |some z=>rw[hq]at hx;simp at hx;subst hx;exact Xjm (hv.2 i z y hq hy)
  ·cases hc with|agg hm hr=>
   obtain⟨z,hz,rfl⟩:=List.mem_map.1 hm;exact .agg hz (HO hr).1
  ·cases hr with|agg hm hr=>
   obtain⟨z,hz,rfl⟩:=List.mem_map.1 hm;exact(HO hr).2 rfl
 |tup l=>
  simp only[Vc];split
  ·rename_i hl;refine⟨hv,fun c hc=>hc,fun hr=>?_⟩;cases hr with| @tup _ x _ hm hr=>
   have:=(List.all_eq_true.1 hl) x hm;cases x with
   |one x=>cases hr with|one hr=>exact Kc this hr
   |agg xs=>cases hr with|agg hm hr=>exact Kc ((List.all_eq_true.1 this) _ hm) hr
   |_=>cases this
  ·exact⟨.any,fun c hc=>(by cases hc),fun hr=>by cases hr⟩
 |ep esz els i off=>exact⟨hv,fun c hc=>hc,fun hr=>by cases hr⟩
 |rp c esz i off=>
  simp only[Vc];split
  ·exact⟨.any,fun c hc=>(by cases hc),fun hr=>by cases hr⟩
  ·rename_i hne;exact⟨hv,fun c hc=>hc,fun hr=>by cases hr;exact hne rfl⟩
 |any=>exact⟨.any,fun c hc=>(by cases hc),fun hr=>by cases hr⟩
theorem Xqe{b:Nat}{ob:OB}{u:Value}(h:ORel w N β ob u):ORel w N β (KW b ob) u:=by
 cases ob with
 |box xs=>
  obtain⟨g,arr,t,rfl,h1,h2⟩:=h;refine⟨g,arr,t,rfl,h1,by simpa using h2.1,fun i x y hx hy=>?_⟩;rw[List.getElem?_map]at hx;cases hq:xs[i]? with
  |none=>rw[hq]at hx;cases hx
  |some z=>rw[hq]at hx;simp at hx;subst hx;exact Xjm (h2.2 i z y hq hy)
 |row z t esz els=>exact h
 |map es=>exact h
theorem Rel.kill(R:Rel base E M w0 β st tm w)(b:Nat):Rel base E M w0 β (YL b st) tm w∧Xew (YL b st) b:=by
 have hE:∀t v,look (YL b st).env t=some v→∃v0,look st.env t=some v0∧Vc b v0=v:=by
  intro t v hv;simp only[YL,Gi,Option.map_eq_some_iff]at hv;exact hv
 have hH:∀k o,look (YL b st).H k=some o→∃o0,look st.H k=some o0∧KW b o0=o:=by
  intro k o ho;simp only[YL,Gi,Option.map_eq_some_iff]at ho;exact ho
 have hD:∀k,look st.H k≠none→look (YL b st).H k≠none:=by
  intro k hk;simp only[YL,Gi];cases hq:look st.H k with
  |none=>exact absurd hq hk
  |some o=>simp
 have hbox:∀k xs,look (YL b st).H k=some (.box xs)→∃ys,look st.H k=some (.box ys)∧xs=ys.map (Vv b):=by
  intro k xs hk;obtain⟨o0,h1,h2⟩:=hH k _ hk;cases o0 with
  |box ys=>simp only[KW]at h2;injection h2 with h2;exact⟨ys,h1,h2.symm⟩
  |row=>cases h2
  |map=>cases h2
 refine⟨⟨R.fr,R.le,fun t v hv=>?_,fun k o ho=>?_,R.at_,R.inj,fun k u hk=>hD k (R.dom k u hk),⟨fun t v c hv hr=>?_,fun k xs x c hk hx hr=>?_⟩,R.may⟩,fun t v hv hr=>?_,fun k xs x hk hx hr=>?_⟩
 ·obtain⟨v0,h1,rfl⟩:=hE t v hv;obtain⟨u,hu,hr⟩:=R.env t v0 h1;exact⟨u,hu,(Xgz hr).1⟩
 ·obtain⟨o0,h1,rfl⟩:=hH k o ho;obtain⟨u,hu,hr⟩:=R.obj k o0 h1;exact⟨u,hu,Xqe hr⟩
 ·obtain⟨v0,h1,rfl⟩:=hE t v hv;obtain⟨u,hu,hr'⟩:=R.env t v0 h1;exact hD c (R.cl.env t v0 c h1 ((Xgz hr').2.1 c hr))
 ·obtain⟨ys,h1,rfl⟩:=hbox k xs hk;obtain⟨z,hz,rfl⟩:=List.mem_map.1 hx;exact hD c (R.cl.obj k ys z c h1 hz (HO hr).1)
 ·obtain⟨v0,h1,rfl⟩:=hE t v hv;obtain⟨u,hu,hr'⟩:=R.env t v0 h1;exact(Xgz hr').2.2 hr
 ·obtain⟨ys,h1,rfl⟩:=hbox k xs hk;obtain⟨z,hz,rfl⟩:=List.mem_map.1 hx;exact(HO hr).2 rfl
end
end
section
section
variable {P:Program} {base:Nat} {E M:Nat→Prop} {w0 w w':World} {β β':Vl} {st:St} {a:Act} {N:Nat→Prop} {ty:TypeId→Option Ty} {tm:Array Value}
structure Flat(w:World)(N:Nat→Prop)(esz:Nat)(els:List (List Cv))(news:List Value):Prop where
 len:news.length=els.length*esz
 el:∀(i:Nat) (es:List Cv),els[i]? =some es→es.length=esz
 rel:∀i j c,cellAt els i j=some c→∃x,news[i*esz+j]? =some x∧XN w N c x
theorem Flat.mono{N':Nat→Prop}{esz:Nat}{els:List (List Cv)}{news:List Value}(h:Flat w N esz els news)(hN:∀g,N g→N' g)(hc:∀p:Addr,N p.block→w'.cell? p=w.cell? p):Flat w' N' esz els news:=
 ⟨h.len,h.el,fun i j c hcc=>by obtain⟨x,h1,h2⟩:=h.rel i j c hcc;exact⟨x,h1,h2.mono hN hc⟩⟩
theorem cell_lt{esz:Nat}{els:List (List Cv)}(hel:∀(i:Nat) (es:List Cv),els[i]? =some es→es.length=esz){i j:Nat}{c:Cv}(h:cellAt els i j=some c):i<els.length∧j<esz:=by
 unfold cellAt at h;cases hq:els[i]? with
 |none=>rw[hq]at h;cases h
 |some es=>
  rw[hq]at h;simp only[Option.bind_some]at h;have:=(List.getElem?_eq_some_iff.1 h).1;rw[hel i es hq]at this;exact⟨(List.getElem?_eq_some_iff.1 hq).1,this⟩
theorem Xuc{i j n esz:Nat}(hi:i<n)(hj:j<esz):i*esz+j<n*esz:=by
 have:=Nat.mul_le_mul_right esz (show i+1≤n from hi);rw[Nat.add_mul,Nat.one_mul]at this;omega
theorem Flat.app{esz:Nat}{els els2:List (List Cv)}{xs news:List Value}(h:Flat w N esz els xs)(k:Flat w N esz els2 news):Flat w N esz (els++els2) (xs++news):=by
 refine⟨by rw[List.length_append,h.len,k.len,List.length_append,Nat.add_mul],fun i es he=>?_,fun i j c hc=>?_⟩
 ·rw[List.getElem?_append]at he;split at he
  ·exact h.el i es he
  ·exact k.el _ es he
 ·unfold cellAt at hc;rw[List.getElem?_append]at hc;split at hc
  ·rename_i hlt;have hc':cellAt els i j=some c:=hc;obtain⟨x,h1,h2⟩:=h.rel i j c hc';exact⟨x,by rw[List.getElem?_append_left (List.getElem?_eq_some_iff.1 h1).1];exact h1,h2⟩
  ·rename_i hge;have hc':cellAt els2 (i - els.length) j=some c:=hc;obtain⟨x,h1,h2⟩:=k.rel _ j c hc';have e:i*esz+j=xs.length+((i - els.length)*esz+j):=by
    rw[h.len,←Nat.add_assoc,←Nat.add_mul];congr 2;omega
   exact⟨x,by rw[e,List.getElem?_append_right (by omega)];simpa using h1,h2⟩
theorem Flat.one{esz:Nat}{els:List (List Cv)}{news:List Value}(h:Flat w N esz els news):∀u∈news,u.oneCell'=true:=by
 intro u hu;obtain⟨k,hk,rfl⟩:=List.getElem_of_mem hu;have hz:0<esz:=by
  rcases Nat.eq_zero_or_pos esz with h0|h0
  ·have hl:=h.len;rw[h0,Nat.mul_zero]at hl;omega
  ·exact h0
 have hi:k / esz<els.length:=by rw[Nat.div_lt_iff_lt_mul hz,←h.len];exact hk
 have hj:k%esz<esz:=Nat.mod_lt _ hz;have hel:=h.el (k / esz) _ (List.getElem?_eq_getElem hi);obtain⟨x,h1,h2⟩:=h.rel (k / esz) (k%esz) (els[k / esz][k%esz]'(by rw[hel];exact hj)) (by
  unfold cellAt;rw[List.getElem?_eq_getElem hi];exact List.getElem?_eq_getElem (by rw[hel];exact hj))
 have e:k / esz*esz+k%esz=k:=by rw[Nat.mul_comm];exact Nat.div_add_mod _ _
 rw[e,List.getElem?_eq_getElem hk]at h1;injection h1 with h1;rw[h1];exact h2.one
theorem XN.flat{esz:Nat}{els:List (List Cv)}{A:Addr}{n c:Nat}{z:Bool}(h:XN w N (.sl z esz els) (.slice (some A) n c)):
  els.length=n∧∃news,Flat w N esz els news∧∀j u,news[j]? =some u→w.cell? (A.add j)=some u:=by
 cases h with
 |sl us hl hcap hz hc hr=>
  refine⟨hl,(List.range (els.length*esz)).map (fun k=>us (k / esz) (k%esz)),⟨by simp,hz,fun i j c hcc=>?_⟩,fun k u hu=>?_⟩
  ·obtain⟨hi,hj⟩:=cell_lt hz hcc;have hp:0<esz:=by omega
   refine⟨us i j,?_,hr i j c hcc⟩;have e1:(i*esz+j) / esz=i:=by rw[Nat.mul_comm,Nat.mul_add_div hp,Nat.div_eq_of_lt hj];rfl
   have e2:(i*esz+j)%esz=j:=by rw[Nat.mul_comm,Nat.mul_add_mod,Nat.mod_eq_of_lt hj]
   simp[Xuc hi hj,e1,e2]
  ·have hk:=(List.getElem?_eq_some_iff.1 hu).1;simp at hk;simp[hk]at hu;subst hu;have hp:0<esz:=by
    rcases Nat.eq_zero_or_pos esz with h0|h0
    ·subst h0;simp at hk
    ·exact h0
   have hi:k / esz<els.length:=by rw[Nat.div_lt_iff_lt_mul hp];exact hk
   have hj:k%esz<esz:=Nat.mod_lt _ hp;have hel:=hz (k / esz) _ (List.getElem?_eq_getElem hi);have:=hc (k / esz) (k%esz) (els[k / esz][k%esz]'(by rw[hel];exact hj)) (by
    unfold cellAt;rw[List.getElem?_eq_getElem hi];exact List.getElem?_eq_getElem (by rw[hel];exact hj))
   have e:k / esz*esz+k%esz=k:=by rw[Nat.mul_comm];exact Nat.div_add_mod _ _
   rw[e]at this;exact this.2
theorem ZF{z:Bool}{t:TypeId}{esz:Nat}{els:List (List Cv)}{u:Value}(h:ORel w N β (.row z t esz els) u):∃cells,w.ownsRow 0 t esz u els.length cells∧(z=true↔u= .slice none 0 0)∧Flat w N esz els cells:=by
 obtain⟨cells,h1,h2,h3,h4⟩:=h;exact⟨cells,h1,h2,h1.1,h3,h4⟩
def Xf6(st:St):EV→Option (Nat×List (List Cv))
 | .one (.c (.sl _ esz els))=>some (esz,els)
 | .one (.own b)=>(match look st.H b with|some (.row _ _ esz els)=>some (esz,els)|_=>none)
 |_=>none
theorem Ya8(R:Rel base E M w0 β st tm w){x:EV}{esz:Nat}{els:List (List Cv)}(h:Xf6 st x=some (esz,els)){u:Value}(hx:X9 w (X6 M w β) β x u):
  (u= .slice none 0 0∧els=[])∨∃A c news,u= .slice (some A) els.length c∧Flat w (X6 M w β) esz els news∧∀j v,news[j]? =some v→w.cell? (A.add j)=some v:=by
 unfold Xf6 at h;split at h
 ·rename_i z esz' els';simp only[Option.some.injEq,Prod.mk.injEq]at h;obtain⟨rfl,rfl⟩:=h;cases hx with|one hx=>
  have hx':XN w (X6 M w β) (.sl z esz' els') u:=hx;cases u with
  |slice A n c=>
   cases A with
   |none=>cases hx';exact .inl ⟨rfl,rfl⟩
   |some A=>
    obtain⟨h1,news,h2,h3⟩:=hx'.flat;exact .inr ⟨A,c,news,by rw[h1],h2,h3⟩
  |_=>cases hx'
 ·rename_i b;split at h
  ·rename_i z t esz' els' hb;simp only[Option.some.injEq,Prod.mk.injEq]at h;obtain⟨rfl,rfl⟩:=h;cases hx with|one hx=>
   obtain⟨hβ,_⟩:=hx;obtain⟨u2,hu2,ho⟩:=R.obj b _ hb;rw[hβ]at hu2;injection hu2 with hu2;subst hu2;obtain⟨cells,h1,h2,h3⟩:=ZF ho;rcases h1.2 with⟨rfl,h0⟩|⟨g,cap,cur,rfl, -⟩
   ·exact .inl ⟨rfl,List.eq_nil_of_length_eq_zero h0⟩
   ·exact .inr ⟨⟨g,0,none⟩,cap,cells,rfl,h3,h1.cells rfl⟩
  ·cases h
 ·cases h
theorem run_append{t el ret:TypeId}{Te:Ty}(hu:P.underlying t=some (.slice el))(I:Ydy P el Te)(hsz:0<Te.size){u:Value}{n:Nat}{xs:List Value}(hown:w.ownsRow 0 el Te.size u n xs){u':Value}{els:List (List Cv)}
  (hs:(u'= .slice none 0 0∧els=[])∨∃A c news,u'= .slice (some A) els.length c∧Flat w N Te.size els news∧∀j v,news[j]? =some v→w.cell? (A.add j)=some v)
  (h63:n+els.length≤maxLen) (hbytes:(n+els.length)*Te.bytes≤140737488355328):
  ∃v' w' news,(Builtin.append_ #[t,t] ret #[u,u']).run P w= .ok v' w'∧w'.ownsRow 0 el Te.size v' (n+els.length) (xs++news)∧w.grownBy w' u.ownBlock∧
   (v'= .slice none 0 0↔u= .slice none 0 0∧els=[])∧(v'.ownBlock=u.ownBlock∨v'.ownBlock=some w.heap.size)∧Flat w N Te.size els news:=by
 obtain⟨info,z,i1,i2,i3,i4,i5,i6,i7,i8⟩:=I.info;have hzs:z.cells.size=Te.size:=by
  have:=(i5 w N).1;simp only[Array.length_toList]at this;omega
 rcases hs with⟨rfl,rfl⟩|⟨A,c,news,rfl,hf,hc⟩
 ·refine⟨u,w,[],?_,by simpa using hown,⟨rfl,rfl,rfl,Nat.le_refl _,fun _ _ _=>rfl⟩,by simp, .inl rfl,⟨by simp,fun i es h=>by simp at h,fun i j c h=>by simp[cellAt]at h⟩⟩;rcases hown.2 with⟨rfl,rfl⟩|⟨g,cap,cur,rfl,_,_,hnc,_⟩
  ·simp[Builtin.append_,run_underlying hu,sizeOf,typeInfo,i1,Builtin.lenOf,Builtin.firstCells]
  ·simp[Builtin.append_,run_underlying hu,sizeOf,typeInfo,i1,Builtin.lenOf,Builtin.firstCells,hnc,storeCells]
 ·obtain⟨v',w',a1,a2,a3,a4,a5⟩:=run_append_own_at (P:=P) w 0 t ret el info z Te.size Te.bytes hu i1 i4 i2 i3 hzs hsz u n xs hown A els.length c news hf.len hc hf.one h63 hbytes (Nat.zero_le _);refine⟨v',w',news,a1,a2,a3,?_,a5,hf⟩;rw[a4];constructor
  ·rintro⟨h1,h2⟩;exact⟨h1,List.eq_nil_of_length_eq_zero h2⟩
  ·rintro⟨h1,h2⟩;exact⟨h1,by rw[h2];rfl⟩
def Y4(ty:TypeId→Option Ty)(st:St)(d:Nat)(t:TypeId)(s x:EV):Option (Prop×St×EV):=
 match elemOf ty t,Xf6 st x with
 |some (none,el,Te),some (esz,els2)=>
  match s with
  | .one (.own b)=>
   (match look st.H b with
    |some (.row z el' esz' els)=>some (el'=el∧esz'=Te.size∧esz=Te.size∧0<Te.size∧els.length+els2.length≤maxLen∧(els.length+els2.length)*Te.bytes≤140737488355328,
      {YL b st with H:=put (YL b st).H b (.row (z&&els2.isEmpty) el esz' (els++els2))}, .one (.own b))
    |_=>none)
  | .one (.c (.sl true _ []))=>
   (match look st.H d with
    |none=>some (esz=Te.size∧0<Te.size∧els2.length≤maxLen∧els2.length*Te.bytes≤140737488355328,{st with H:=put st.H d (.row els2.isEmpty el esz els2)}, .one (.own d))
    |some _=>none)
  |_=>none
 |_,_=>none
theorem Gy{t:TypeId}{size n:Nat}{v:Value}{xs:List Value}(h:w.ownsRow 0 t size v n xs):(∃A c,v= .slice A n c)∧blk v=v.ownBlock∧∀g,blk v=some g→g<w.heap.size:=by
 rcases h.2 with⟨rfl,rfl⟩|⟨g,cap,cur,rfl,_,hg,_⟩
 ·exact⟨⟨none,0,rfl⟩,rfl,fun g h=>by cases h⟩
 ·refine⟨⟨_,_,rfl⟩,rfl,fun g' h=>?_⟩;injection h with h;subst h;exact(Array.getElem?_eq_some_iff.1 hg).1
theorem Rel.rowStep(R:Rel base E M w0 β st tm w){b:Nat}(hn:Xew st b){u v':Value}{el esz:Nat}{els els2:List (List Cv)}{z:Bool}{xs news:List Value}
  (hu:β b=some u∨(β b=none∧blk u=none)) (hown:w.ownsRow 0 el esz u els.length xs) (hf:Flat w (X6 M w β) esz els xs) (hz:z=true↔u= .slice none 0 0)
  (hown':w'.ownsRow 0 el esz v' (els.length+els2.length) (xs++news)) (hg:w.grownBy w' u.ownBlock) (hnil:v'= .slice none 0 0↔u= .slice none 0 0∧els2=[])
  (hat:v'.ownBlock=u.ownBlock∨v'.ownBlock=some w.heap.size) (hf2:Flat w (X6 M w β) esz els2 news):
  Rel base E M w0 (upd β b v') {st with H:=put st.H b (.row (z&&els2.isEmpty) el esz (els++els2))} tm w':=by
 obtain⟨-,o2,o3⟩:=Gy hown;obtain⟨o1',o2',o3'⟩:=Gy hown';have hub:∀g,blk u=some g→β b=some u:=fun g h=>by
  rcases hu with hu|⟨_,hu⟩
  ·exact hu
  ·rw[hu]at h;cases h
 have hfree:∀g,X6 M w β g→blk v'≠some g∧w'.heap[g]? =w.heap[g]?:=by
  intro g hg';have hne:blk u≠some g:=fun h=>hg'.2 b u (hub g h) h;refine⟨fun h=>?_,hg.block g hg'.1.1 (by rw[←o2];exact fun q=>hne q.symm)⟩;rw[o2']at h;rcases hat with hat|hat
  ·rw[hat,←o2]at h;exact hne h
  ·rw[hat]at h;injection h with h;have:=hg'.1.1;omega
 have hN:∀g,X6 M w β g→X6 M w' (upd β b v') g:=by
  intro g hg';refine⟨⟨Nat.lt_of_lt_of_le hg'.1.1 hg.size,hg'.1.2⟩,fun c u' hc=>?_⟩;by_cases h:c=b
  ·subst h;rw[Yj]at hc;injection hc with hc;subst hc;exact(hfree g hg').1
  ·rw[Kp _ _ h]at hc;exact hg'.2 c u' hc
 have hc:∀p:Addr,X6 M w β p.block→w'.cell? p=w.cell? p:=fun p hp=>YN (hfree _ hp).2;refine R.step b _ v' ?_ hg.size hfree (Yj ..) (fun c hc=>Kp _ _ hc) (fun c u' g hcb h1 h2=>?_) (fun g h=>?_) (.inr hn) ?_ (fun ys y c h=>by cases h)
 ·refine R.fr.trans ⟨hg.os,hg.tape,hg.output,hg.size,fun k hk he=>hg.block k (by have:=R.le;omega) (fun q=>?_)⟩;have h:blk u=some k:=by rw[o2];exact q.symm
  rcases(R.at_ b u k (hub k h) h).1 with h'|h'
  ·omega
  ·exact he h'
 ·have hlt:=(R.at_ c u' g h1 h2).2;have hne:blk u≠some g:=fun h=>hcb (R.inj c b u' u g h1 (hub g h) h2 h);refine⟨hg.block g hlt (by rw[←o2];exact fun q=>hne q.symm),fun h=>?_⟩;rw[o2']at h;rcases hat with hat|hat
  ·rw[hat,←o2]at h;exact hne h
  ·rw[hat]at h;injection h with h;omega
 ·refine⟨?_,o3' g h⟩;rw[o2']at h;rcases hat with hat|hat
  ·rw[hat,←o2]at h;exact(R.at_ b u g (hub g h) h).1
  ·rw[hat]at h;injection h with h;subst h;exact .inl R.le
 ·have hff:=(hf.mono hN hc).app (hf2.mono hN hc);refine⟨xs++news,by rw[List.length_append];exact hown',?_,hff.el,hff.rel⟩;rw[hnil,Bool.and_eq_true,hz,List.isEmpty_iff]
theorem Xrb(C:Vk P ty)(R:Rel base E M w0 β st tm w){d:Nat}{t:TypeId}{s x v:EV}{p:Prop}{st':St}(h:Y4 ty st d t s x=some (p,st',v))(hp:p){u u':Value}(hs:X9 w (X6 M w β) β s u)(hx:X9 w (X6 M w β) β x u')(ret:TypeId):
  ∃r w' β',(Builtin.append_ #[t,t] ret #[u,u']).run P w= .ok r w'∧Rel base E M w0 β' st' tm w'∧X9 w' (X6 M w' β') β' v r∧∀b,X1 v b→look st'.H b≠none:=by
 unfold Y4 at h;split at h
 ·rename_i el Te esz els2 he hsrc;obtain⟨-,hTe,hut⟩:=YM C he w;have hsr:=Ya8 R hsrc hx;split at h
  ·rename_i b;split at h
   ·rename_i z el' esz' els hb;simp only[Option.some.injEq,Prod.mk.injEq]at h;obtain⟨rfl,rfl,rfl⟩:=h;obtain⟨rfl,rfl,rfl,p4,p5,p6⟩:=hp;cases hs with|one hs=>
    obtain⟨hβ,_⟩:=hs;obtain⟨u2,hu2,ho⟩:=R.obj b _ hb;rw[hβ]at hu2;injection hu2 with hu2;subst hu2;obtain⟨cells,h1,h2,h3⟩:=ZF ho;obtain⟨v',w',news,r1,r2,r3,r4,r5,r6⟩:=run_append (P:=P) (ret:=ret) hut (C _ _ hTe) p4 h1 hsr p5 p6;obtain⟨R2,hn⟩:=R.kill b;have R3:=R2.rowStep hn (.inl hβ) h1 h3 h2 r2 r3 r4 r5 r6;refine⟨v',w',_,r1,R3, .one ⟨Yj ..,?_⟩,fun c hc=>?_⟩
    ·obtain⟨⟨A,c,e⟩, -⟩:=Gy r2;exact⟨A,_,c,e⟩
    ·cases hc with|one hc=>injection hc with hc;subst hc;simp[Yb]
   ·cases h
  ·split at h
   ·rename_i hd;simp only[Option.some.injEq,Prod.mk.injEq]at h;obtain⟨rfl,rfl,rfl⟩:=h;obtain⟨rfl,p4,p5,p6⟩:=hp;cases hs with|one hs=>
    have hs':XN w (X6 M w β) (.sl true _ []) u:=hs;cases hs';have hβ:β d=none:=by
     cases hq:β d with
     |none=>rfl
     |some y=>exact absurd hd (R.dom d y hq)
    have h1:w.ownsRow 0 el Te.size (.slice none 0 0) 0 []:=World.ownsRow_nil w 0 el Te.size;obtain⟨v',w',news,r1,r2,r3,r4,r5,r6⟩:=run_append (P:=P) (ret:=ret) hut (C _ _ hTe) p4 h1 hsr (by omega) (by rw[Nat.zero_add];exact p6);have hf0:Flat w (X6 M w β) Te.size [] []:=⟨by simp,fun i es h=>by simp at h,fun i j c h=>by simp[cellAt]at h⟩;have R3:=R.rowStep (els:=[]) (z:=true) (Xew.of_none R.cl hd) (.inr ⟨hβ,rfl⟩) h1 hf0 (by simp) r2 r3 r4 r5 r6;refine⟨v',w',_,r1,by simpa using R3, .one ⟨Yj ..,?_⟩,fun c hc=>?_⟩
    ·obtain⟨⟨A,c,e⟩, -⟩:=Gy r2;exact⟨A,_,c,e⟩
    ·cases hc with|one hc=>injection hc with hc;subst hc;simp[Yb]
   ·cases h
  ·cases h
 ·cases h
end
end
end Go.Proofs.YtjhfcfpkgfpoiaaGreatDoor.Dw
