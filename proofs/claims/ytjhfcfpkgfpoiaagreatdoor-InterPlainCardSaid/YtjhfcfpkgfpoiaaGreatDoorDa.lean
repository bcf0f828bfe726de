/- Values, boxes, rows and maps of a call as plain data, and rules for code over them. No condition. -/
import Derived.Below
import Derived.Laws.OwnMore
import Derived.Laws.Sem
import Derived.Laws.StructEq
import Derived.Lib.SliceRun
import Derived.Maps.AppendAt
import Derived.WalkKit
import Derived.Test.YtjhfcfpkgfpoiaaGreatDoorSimC
namespace Go.Proofs.YtjhfcfpkgfpoiaaGreatDoor.Dw
open Go Go.RowKit
set_option maxRecDepth 100000
section
inductive Cv where
 |sc (v:Value)
 |sl (z:Bool) (esz:Nat) (els:List (List Cv))
instance:Inhabited Cv:=⟨.sc default⟩
inductive Cx where
 |c (v:Cv)
 |own (b:Nat)
 |ptr (b off:Nat)
 |map (b:Nat)
 |dead
instance:Inhabited Cx:=⟨.dead⟩
inductive EV where
 |one (x:Cx)
 |agg (xs:List Cx)
 |tup (l:List EV)
 |ep (esz:Nat) (els:List (List Cv)) (i off:Nat)
 |rp (b esz i off:Nat)
 |any
instance:Inhabited EV:=⟨.agg []⟩
inductive OB where
 |box (xs:List Cx)
 |row (z:Bool) (t:TypeId) (esz:Nat) (els:List (List Cv))
 |map (es:List (Cv×Cv))
def look{α:Type}:List (Nat×α)→Nat→Option α
 |[],_=>none
 |(k,v)::r,t=>if k=t then some v else look r t
def put{α:Type}:List (Nat×α)→Nat→α→List (Nat×α)
 |[],t,x=>[(t,x)]
 |(k,v)::r,t,x=>if k=t then(t,x)::r else(k,v)::put r t x
theorem Yb{α:Type}(l:List (Nat×α))(t:Nat)(x:α)(u:Nat):look (put l t x) u=if t=u then some x else look l u:=by
 induction l with
 |nil=>simp[put,look]
 |cons p r ih=>
  obtain⟨k,v⟩:=p;by_cases h:k=t
  ·subst h;by_cases g:k=u<;>simp[put,look,g]
  ·by_cases g:k=u
   ·subst g;simp[put,look,h,Ne.symm h]
   ·simp[put,look,h,g,ih]
structure St where
 env:List (Nat×EV)
 H:List (Nat×OB)
def cellAt(els:List (List Cv))(i j:Nat):Option Cv:=(els[i]?).bind (·[j]?)
section
variable (w:World) (N:Nat→Prop)
inductive XN:Cv→Value→Prop
 |sc {v:Value} (h:v.oneCell'=true):XN (.sc v) v
 |nil {esz:Nat}:XN (.sl true esz []) (.slice none 0 0)
 |sl {a:Addr} {len cap esz:Nat} {els:List (List Cv)} (us:Nat→Nat→Value) (hl:els.length=len) (hcap:len≤cap) (hz:∀(i:Nat) (es:List Cv),els[i]? =some es→es.length=esz)
   (hc:∀i j c,cellAt els i j=some c→N a.block∧w.cell? (a.add (i*esz+j))=some (us i j)) (hr:∀i j c,cellAt els i j=some c→XN c (us i j)):
   XN (.sl false esz els) (.slice (some a) len cap)
end
theorem XN.mono{w w':World}{N N':Nat→Prop}{c:Cv}{v:Value}(h:XN w N c v)(hN:∀g,N g→N' g)(hc:∀p:Addr,N p.block→w'.cell? p=w.cell? p):XN w' N' c v:=by
 induction h with
 |sc h=>exact .sc h
 |nil=>exact .nil
 |sl us hl hcap hz hcell _ ih=>
  refine .sl us hl hcap hz (fun i j c h=>?_) ih;obtain⟨a,b⟩:=hcell i j c h;refine⟨hN _ a,?_⟩;rw[hc _ (by unfold Addr.add;split<;>exact a)];exact b
theorem XN.one{w:World}{N:Nat→Prop}{c:Cv}{v:Value}(h:XN w N c v):v.oneCell'=true:=by
 cases h<;>first|assumption|rfl
def blk:Value→Option Nat
 | .slice (some a) _ _=>some a.block
 | .pointer (some a)=>some a.block
 | .map r=>r
 |_=>none
abbrev Vl:=Nat→Option Value
def Y5{α β:Type}(R:α→β→Prop)(xs:List α)(ys:List β):Prop:=xs.length=ys.length∧∀(i:Nat) (x:α) (y:β),xs[i]? =some x→ys[i]? =some y→R x y
theorem Y5.nil{α β:Type}{R:α→β→Prop}:Y5 R [] []:=⟨rfl,fun i x y h=>by simp at h⟩
theorem Y5.cons{α β:Type}{R:α→β→Prop}{x:α}{y:β}{xs:List α}{ys:List β}(h:R x y)(t:Y5 R xs ys):Y5 R (x::xs) (y::ys):=by
 refine⟨by simp[t.1],fun i a b ha hb=>?_⟩;cases i with
 |zero=>simp at ha hb;subst ha;subst hb;exact h
 |succ i=>simp at ha hb;exact t.2 i a b ha hb
theorem Y5.mono{α β:Type}{R R':α→β→Prop}(hR:∀x y,R x y→R' x y){xs:List α}{ys:List β}(h:Y5 R xs ys):Y5 R' xs ys:=⟨h.1,fun i x y a b=>hR _ _ (h.2 i x y a b)⟩
theorem Y5.get{α β:Type}{R:α→β→Prop}{xs:List α}{ys:List β}(h:Y5 R xs ys){i:Nat}{x:α}(hx:xs[i]? =some x):∃y,ys[i]? =some y∧R x y:=by
 have hi:i<ys.length:=by rw[←h.1];exact(List.getElem?_eq_some_iff.1 hx).1
 exact⟨ys[i],List.getElem?_eq_getElem hi,h.2 i x _ hx (List.getElem?_eq_getElem hi)⟩
theorem Y5.take{α β:Type}{R:α→β→Prop}{xs:List α}{ys:List β}(h:Y5 R xs ys)(n:Nat):Y5 R (xs.take n) (ys.take n):=by
 refine⟨by simp[h.1],fun i x y a b=>?_⟩;rw[List.getElem?_take]at a b;split at a
 ·rename_i hlt;simp[hlt]at b;exact h.2 i x y a b
 ·cases a
theorem Y5.drop{α β:Type}{R:α→β→Prop}{xs:List α}{ys:List β}(h:Y5 R xs ys)(n:Nat):Y5 R (xs.drop n) (ys.drop n):=by
 refine⟨by simp[h.1],fun i x y a b=>?_⟩;rw[List.getElem?_drop]at a b;exact h.2 _ x y a b
theorem Y5.app{α β:Type}{R:α→β→Prop}{xs xs':List α}{ys ys':List β}(h:Y5 R xs ys)(k:Y5 R xs' ys'):Y5 R (xs++xs') (ys++ys'):=by
 refine⟨by simp[h.1,k.1],fun i x y a b=>?_⟩;rcases Nat.lt_or_ge i xs.length with g|g
 ·rw[List.getElem?_append_left g]at a;rw[List.getElem?_append_left (by rw[←h.1];exact g)]at b;exact h.2 i x y a b
 ·rw[List.getElem?_append_right g]at a;rw[List.getElem?_append_right (by rw[←h.1];exact g),←h.1]at b;exact k.2 _ x y a b
section
variable (w:World) (N:Nat→Prop) (β:Vl)
def Yz:Cx→Value→Prop
 | .c v,u=>XN w N v u
 | .own b,u=>β b=some u∧∃a n c,u= .slice a n c
 | .ptr b off,u=>∃g,β b=some (.pointer (some ⟨g,0,none⟩))∧u= .pointer (some ⟨g,off,none⟩)
 | .map b,u=>∃g,β b=some (.map (some g))∧u= .map (some g)
 | .dead,u=>u.oneCell'=true
inductive X9:EV→Value→Prop
 |one {x:Cx} {u:Value} (h:Yz w N β x u):X9 (.one x) u
 |agg {xs:List Cx} {us:Array Value} (h:Y5 (Yz w N β) xs us.toList):X9 (.agg xs) (.agg us)
 |tup {l:List EV} {us:Array Value} (hl:l.length=us.size) (h:∀(i:Nat) (x:EV) (u:Value),l[i]? =some x→us[i]? =some u→X9 x u):X9 (.tup l) (.tuple us)
 |ep {els:List (List Cv)} {i off len cap:Nat} {a:Addr} {esz:Nat} (hs:XN w N (.sl false esz els) (.slice (some a) len cap)) (hi:i<els.length):
   X9 (.ep esz els i off) (.pointer (some (a.add (i*esz+off))))
 |rp {b i off esz:Nat} {g n c:Nat} (hb:β b=some (.slice (some ⟨g,0,none⟩) n c)):X9 (.rp b esz i off) (.pointer (some ⟨g,i*esz+off,none⟩))
 |any {u:Value}:X9 .any u
def ORel:OB→Value→Prop
 | .box xs,u=>∃g arr t,u= .pointer (some ⟨g,0,none⟩)∧w.heap[g]? =some (.cells arr t (0,0))∧Y5 (Yz w N β) xs arr.toList
 | .row z t esz els,u=>∃cells,w.ownsRow 0 t esz u els.length cells∧(z=true↔u= .slice none 0 0)∧(∀(i:Nat) (es:List Cv),els[i]? =some es→es.length=esz)∧
   ∀i j c,cellAt els i j=some c→∃x,cells[i*esz+j]? =some x∧XN w N c x
 | .map es,u=>∃g arr clock,u= .map (some g)∧w.heap[g]? =some (.map arr clock)∧Y5 (fun(p:Cv×Cv) (e:MapEntry)=>XN w N p.1 e.key∧XN w N p.2 e.val) es arr.toList
end
def refs:Cx→Option Nat
 | .own b| .ptr b _| .map b=>some b
 |_=>none
theorem Yz.mono{w w':World}{N N':Nat→Prop}{β β':Vl}{x:Cx}{u:Value}(h:Yz w N β x u)(hN:∀g,N g→N' g)(hc:∀p:Addr,N p.block→w'.cell? p=w.cell? p)
  (hb:∀b,refs x=some b→β' b=β b):Yz w' N' β' x u:=by
 cases x with
 |c v=>exact XN.mono h hN hc
 |own b=>obtain⟨h,k⟩:=h;exact⟨by rw[hb b rfl];exact h,k⟩
 |ptr b off=>obtain⟨g,h,k⟩:=h;exact⟨g,by rw[hb b rfl];exact h,k⟩
 |map b=>obtain⟨g,h,k⟩:=h;exact⟨g,by rw[hb b rfl];exact h,k⟩
 |dead=>exact h
theorem Yz.one{w:World}{N:Nat→Prop}{β:Vl}{x:Cx}{u:Value}(h:Yz w N β x u):u.oneCell'=true:=by
 cases x with
 |c v=>exact XN.one h
 |own b=>obtain⟨_,a,n,c,rfl⟩:=h;rfl
 |ptr b off=>obtain⟨g,_,rfl⟩:=h;rfl
 |map b=>obtain⟨g,_,rfl⟩:=h;rfl
 |dead=>exact h
def X6(M:Nat→Prop)(w:World)(β:Vl)(g:Nat):Prop:=(g<w.heap.size∧M g)∧∀b u,β b=some u→blk u≠some g
inductive X1:EV→Nat→Prop
 |one {x:Cx} {b:Nat} (h:refs x=some b):X1 (.one x) b
 |agg {xs:List Cx} {x:Cx} {b:Nat} (hx:x∈xs) (h:refs x=some b):X1 (.agg xs) b
 |tup {l:List EV} {x:EV} {b:Nat} (hx:x∈l) (h:X1 x b):X1 (.tup l) b
 |rp {b esz i off:Nat}:X1 (.rp b esz i off) b
theorem X9.mono{w w':World}{N N':Nat→Prop}{β β':Vl}{v:EV}{u:Value}(h:X9 w N β v u)(hN:∀g,N g→N' g)(hc:∀p:Addr,N p.block→w'.cell? p=w.cell? p)
  (hb:∀b,X1 v b→β' b=β b):X9 w' N' β' v u:=by
 induction h with
 |one h=>exact .one (h.mono hN hc fun b hr=>hb b (.one hr))
 |agg h=>exact .agg ⟨h.1,fun i x y a c=>(h.2 i x y a c).mono hN hc fun b hr=>hb b (.agg (List.mem_of_getElem? a) hr)⟩
 |tup hl _ ih=>exact .tup hl fun i x u a c=>ih i x u a c fun b hr=>hb b (.tup (List.mem_of_getElem? a) hr)
 |ep hs hi=>exact .ep (hs.mono hN hc) hi
 |rp h=>exact .rp (by rw[hb _ .rp];exact h)
 |any=>exact .any
structure Xwb(st:St):Prop where
 env:∀t v b,look st.env t=some v→X1 v b→look st.H b≠none
 obj:∀k xs x b,look st.H k=some (.box xs)→x∈xs→refs x=some b→look st.H b≠none
structure Fr(base:Nat)(E:Nat→Prop)(w0 w:World):Prop where
 os:w.os=w0.os
 tape:w.tape=w0.tape
 output:w.output=w0.output
 size:w0.heap.size≤w.heap.size
 block:∀k,k<base→¬E k→w.heap[k]? =w0.heap[k]?
theorem Fr.refl(base:Nat)(E:Nat→Prop)(w:World):Fr base E w w:=⟨rfl,rfl,rfl,Nat.le_refl _,fun _ _ _=>rfl⟩
theorem Fr.trans{base:Nat}{E:Nat→Prop}{a b c:World}(h:Fr base E a b)(k:Fr base E b c):Fr base E a c:=
 ⟨k.os.trans h.os,k.tape.trans h.tape,k.output.trans h.output,Nat.le_trans h.size k.size,fun i hi he=>(k.block i hi he).trans (h.block i hi he)⟩
theorem Fr.below{base:Nat}{w0 w:World}(h:Fr base (fun _=>False) w0 w):Below base w0 w:=⟨h.os,h.tape,h.output,h.size,fun k hk=>h.block k hk id⟩
theorem Fr.of_below{base:Nat}{E:Nat→Prop}{w0 w:World}(h:Below base w0 w):Fr base E w0 w:=⟨h.os,h.tape,h.output,h.size,fun k hk _=>h.block k hk⟩
structure Rel(base:Nat)(E M:Nat→Prop)(w0:World)(β:Vl)(st:St)(tm:Array Value)(w:World):Prop where
 fr:Fr base E w0 w
 le:base≤w.heap.size
 env:∀t v,look st.env t=some v→∃u,tm[t]? =some u∧X9 w (X6 M w β) β v u
 obj:∀b ob,look st.H b=some ob→∃u,β b=some u∧ORel w (X6 M w β) β ob u
 at_:∀b u g,β b=some u→blk u=some g→(base≤g∨E g)∧g<w.heap.size
 inj:∀b b' u u' g,β b=some u→β b'=some u'→blk u=some g→blk u'=some g→b=b'
 dom:∀b u,β b=some u→look st.H b≠none
 cl:Xwb st
 may:∀g,base≤g∨E g→M g
end
section
structure Ty where
 desc:TypeDesc
 size:Nat
 bytes:Nat
 zero:List Cv
 agg:Bool
 eq:Bool
def Yeh:TypeDesc→Bool
 | .struct _| .array _ _=>true
 |_=>false
structure Ydy(P:Program)(t:TypeId)(T:Ty):Prop where
 und:P.underlying t=some T.desc
 agg:T.agg=Yeh T.desc
 info:∃info z,P.info? t=some info∧info.size=T.size∧info.bytes=T.bytes∧info.zero=some z∧(∀w N,Y5 (XN w N) T.zero z.cells.toList)∧T.zero.length=T.size∧(T.agg=true→∃cs,z= .agg cs)∧(T.agg=false→z.oneCell'=true)
 eq:T.eq=true→P.stoodInHeld t=false∧P.eqGuardType P.depth t=false
def Vk(P:Program)(ty:TypeId→Option Ty):Prop:=∀t T,ty t=some T→Ydy P t T
section
variable {P:Program} {t:TypeId} {T:Ty} (h:Ydy P t T) (w:World)
include h
theorem Ydy.underlying:(underlying t).run P w= .ok T.desc w:=by simp[Go.underlying,h.und]
theorem Ydy.sizeOf:(sizeOf t).run P w= .ok T.size w:=by
 obtain⟨info,z,a,b,_⟩:=h.info;simp[Go.sizeOf,Go.typeInfo,a,b]
theorem Ydy.isAgg:(isAgg t).run P w= .ok T.agg w:=by
 simp only[Go.isAgg,Sem.run_bind,h.underlying,Result.andThen_ok,h.agg];unfold Yeh;split<;>simp_all
end
def cEV:Value→Option EV
 | .slice none 0 0=>some (.one (.c (.sl true 0 [])))
 | .agg _=>none
 | .tuple _=>none
 |v=>if v.oneCell'=true then some (.one (.c (.sc v)))else none
def evO(st:St):Operand→Option EV
 | .tmp t=>look st.env t
 | .const v=>cEV v
 | .func f=>some (.one (.c (.sc (.func (.func f) #[] #[]))))
 | .global _=>none
abbrev iv(k:IntKind)(n:Int):EV:= .one (.c (.sc (.int k n)))
abbrev bv(b:Bool):EV:= .one (.c (.sc (.bool b)))
section
variable {P:Program} {base:Nat} {E M:Nat→Prop} {w0 w:World} {β:Vl} {st:St} {a:Act}
theorem evO_ok(R:Rel base E M w0 β st a.tmps w){x:Operand}{v:EV}(h:evO st x=some v):X9 w (X6 M w β) β v (a.eval x)∧∀b,X1 v b→look st.H b≠none:=by
 cases x with
 |tmp t=>
  obtain⟨u,hu,hr⟩:=R.env t v h;refine⟨?_,fun b hb=>R.cl.env t v b h hb⟩;simp only[Act.eval,Array.getD_eq_getD_getElem?,hu];exact hr
 |const c=>
  simp only[evO]at h;unfold cEV at h;split at h
  ·injection h with h;subst h;exact⟨.one .nil,fun b hb=>by cases hb with|one h=>cases h⟩
  ·cases h
  ·cases h
  ·split at h
   ·rename_i ho;injection h with h;subst h;exact⟨.one (.sc ho),fun b hb=>by cases hb with|one h=>cases h⟩
   ·cases h
 |func f=>
  simp only[evO]at h;injection h with h;subst h;exact⟨.one (.sc rfl),fun b hb=>by cases hb with|one h=>cases h⟩
 |global g=>cases h
def VOk(P:Program)(st:St)(o:Oper)(v:EV):Prop:=
 ∀{base:Nat} {E M:Nat→Prop} {w0 w:World} {β:Vl} {a:Act},Rel base E M w0 β st a.tmps w→
  ∃u,(execOp a.eval o).run P w= .ok (.value u) w∧X9 w (X6 M w β) β v u∧∀b,X1 v b→look st.H b≠none
theorem no_refs{c:Cv}{b:Nat}(h:X1 (.one (.c c)) b):False:=by cases h with|one h=>cases h
theorem X9.int{N:Nat→Prop}{k:IntKind}{n:Int}{u:Value}(h:X9 w N β (iv k n) u):u= .int k n:=by
 cases h with|one h=>cases h with|sc h=>rfl
theorem X9.bool{N:Nat→Prop}{b:Bool}{u:Value}(h:X9 w N β (bv b) u):u= .bool b:=by
 cases h with|one h=>cases h with|sc h=>rfl
theorem X9.sc{N:Nat→Prop}{v u:Value}(h:X9 w N β (.one (.c (.sc v))) u):u=v:=by
 cases h with|one h=>cases h with|sc h=>rfl
def Xhp(op:BinOp)(k:IntKind)(x y:Int):Option (Prop×Value):=
 match op with
 | .add=>some (True, .int k (k.wrap (x+y)))
 | .sub=>some (True, .int k (k.wrap (x - y)))
 | .mul=>some (True, .int k (k.wrap (x*y)))
 | .quo=>some (y≠0, .int k (k.wrap (x.tdiv y)))
 | .rem=>some (y≠0, .int k (x.tmod y))
 | .eql=>some (True, .bool (decide (x=y)))
 | .neq=>some (True, .bool (!decide (x=y)))
 | .lss=>some (True, .bool (decide (x<y)))
 | .leq=>some (True, .bool (decide (x≤y)))
 | .gtr=>some (True, .bool (decide (y<x)))
 | .geq=>some (True, .bool (decide (y≤x)))
 |_=>none
theorem Xw8{op:BinOp}{k:IntKind}{x y:Int}{p:Prop}{v:Value}(h:Xhp op k x y=some (p,v))(hp:p)(t:TypeId)(w:World):
  (binOp op t (.int k x) (.int k y)).run P w= .ok v w∧v.oneCell'=true:=by
 unfold Xhp at h;split at h<;>first
  |cases h;done
  |(simp only[Option.some.injEq,Prod.mk.injEq]at h
    obtain⟨rfl,rfl⟩:=h;refine⟨?_,rfl⟩
    first
     |(simp[binOp,Op.intArith];done)
     |(simp[binOp,Op.intDiv,hp];done)
     |(simp[binOp,Op.intCmp];done)
     |(simp[binOp,Op.intCmp];rfl))
def shI(op:BinOp)(k:IntKind)(x y:Int):Option (Prop×Value):=
 match op with
 | .shl=>some (0≤y, .int k (k.wrap (x*2^min y.toNat k.bits)))
 | .shr=>some (0≤y, .int k (x / 2^min y.toNat k.bits))
 |_=>none
theorem Ybc{op:BinOp}{k k':IntKind}{x y:Int}{p:Prop}{v:Value}(h:shI op k x y=some (p,v))(hp:p)(t:TypeId)(w:World):
  (binOp op t (.int k x) (.int k' y)).run P w= .ok v w∧v.oneCell'=true:=by
 unfold shI at h;split at h
 ·simp only[Option.some.injEq,Prod.mk.injEq]at h;obtain⟨rfl,rfl⟩:=h;exact⟨by rw[binOp_shl,shift_shl_any _ _ _ _ hp];rfl,rfl⟩
 ·simp only[Option.some.injEq,Prod.mk.injEq]at h;obtain⟨rfl,rfl⟩:=h;exact⟨by rw[binOp_shr,shift_shr_any _ _ _ _ hp];rfl,rfl⟩
 ·cases h
def Xho(op:BinOp)(k:IntKind)(x y:Int):Option Int:=
 match op with
 | .and=>some (k.wrap (BitVec.ofInt k.bits x&&& BitVec.ofInt k.bits y).toNat)
 | .or=>some (k.wrap (BitVec.ofInt k.bits x|||BitVec.ofInt k.bits y).toNat)
 | .xor=>some (k.wrap (BitVec.ofInt k.bits x^^^BitVec.ofInt k.bits y).toNat)
 | .andNot=>some (k.wrap (BitVec.ofInt k.bits x&&& ~~~BitVec.ofInt k.bits y).toNat)
 |_=>none
theorem Xw7{op:BinOp}{k:IntKind}{x y r:Int}(h:Xho op k x y=some r)(t:TypeId)(w:World):
  (binOp op t (.int k x) (.int k y)).run P w= .ok (.int k r) w:=by
 unfold Xho at h;split at h<;>first
  |cases h;done
  |(injection h with h;subst h;simp[binOp,Op.intBits])
def Yee(ty:TypeId→Option Ty):List Field→Option (List (Nat×Nat))
 |[]=>some []
 |f::r=>if f.name= "_" then Yee ty r else
  match ty f.type,Yee ty r with
  |some T,some l=>(match T.desc with
   | .int _=>some ((f.offset,0)::l)
   | .bool=>some ((f.offset,1)::l)
   | .string=>some ((f.offset,2)::l)
   |_=>none)
  |_,_=>none
def eqC:Nat→Value→Value→Option Bool
 |0, .int k a, .int k' b=>if k=k' then some (a==b)else none
 |1, .bool a, .bool b=>some (a==b)
 |2, .string a, .string b=>some (a.toList==b.toList)
 |_,_,_=>none
def Xd5(xs ys:List Cx):List (Nat×Nat)→Option Bool
 |[]=>some true
 |(o,k)::r=>match xs[o]?,ys[o]? with
  |some (.c (.sc u)),some (.c (.sc v))=>(match eqC k u v,Xd5 xs ys r with
   |some b,some c=>some (b&&c)
   |_,_=>none)
  |_,_=>none
def eqE(ty:TypeId→Option Ty)(t:TypeId)(xs ys:List Cx):Option Bool:=
 match ty t with
 |some T=>if T.eq=true then(match(match T.desc with| .struct fs=>Yee ty fs.toList|_=>none)with|some l=>Xd5 xs ys l|none=>none)else none
 |none=>none
theorem Xiw{T:Ty}{t:TypeId}(I:Ydy P t T)(ha:T.agg=false){us:Array Value}{o:Nat}{v:Value}(h:us[o]? =some v)(w:World):(part t us o).run P w= .ok v w:=by
 simp only[part,Sem.run_bind,I.isAgg,ha,Result.andThen_ok,Bool.false_eq_true,if_false,h,Sem.run_pure]
theorem Ycw{ty:TypeId→Option Ty}(C:Vk P ty){N:Nat→Prop}{xs ys:List Cx}{us vs:Array Value}(hx:Y5 (Yz w N β) xs us.toList)(hy:Y5 (Yz w N β) ys vs.toList)(d:Nat):
  ∀(fs:List Field) (l:List (Nat×Nat)) (r:Bool),Yee ty fs=some l→Xd5 xs ys l=some r→(Op.eqFields (d+1) us vs fs).run P w= .ok r w:=by
 have cell:∀{xs:List Cx} {us:Array Value} {o:Nat} {v:Value},Y5 (Yz w N β) xs us.toList→xs[o]? =some (.c (.sc v))→us[o]? =some v:=by
  intro xs us o v h hv;obtain⟨u,hu,hr⟩:=h.get hv;have hr':XN w N (.sc v) u:=hr;cases hr';simpa using hu
 intro fs
 induction fs with
 |nil=>intro l r h1 h2;injection h1 with h1;subst h1;injection h2 with h2;subst h2;simp[Op.eqFields]
 |cons f fs ih=>
  intro l r h1 h2;simp only[Yee]at h1;split at h1
  ·rename_i hn;simp only[Op.eqFields,hn,ne_eq,not_true_eq_false,if_false];exact ih l r h1 h2
  ·rename_i hn;split at h1
   ·rename_i T l' hT hl';have I:=C _ _ hT;have step:∀k,l=(f.offset,k)::l'→(∀u v b,eqC k u v=some b→(Op.equalIn (d+1) f.type u v).run P w= .ok b w)→T.agg=false→(Op.eqFields (d+1) us vs (f::fs)).run P w= .ok r w:=by
     intro k hl hk ha;subst hl;simp only[Xd5]at h2;split at h2
     ·rename_i u v hu hv;split at h2
      ·rename_i b c hb hc;injection h2 with h2;subst h2;have e1:=Xiw I ha (cell hx hu) w;have e2:=Xiw I ha (cell hy hv) w;simp only[Op.eqFields,ne_eq,hn,not_false_eq_true,if_true,Sem.run_bind,e1,e2,Result.andThen_ok,hk u v b hb];cases b with
       |false=>simp
       |true=>simpa using ih l' c hl' hc
      ·cases h2
     ·cases h2
    split at h1
    ·rename_i k hd;injection h1 with h1;refine step 0 h1.symm (fun u v b hb=>?_) (by rw[I.agg,hd];rfl);have hu:=I.und;rw[hd]at hu;unfold eqC at hb;split at hb<;>first|cases ‹(0:Nat)=_› |skip
     ·split at hb
      ·rename_i hk;subst hk;injection hb with hb;subst hb;exact run_equalIn_int w d _ _ _ _ _ hu
      ·cases hb
     ·cases hb
    ·rename_i hd;injection h1 with h1;refine step 1 h1.symm (fun u v b hb=>?_) (by rw[I.agg,hd];rfl);have hu:=I.und;rw[hd]at hu;unfold eqC at hb;split at hb<;>first|cases ‹(1:Nat)=_› |skip
     ·injection hb with hb;subst hb;exact run_equalIn_bool' w d _ _ _ hu
     ·cases hb
    ·rename_i hd;injection h1 with h1;refine step 2 h1.symm (fun u v b hb=>?_) (by rw[I.agg,hd];rfl);have hu:=I.und;rw[hd]at hu;unfold eqC at hb;split at hb<;>first|cases ‹(2:Nat)=_› |skip
     ·injection hb with hb;subst hb;exact run_equalIn_string w d _ _ _ hu
     ·cases hb
    ·cases h1
   ·cases h1
theorem Yam{ty:TypeId→Option Ty}(C:Vk P ty){N:Nat→Prop}{t:TypeId}{xs ys:List Cx}{r:Bool}(h:eqE ty t xs ys=some r){us vs:Array Value}(hx:Y5 (Yz w N β) xs us.toList)(hy:Y5 (Yz w N β) ys vs.toList):
  P.eqGuardType P.depth t=false∧(Op.equalIn 10000 t (.agg us) (.agg vs)).run P w= .ok r w:=by
 unfold eqE at h;split at h
 ·rename_i T hT;have I:=C t T hT;split at h
  ·rename_i he;obtain⟨h1,h2⟩:=I.eq he;refine⟨h2,?_⟩;split at h
   ·rename_i l hl;split at hl
    ·rename_i fs hd;have hu:=I.und;rw[hd]at hu;have hf:P.fieldsOf t=fs:=by simp[Program.fieldsOf,hu]
     have:=run_equalIn_agg (P:=P) w 9999 t us vs (by rw[hf];exact hu) h1;rw[this,hf];exact Ycw C hx hy 9998 fs.toList l r hl h
    ·cases hl
   ·cases h
  ·cases h
 ·cases h
def Xhq(ty:TypeId→Option Ty)(op:BinOp)(t:TypeId)(x y:EV):Option (Prop×EV):=
 match x,y with
 | .one (.c (.sc (.int k a))), .one (.c (.sc (.int k' b)))=>
  match shI op k a b with
  |some (p,v)=>some (p, .one (.c (.sc v)))
  |none=>
   if k=k' then
    match Xho op k a b with
    |some r=>some (True,iv k r)
    |none=>match Xhp op k a b with
     |some (p,v)=>some (p, .one (.c (.sc v)))
     |none=>none
   else none
 | .one (.c (.sc (.bool a))), .one (.c (.sc (.bool b)))=>
  match ty t with
  |some T=>match T.desc,op with
   | .bool, .eql=>some (True,bv (a==b))
   | .bool, .neq=>some (True,bv (!(a==b)))
   |_,_=>none
  |none=>none
 | .one (.c (.sc (.string a))), .one (.c (.sc (.string b)))=>
  match op with
  | .eql=>some (True,bv (a.toList==b.toList))
  | .neq=>some (True,bv (!(a.toList==b.toList)))
  |_=>none
 | .one (.c (.sl z _ _)), .one (.c (.sl true _ []))=>
  match ty t with
  |some T=>match T.desc,op with
   | .slice _, .eql=>some (True,bv z)
   | .slice _, .neq=>some (True,bv (!z))
   |_,_=>none
  |none=>none
 | .agg xs, .agg ys=>
  match op with
  | .eql=>(match eqE ty t xs ys with|some b=>some (True,bv b)|none=>none)
  | .neq=>(match eqE ty t xs ys with|some b=>some (True,bv (!b))|none=>none)
  |_=>none
 |_,_=>none
theorem Ydn{ty:TypeId→Option Ty}(C:Vk P ty){op:BinOp}{t:TypeId}{x y v:EV}{p:Prop}(h:Xhq ty op t x y=some (p,v))(hp:p){N:Nat→Prop}{u u':Value}(hx:X9 w N β x u)(hy:X9 w N β y u')(xo yo:Operand):
  ∃r,((do eqGuard op t xo yo u u';binOp op t u u':Sem Value)).run P w= .ok r w∧X9 w N β v r∧∀b,¬X1 v b:=by
 unfold Xhq at h;split at h
 ·rename_i k a k' b;rw[hx.int,hy.int];have hg:eqGuard op t xo yo (.int k a) (.int k' b)=pure ():=eqGuard_at_int ..;split at h
  ·rename_i p' v' hs;simp only[Option.some.injEq,Prod.mk.injEq]at h;obtain⟨rfl,rfl⟩:=h;obtain⟨h1,h2⟩:=Ybc (P:=P) (k':=k') hs hp t w;exact⟨v',by simp[hg,h1], .one (.sc h2),fun b hb=>no_refs hb⟩
  ·split at h
   ·rename_i hk;subst hk;split at h
    ·rename_i r hb;simp only[Option.some.injEq,Prod.mk.injEq]at h;obtain⟨rfl,rfl⟩:=h;exact⟨_,by simp[hg,Xw7 hb t w], .one (.sc rfl),fun b hb=>no_refs hb⟩
    ·split at h
     ·rename_i p' v' hs;simp only[Option.some.injEq,Prod.mk.injEq]at h;obtain⟨rfl,rfl⟩:=h;obtain⟨h1,h2⟩:=Xw8 (P:=P) hs hp t w;exact⟨v',by simp[hg,h1], .one (.sc h2),fun b hb=>no_refs hb⟩
     ·cases h
   ·cases h
 ·rename_i a b;rw[hx.bool,hy.bool];have hg:eqGuard op t xo yo (.bool a) (.bool b)=pure ():=eqGuard_at_bool ..;split at h
  ·rename_i T hT;split at h
   ·rename_i hd;simp only[Option.some.injEq,Prod.mk.injEq]at h;obtain⟨rfl,rfl⟩:=h;exact⟨_,by simp[hg,run_eql_bool (w:=w) t a b (by rw[(C t T hT).und,hd])], .one (.sc rfl),fun b hb=>no_refs hb⟩
   ·rename_i hd;simp only[Option.some.injEq,Prod.mk.injEq]at h;obtain⟨rfl,rfl⟩:=h;exact⟨_,by simp[hg,run_neq_bool (w:=w) t a b (by rw[(C t T hT).und,hd])], .one (.sc rfl),fun b hb=>no_refs hb⟩
   ·cases h
  ·cases h
 ·rename_i a b;rw[hx.sc,hy.sc];have hg:eqGuard op t xo yo (.string a) (.string b)=pure ():=eqGuard_at_string ..;split at h
  ·simp only[Option.some.injEq,Prod.mk.injEq]at h;obtain⟨rfl,rfl⟩:=h;exact⟨_,by simp[hg,binOp_string_eql], .one (.sc rfl),fun b hb=>no_refs hb⟩
  ·simp only[Option.some.injEq,Prod.mk.injEq]at h;obtain⟨rfl,rfl⟩:=h;exact⟨_,by simp[hg,binOp_string_neq], .one (.sc rfl),fun b hb=>no_refs hb⟩
  ·cases h
 ·rename_i z e1 l1 e2;have hy':u'= .slice none 0 0:=by cases hy with|one hy=>cases hy with|nil=>rfl
  subst hy';obtain⟨a,n',c',rfl,ha⟩:∃a n' c',u= .slice a n' c'∧a.isNone=z:=by
   cases hx with|one hx=>
   cases hx with
   |nil=>exact⟨_,_,_,rfl,rfl⟩
   |sl=>exact⟨_,_,_,rfl,rfl⟩
  have hg:eqGuard op t xo yo (.slice a n' c') (.slice none 0 0)=pure ():=by cases op<;>rfl
  split at h
  ·rename_i T hT;split at h
   ·rename_i el hd;simp only[Option.some.injEq,Prod.mk.injEq]at h;obtain⟨rfl,rfl⟩:=h;have hu:=(C t T hT).und;rw[hd]at hu;exact⟨.bool z,by simp only[hg,Sem.run_bind,Sem.run_pure,Result.andThen_ok];rw[Lib.run_eql_slice_nil w t el a n' c' 0 0 hu,ha], .one (.sc rfl),fun b hb=>no_refs hb⟩
   ·rename_i el hd;simp only[Option.some.injEq,Prod.mk.injEq]at h;obtain⟨rfl,rfl⟩:=h;have hu:=(C t T hT).und;rw[hd]at hu;exact⟨.bool (!z),by simp only[hg,Sem.run_bind,Sem.run_pure,Result.andThen_ok];subst ha;simp only[binOp];simp[Op.equal,Op.maxDepth,Lib.run_equalIn_slice_nil w 9999 t el a n' c' 0 0 hu], .one (.sc rfl),fun b hb=>no_refs hb⟩
   ·cases h
  ·cases h
 ·rename_i xs ys;cases hx with| @agg _ us hx=>
  cases hy with| @agg _ vs hy=>
  split at h
  ·split at h
   ·rename_i b hb;simp only[Option.some.injEq,Prod.mk.injEq]at h;obtain⟨rfl,rfl⟩:=h;obtain⟨g1,g2⟩:=Yam C hb hx hy;refine⟨.bool b,?_, .one (.sc rfl),fun b hb=>no_refs hb⟩;simp only[Sem.run_bind,run_eqGuard_agg w _ t xo yo us vs g1,Result.andThen_ok,run_eql_struct,g2]
   ·cases h
  ·split at h
   ·rename_i b hb;simp only[Option.some.injEq,Prod.mk.injEq]at h;obtain⟨rfl,rfl⟩:=h;obtain⟨g1,g2⟩:=Yam C hb hx hy;refine⟨.bool (!b),?_, .one (.sc rfl),fun b hb=>no_refs hb⟩;simp only[Sem.run_bind,run_eqGuard_agg w _ t xo yo us vs g1,Result.andThen_ok,run_neq_struct,g2]
   ·cases h
  ·cases h
 ·cases h
end
end
section
section
variable {P:Program} {base:Nat} {E M:Nat→Prop} {w0 w:World} {β:Vl} {st:St} {a:Act} {N:Nat→Prop}
theorem add_block(a:Addr)(n:Nat):(a.add n).block=a.block:=by unfold Addr.add;split<;>rfl
theorem add_add'(a:Addr)(i j:Nat):(a.add i).add j=a.add (i+j):=by
 unfold Addr.add;by_cases hi:i=0<;>by_cases hj:j=0<;>simp[hi,hj,Nat.add_assoc]
theorem Xwg(b o j:Nat):(⟨b,o,none⟩:Addr).add j=⟨b,o+j,none⟩:=by
 unfold Addr.add;split
 ·rename_i h;subst h;rfl
 ·rfl
theorem Xil{a:Addr}:∀(us:List Value) (i:Nat) (acc:Array Value),(∀j u,us[j]? =some u→w.cell? (a.add (i+j))=some u)→
  (loadCellsFrom a i us.length acc).run P w= .ok (acc++us.toArray) w
 |[],i,acc,_=>by simp[loadCellsFrom]
 |u::us,i,acc,h=>by
  simp only[List.length_cons,loadCellsFrom,Sem.run_bind];have h0:=h 0 u rfl;rw[Nat.add_zero]at h0;rw[run_load,h0];simp only[Result.andThen_ok];have:=Xil us (i+1) (acc.push u) (fun j v hv=>by
   have:=h (j+1) v (by simpa using hv);rw[show i+1+j=i+(j+1) by omega];exact this)
  rw[this];simp
theorem Zl{ty:TypeId→Option Ty}(C:Vk P ty){t:TypeId}{T:Ty}(hT:ty t=some T){a:Addr}{us:List Value}(hl:us.length=T.size)(h:∀j u,us[j]? =some u→w.cell? (a.add j)=some u)(h1:T.agg=false→T.size=1):
  (loadVar t a).run P w= .ok (if T.agg=true then .agg us.toArray else us.getD 0 undef) w:=by
 have I:=C t T hT;cases hg:T.agg with
 |true=>
  have:=Xil (P:=P) (w:=w) (a:=a) us 0 #[] (fun j u hu=>by rw[Nat.zero_add];exact h j u hu);rw[hl]at this;simp[loadVar,I.isAgg,hg,I.sizeOf,loadCells,this]
 |false=>
  have h1:=h1 hg;obtain⟨u,rfl⟩:∃u,us=[u]:=by
   match us,hl with
   |[u],_=>exact⟨u,rfl⟩
   |[],hl=>simp at hl;omega
   |_::_::_,hl=>simp at hl;omega
  have:=h 0 u rfl;simp[loadVar,I.isAgg,hg,run_load,Addr.add]at this⊢;rw[this]
def YJ(T:Ty)(xs:List Cx):Option (Prop×EV):=
 if T.agg=true then some (xs.length=T.size, .agg xs)else some (T.size=1∧xs.length=1, .one (xs.getD 0 .dead))
theorem HK{T:Ty}{xs:List Cx}{p:Prop}{v:EV}(h:YJ T xs=some (p,v))(hp:p){us:List Value}(hx:Y5 (Yz w N β) xs us):
  us.length=T.size∧(T.agg=false→T.size=1)∧X9 w N β v (if T.agg=true then .agg us.toArray else us.getD 0 undef)∧∀b,X1 v b→∃x∈xs,refs x=some b:=by
 unfold YJ at h;split at h
 ·rename_i ha;simp only[Option.some.injEq,Prod.mk.injEq]at h;obtain⟨rfl,rfl⟩:=h;refine⟨by rw[←hx.1];exact hp,fun g=>(by rw[ha]at g;cases g),by rw[if_pos ha];exact .agg (by simpa using hx),fun b hb=>?_⟩;cases hb with|agg h1 h2=>exact⟨_,h1,h2⟩
 ·rename_i ha;simp only[Option.some.injEq,Prod.mk.injEq]at h;obtain⟨rfl,rfl⟩:=h;obtain⟨p1,p2⟩:=hp
  match xs,p2,hx with
  |[x],_,hx=>
   match us,hx with
   |[u],hx=>
    refine⟨by simp[p1],fun _=>p1,?_,fun b hb=>?_⟩
    ·rw[if_neg ha];exact .one (hx.2 0 x u rfl rfl)
    ·cases hb with|one h=>exact⟨x,by simp,h⟩
   |[],hx=>have:=hx.1;simp at this
   |_::_::_,hx=>have:=hx.1;simp at this
def Je(ty:TypeId→Option Ty)(st:St)(t:TypeId)(x:EV):Option (Prop×EV):=
 match ty t with
 |none=>none
 |some T=>
  match x with
  | .one (.ptr b off)=>(match look st.H b with|some (.box xs)=>YJ T ((xs.drop off).take T.size)|_=>none)
  | .ep esz els i off=>(match YJ T ((((els.getD i []).drop off).take T.size).map Cx.c)with|some (p,v)=>some (off+T.size≤esz∧p,v)|none=>none)
  | .rp b esz i off=>(match look st.H b with
   |some (.row _ _ esz' els)=>(match YJ T ((((els.getD i []).drop off).take T.size).map Cx.c)with|some (p,v)=>some ((esz'=esz∧i<els.length∧off+T.size≤esz)∧p,v)|none=>none)
   |_=>none)
  |_=>none
theorem Yap(R:Rel base E M w0 β st a.tmps w){b:Nat}{xs:List Cx}(hb:look st.H b=some (.box xs)){g:Nat}(hg:β b=some (.pointer (some ⟨g,0,none⟩))):
  ∃arr t,w.heap[g]? =some (.cells arr t (0,0))∧Y5 (Yz w (X6 M w β) β) xs arr.toList:=by
 obtain⟨u,hu,g',arr,t,rfl,h1,h2⟩:=R.obj b _ hb;rw[hg]at hu;injection hu with hu;injection hu with hu;injection hu with hu;injection hu with hu;subst hu;exact⟨arr,t,h1,h2⟩
theorem Xj4{g o:Nat}{arr:Array Value}{t:TypeId}{fr:Nat×Nat}(h:w.heap[g]? =some (.cells arr t fr)):w.cell? ⟨g,o,none⟩=arr[o]?:=by
 simp[World.cell?,h]
theorem Xe1{xs:List Cx}{arr:Array Value}(h:Y5 (Yz w N β) xs arr.toList)(off n:Nat):Y5 (Yz w N β) ((xs.drop off).take n) ((arr.toList.drop off).take n):=(h.drop off).take n
theorem Xy0{esz:Nat}{els:List (List Cv)}{a:Addr}{len cap i:Nat}(hs:XN w N (.sl false esz els) (.slice (some a) len cap))(hi:i<els.length):
  (els.getD i []).length=esz∧∃us:List Value,Y5 (XN w N) (els.getD i []) us∧(∀j u,us[j]? =some u→w.cell? (a.add (i*esz+j))=some u):=by
 cases hs with
 |sl us hl hcap hz hc hr=>
  have he:els[i]? =some (els.getD i []):=by rw[List.getD_eq_getElem?_getD,List.getElem?_eq_getElem hi];rfl
  refine⟨hz i _ he,(List.range esz).map (us i),⟨by rw[hz i _ he];simp,fun j x y hx hy=>?_⟩,fun j u hu=>?_⟩
  ·have hj:=(List.getElem?_eq_some_iff.1 hx).1;rw[hz i _ he]at hj;simp[hj]at hy;subst hy;exact hr i j x (by unfold cellAt;rw[he];exact hx)
  ·have hj:=(List.getElem?_eq_some_iff.1 hu).1;simp at hj;simp[hj]at hu;subst hu;have hj':j<(els.getD i []).length:=by rw[hz i _ he];exact hj
   exact(hc i j _ (by unfold cellAt;rw[he];exact List.getElem?_eq_getElem hj')).2
theorem Y5.map_c{xs:List Cv}{us:List Value}(h:Y5 (XN w N) xs us):Y5 (Yz w N β) (xs.map Cx.c) us:=by
 refine⟨by simp[h.1],fun i x y hx hy=>?_⟩;rw[List.getElem?_map]at hx;cases hq:xs[i]? with
 |none=>rw[hq]at hx;cases hx
 |some c=>
  rw[hq]at hx;simp at hx;subst hx;exact h.2 i c y hq hy
theorem HN{xs:List Cv}{x:Cx}{b:Nat}(hx:x∈xs.map Cx.c)(hr:refs x=some b):False:=by
 obtain⟨c,_,rfl⟩:=List.mem_map.1 hx;cases hr
theorem Ye5(R:Rel base E M w0 β st a.tmps w){b:Nat}{z:Bool}{t:TypeId}{esz:Nat}{els:List (List Cv)}(hb:look st.H b=some (.row z t esz els)){g n c:Nat}(hg:β b=some (.slice (some ⟨g,0,none⟩) n c)){i:Nat}(hi:i<els.length):
  (els.getD i []).length=esz∧∃us:List Value,Y5 (XN w (X6 M w β)) (els.getD i []) us∧(∀j u,us[j]? =some u→w.cell? ⟨g,i*esz+j,none⟩=some u):=by
 obtain⟨u,hu,cells,h1,h2,h3,h4⟩:=R.obj b _ hb;rw[hg]at hu;injection hu with hu;subst hu;have he:els[i]? =some (els.getD i []):=by rw[List.getD_eq_getElem?_getD,List.getElem?_eq_getElem hi];rfl
 refine⟨h3 i _ he,(List.range esz).map fun j=>cells.getD (i*esz+j) undef,⟨by rw[h3 i _ he];simp,fun j x y hx hy=>?_⟩,fun j u hu=>?_⟩
 ·have hj:=(List.getElem?_eq_some_iff.1 hx).1;rw[h3 i _ he]at hj;simp[hj]at hy;obtain⟨q,hq,hr⟩:=h4 i j x (by unfold cellAt;rw[he];exact hx);rw[hq]at hy;simp at hy;subst hy;exact hr
 ·have hj:=(List.getElem?_eq_some_iff.1 hu).1;simp at hj;simp[hj]at hu;have hj':j<(els.getD i []).length:=by rw[h3 i _ he];exact hj
  obtain⟨q,hq,hr⟩:=h4 i j _ (by unfold cellAt;rw[he];exact List.getElem?_eq_getElem hj');rw[hq]at hu;simp at hu;subst hu;have:=h1.cells (g:=g) rfl _ _ hq
  rwa[Xwg,Nat.zero_add]at this
theorem Xnx{ty:TypeId→Option Ty}(C:Vk P ty)(R:Rel base E M w0 β st a.tmps w){t:TypeId}{x v:EV}{p:Prop}(h:Je ty st t x=some (p,v))(hp:p){u:Value}(hx:X9 w (X6 M w β) β x u):
  ∃r,(Instr.loadAt t u).run P w= .ok r w∧X9 w (X6 M w β) β v r∧∀b,X1 v b→look st.H b≠none:=by
 unfold Je at h;split at h
 ·cases h
 rename_i T hT;split at h
 ·rename_i b off;split at h
  ·rename_i xs hb;cases hx with|one hx=>
   obtain⟨g,hg,rfl⟩:=hx;obtain⟨arr,t',ha,hr⟩:=Yap R hb hg;obtain⟨h1,h2,h3,h4⟩:=HK h hp (Xe1 hr off T.size);refine⟨_,?_,h3,fun b' hb'=>?_⟩
   ·simp only[Instr.loadAt,Instr.sureAddr,Sem.run_bind,Sem.run_pure,Result.andThen_ok];refine Zl C hT h1 (fun j u hu=>?_) h2;rw[Xwg,Xj4 ha];rw[List.getElem?_take]at hu;split at hu
    ·rw[List.getElem?_drop]at hu;simpa using hu
    ·cases hu
   ·obtain⟨x,hx,hr'⟩:=h4 b' hb';exact R.cl.obj b xs x b' hb (List.mem_of_mem_drop (List.mem_of_mem_take hx)) hr'
  ·cases h
 ·rename_i esz els i off;split at h
  ·rename_i p' v' h';simp only[Option.some.injEq,Prod.mk.injEq]at h;obtain⟨rfl,rfl⟩:=h;cases hx with
   | @ep _ _ _ len cap a0 _ hs hi=>
   obtain⟨hz,us,h5,h6⟩:=Xy0 hs hi;have h7:Y5 (Yz w (X6 M w β) β) ((((els.getD i []).drop off).take T.size).map Cx.c) ((us.drop off).take T.size):=((h5.drop off).take T.size).map_c;obtain⟨h1,h2,h3,h4⟩:=HK h' hp.2 h7;refine⟨_,?_,h3,fun b' hb'=>?_⟩
   ·simp only[Instr.loadAt,Instr.sureAddr,Sem.run_bind,Sem.run_pure,Result.andThen_ok];refine Zl C hT h1 (fun j u hu=>?_) h2;rw[add_add'];rw[List.getElem?_take]at hu;split at hu
    ·rw[List.getElem?_drop]at hu;rw[Nat.add_assoc];exact h6 _ _ hu
    ·cases hu
   ·obtain⟨x,hx,hr'⟩:=h4 b' hb';exact(HN hx hr').elim
  ·cases h
 ·rename_i b esz i off;split at h
  ·rename_i z t' esz' els hb;split at h
   ·rename_i p' v' h';simp only[Option.some.injEq,Prod.mk.injEq]at h;obtain⟨rfl,rfl⟩:=h;obtain⟨⟨rfl,hi,hle⟩,hp⟩:=hp;cases hx with
    |rp hβ=>
    obtain⟨hz,us,h5,h6⟩:=Ye5 R hb hβ hi;have h7:Y5 (Yz w (X6 M w β) β) ((((els.getD i []).drop off).take T.size).map Cx.c) ((us.drop off).take T.size):=((h5.drop off).take T.size).map_c;obtain⟨h1,h2,h3,h4⟩:=HK h' hp h7;refine⟨_,?_,h3,fun b' hb'=>?_⟩
    ·simp only[Instr.loadAt,Instr.sureAddr,Sem.run_bind,Sem.run_pure,Result.andThen_ok];refine Zl C hT h1 (fun j u hu=>?_) h2;rw[Xwg];rw[List.getElem?_take]at hu;split at hu
     ·rw[List.getElem?_drop]at hu;rw[Nat.add_assoc];exact h6 _ _ hu
     ·cases hu
    ·obtain⟨x,hx,hr'⟩:=h4 b' hb';exact(HN hx hr').elim
   ·cases h
  ·cases h
 ·cases h
end
end
section
section
variable {P:Program} {base:Nat} {E M:Nat→Prop} {w0 w:World} {β:Vl} {st:St} {a:Act} {N:Nat→Prop} {ty:TypeId→Option Ty}
def Yi(ty:TypeId→Option Ty)(s:TypeId)(f:Nat):Option (Nat×Ty):=
 match ty s with
 |some T=>match T.desc with
  | .struct fs=>match fs[f]? with
   |some fd=>match ty fd.type with
    |some Tf=>some (fd.offset,Tf)
    |none=>none
   |none=>none
  |_=>none
 |none=>none
theorem Xfh(_C:Vk P ty){s:TypeId}{f off:Nat}{Tf:Ty}(h:Yi ty s f=some (off,Tf)):
  ∃T fs fd,ty s=some T∧T.desc= .struct fs∧fs[f]? =some fd∧fd.offset=off∧ty fd.type=some Tf:=by
 unfold Yi at h;split at h
 ·rename_i T hT;split at h
  ·rename_i fs hd;split at h
   ·rename_i fd hf;split at h
    ·rename_i Tf' hTf;simp only[Option.some.injEq,Prod.mk.injEq]at h;obtain⟨rfl,rfl⟩:=h;exact⟨T,fs,fd,hT,hd,hf,rfl,hTf⟩
    ·cases h
   ·cases h
  ·cases h
 ·cases h
def X5(ty:TypeId→Option Ty)(s:TypeId)(x:EV)(f:Nat):Option EV:=
 match Yi ty s f with
 |some (fo,Tf)=>
  if Tf.size=0 then none else
  match x with
  | .one (.ptr b off)=>some (.one (.ptr b (off+fo)))
  | .ep esz els i off=>some (.ep esz els i (off+fo))
  | .rp b esz i off=>some (.rp b esz i (off+fo))
  |_=>none
 |none=>none
theorem Xhg(C:Vk P ty){s:TypeId}{x v:EV}{f:Nat}(h:X5 ty s x f=some v){u:Value}(hx:X9 w N β x u):
  ∃r,(Instr.fieldAt s u f).run P w= .ok r w∧X9 w N β v r∧∀b,X1 v b→X1 x b:=by
 unfold X5 at h;split at h
 ·rename_i fo Tf hfo;obtain⟨T,fs,fd,hT,hd,hf,rfl,hTf⟩:=Xfh C hfo;split at h
  ·cases h
  rename_i hs;have hu:=(C s T hT).underlying w;have hz:=(C _ Tf hTf).sizeOf w;rw[hd]at hu;split at h
  ·rename_i b off;injection h with h;subst h;cases hx with|one hx=>
   obtain⟨g,hg,rfl⟩:=hx;refine⟨.pointer (some ⟨g,off+fd.offset,none⟩),?_, .one ⟨g,hg,rfl⟩,fun b' hb'=>?_⟩
   ·simp[Instr.fieldAt,hu,hf,Instr.sureAddr,fieldPlace,hz,hs]
   ·cases hb' with|one h=>exact .one h
  ·rename_i esz els i off;injection h with h;subst h;cases hx with
   | @ep _ _ _ len cap a0 _ hs' hi=>
   refine⟨.pointer (some (a0.add (i*esz+(off+fd.offset)))),?_, .ep hs' hi,fun b' hb'=>by cases hb'⟩;simp[Instr.fieldAt,hu,hf,Instr.sureAddr,fieldPlace,hz,hs,add_add',Nat.add_assoc]
  ·rename_i b esz i off;injection h with h;subst h;cases hx with
   |rp hb=>
   refine⟨_,?_, .rp (off:=off+fd.offset) hb,fun b' hb'=>by cases hb';exact .rp⟩;simp[Instr.fieldAt,hu,hf,Instr.sureAddr,fieldPlace,hz,hs,Nat.add_assoc]
  ·cases h
 ·cases h
def Gx(T:Ty)(xs:List Cx)(off:Nat):Option (Prop×EV):=YJ T ((xs.drop off).take T.size)
theorem Xno(C:Vk P ty){t:TypeId}{T:Ty}(hT:ty t=some T){xs:List Cx}{off:Nat}{v:EV}{p:Prop}(h:Gx T xs off=some (p,v))(hp:p){us:Array Value}(hx:Y5 (Yz w N β) xs us.toList):
  ∃r,(part t us off).run P w= .ok r w∧X9 w N β v r∧∀b,X1 v b→∃x∈xs,refs x=some b:=by
 have I:=C t T hT;obtain⟨h1,h2,h3,h4⟩:=HK h hp (Xe1 hx off T.size);refine⟨_,?_,h3,fun b hb=>?_⟩
 ·cases hg:T.agg with
  |true=>
   simp only[part,Sem.run_bind,I.isAgg,hg,I.sizeOf,Result.andThen_ok,if_true,Sem.run_pure]
   congr 2
   apply Array.ext';simp[Nat.add_sub_cancel_left]
  |false=>
   have hs:=h2 hg;rw[hs]at h1;have hlt:off<us.size:=by
    have:((us.toList.drop off).take T.size).length=1:=by rw[hs];exact h1
    simp at this;omega
   simp only[part,Sem.run_bind,I.isAgg,hg,Result.andThen_ok,Bool.false_eq_true,if_false];rw[Array.getElem?_eq_getElem hlt];simp[hs,hlt,List.getD_eq_getElem?_getD]
 ·obtain⟨x,hx',hr⟩:=h4 b hb;exact⟨x,List.mem_of_mem_drop (List.mem_of_mem_take hx'),hr⟩
def Jj(ty:TypeId→Option Ty)(s:TypeId)(x:EV)(f:Nat):Option (Prop×EV):=
 match Yi ty s f,x with
 |some (fo,Tf), .agg xs=>Gx Tf xs fo
 |_,_=>none
theorem Xu3(C:Vk P ty){s:TypeId}{x v:EV}{f:Nat}{p:Prop}(h:Jj ty s x f=some (p,v))(hp:p){u:Value}(hx:X9 w N β x u):
  ∃r,(Instr.field s u f).run P w= .ok r w∧X9 w N β v r∧∀b,X1 v b→X1 x b:=by
 unfold Jj at h;split at h
 ·rename_i fo Tf xs hfo;obtain⟨T,fs,fd,hT,hd,hf,rfl,hTf⟩:=Xfh C hfo;cases hx with
  | @agg _ us hx=>
  obtain⟨r,h1,h2,h3⟩:=Xno C hTf h hp hx;have hu:=(C s T hT).underlying w;rw[hd]at hu;refine⟨r,?_,h2,fun b hb=>?_⟩
  ·simp[Instr.field,hu,hf,asAgg,h1]
  ·obtain⟨x,hm,hr⟩:=h3 b hb;exact .agg hm hr
 ·cases h
def elemOf(ty:TypeId→Option Ty)(t:TypeId):Option (Option Nat×TypeId×Ty):=
 match ty t with
 |some T=>match T.desc with
  | .slice el=>match ty el with
   |some Te=>some (none,el,Te)
   |none=>none
  | .array n el=>match ty el with
   |some Te=>some (some n,el,Te)
   |none=>none
  |_=>none
 |none=>none
theorem YM(C:Vk P ty){t el:TypeId}{Te:Ty}(h:elemOf ty t=some (none,el,Te))(w:World):(underlying t).run P w= .ok (.slice el) w∧ty el=some Te∧P.underlying t=some (.slice el):=by
 unfold elemOf at h;split at h
 ·rename_i T hT;have:=(C t T hT).underlying w;have hu:=(C t T hT).und;split at h
  ·rename_i el' hd;split at h
   ·rename_i Te' hTe;simp only[Option.some.injEq,Prod.mk.injEq]at h;obtain⟨_,rfl,rfl⟩:=h;rw[hd]at this hu;exact⟨this,hTe,hu⟩
   ·cases h
  ·split at h
   ·simp at h
   ·cases h
  ·cases h
 ·cases h
theorem VN(C:Vk P ty){t el:TypeId}{n:Nat}{Te:Ty}(h:elemOf ty t=some (some n,el,Te))(w:World):(underlying t).run P w= .ok (.array n el) w∧ty el=some Te:=by
 unfold elemOf at h;split at h
 ·rename_i T hT;have:=(C t T hT).underlying w;split at h
  ·split at h
   ·simp at h
   ·cases h
  ·rename_i n' el' hd;split at h
   ·rename_i Te' hTe;simp only[Option.some.injEq,Prod.mk.injEq]at h;obtain⟨h1,rfl,rfl⟩:=h;subst h1;rw[hd]at this;exact⟨this,hTe⟩
   ·cases h
  ·cases h
 ·cases h
def XA(ty:TypeId→Option Ty)(st:St)(t:TypeId)(x i:EV):Option (Prop×EV):=
 match i with
 | .one (.c (.sc (.int _ n)))=>
  match elemOf ty t,x with
  |some (none,_,Te), .one (.c (.sl _ esz els))=>some (Te.size=esz∧0≤n∧n<els.length, .ep esz els n.toNat 0)
  |some (none,_,Te), .one (.own b)=>
   (match look st.H b with
    |some (.row _ _ esz els)=>some (Te.size=esz∧0≤n∧n<els.length, .rp b esz n.toNat 0)
    |_=>none)
  |some (some m,_,Te), .one (.ptr b off)=>some (0≤n∧n<m, .one (.ptr b (off+n.toNat*Te.size)))
  |some (some m,_,Te), .ep esz els i off=>some (0≤n∧n<m, .ep esz els i (off+n.toNat*Te.size))
  |some (some m,_,Te), .rp b esz i off=>some (0≤n∧n<m, .rp b esz i (off+n.toNat*Te.size))
  |_,_=>none
 |_=>none
theorem Xnd{z:Bool}{esz:Nat}{els:List (List Cv)}{u:Value}(h:XN w N (.sl z esz els) u){i:Nat}(hi:i<els.length):∃a len cap,u= .slice (some a) len cap∧XN w N (.sl false esz els) u∧els.length=len:=by
 cases h with
 |nil=>simp at hi
 |sl us hl hcap hz hc hr=>exact⟨_,_,_,rfl, .sl us hl hcap hz hc hr,hl⟩
theorem Xg3(C:Vk P ty)(R:Rel base E M w0 β st a.tmps w){t:TypeId}{x i v:EV}{p:Prop}(h:XA ty st t x i=some (p,v))(hp:p){u u':Value}(hx:X9 w (X6 M w β) β x u)(hi:X9 w (X6 M w β) β i u'):
  ∃r,(Instr.indexAt t u u').run P w= .ok r w∧X9 w (X6 M w β) β v r∧∀b,X1 v b→X1 x b:=by
 unfold XA at h;split at h
 ·rename_i k n;rw[hi.int];split at h
  ·rename_i el Te z esz els he;obtain⟨h1,h2, -⟩:=YM C he w;simp only[Option.some.injEq,Prod.mk.injEq]at h;obtain⟨rfl,rfl⟩:=h;obtain⟨rfl,hp⟩:=hp;cases hx with|one hx=>
   obtain⟨a0,len,cap,rfl,hx',hlen⟩:=Xnd hx (i:=n.toNat) (by omega);refine⟨.pointer (some (a0.add (n.toNat*Te.size))),?_,?_,fun b hb=>by cases hb⟩
   ·have hlt:n<len:=by omega
    simp[Instr.indexAt,asIntOf,h1,(C el Te h2).sizeOf,hp.1,hlt]
   ·exact .ep (off:=0) hx' (by omega)
  ·rename_i el Te b he;split at h
   ·rename_i z t' esz els hb;obtain⟨h1,h2, -⟩:=YM C he w;simp only[Option.some.injEq,Prod.mk.injEq]at h;obtain⟨rfl,rfl⟩:=h;obtain⟨rfl,hp⟩:=hp;cases hx with|one hx=>
    obtain⟨hβ,_⟩:=hx;obtain⟨u2,hu2,cells,ho,hz,hl,hc⟩:=R.obj b _ hb;rw[hβ]at hu2;injection hu2 with hu2;subst hu2;rcases ho.2 with⟨rfl,h0⟩|⟨g,cap,cur,rfl, -⟩
    ·omega
    ·refine⟨.pointer (some ⟨g,n.toNat*Te.size,none⟩),?_,?_,fun b hb=>by cases hb;exact .one rfl⟩
     ·simp[Instr.indexAt,asIntOf,h1,(C el Te h2).sizeOf,hp.1,hp.2]
     ·exact .rp (off:=0) hβ
   ·cases h
  ·rename_i m el Te b off he;obtain⟨h1,h2⟩:=VN C he w;simp only[Option.some.injEq,Prod.mk.injEq]at h;obtain⟨rfl,rfl⟩:=h;cases hx with|one hx=>
   obtain⟨g,hg,rfl⟩:=hx;refine⟨.pointer (some ⟨g,off+n.toNat*Te.size,none⟩),?_, .one ⟨g,hg,rfl⟩,fun b' hb'=>by cases hb' with|one h=>exact .one h⟩;simp[Instr.indexAt,asIntOf,h1,(C el Te h2).sizeOf,hp.1,hp.2,Instr.sureAddr]
  ·rename_i m el Te esz els j off he;obtain⟨h1,h2⟩:=VN C he w;simp only[Option.some.injEq,Prod.mk.injEq]at h;obtain⟨rfl,rfl⟩:=h;cases hx with
   | @ep _ _ _ len cap a0 _ hs' hi'=>
   refine⟨.pointer (some (a0.add (j*esz+(off+n.toNat*Te.size)))),?_, .ep hs' hi',fun b' hb'=>by cases hb'⟩;simp[Instr.indexAt,asIntOf,h1,(C el Te h2).sizeOf,hp.1,hp.2,Instr.sureAddr,add_add',Nat.add_assoc]
  ·rename_i m el Te b esz j off he;obtain⟨h1,h2⟩:=VN C he w;simp only[Option.some.injEq,Prod.mk.injEq]at h;obtain⟨rfl,rfl⟩:=h;cases hx with
   |rp hb=>
   refine⟨_,?_, .rp (off:=off+n.toNat*Te.size) hb,fun b' hb'=>by cases hb';exact .rp⟩;simp[Instr.indexAt,asIntOf,h1,(C el Te h2).sizeOf,hp.1,hp.2,Instr.sureAddr,Nat.add_assoc]
  ·cases h
 ·cases h
def Jf(ty:TypeId→Option Ty)(t:TypeId)(x i:EV):Option (Prop×EV):=
 match i with
 | .one (.c (.sc (.int _ n)))=>
  match x with
  | .agg xs=>(match elemOf ty t with
   |some (some m,_,Te)=>(match Gx Te xs (n.toNat*Te.size)with|some (p,v)=>some ((0≤n∧n<m)∧p,v)|none=>none)
   |_=>none)
  | .one (.c (.sc (.string s)))=>(match ty t with
   |some T=>(match T.desc with
    | .string=>some (0≤n∧n<s.size,iv .u8 ((s.data.getD n.toNat 0).toNat))
    |_=>none)
   |none=>none)
  |_=>none
 |_=>none
theorem Xub(C:Vk P ty){t:TypeId}{x i v:EV}{p:Prop}(h:Jf ty t x i=some (p,v))(hp:p){u u':Value}(hx:X9 w N β x u)(hi:X9 w N β i u'):
  ∃r,(Instr.index t u u').run P w= .ok r w∧X9 w N β v r∧∀b,X1 v b→X1 x b:=by
 unfold Jf at h;split at h
 ·rename_i k n;rw[hi.int];split at h
  ·rename_i xs;split at h
   ·rename_i m el Te he;obtain⟨h1,h2⟩:=VN C he w;split at h
    ·rename_i p' v' h';simp only[Option.some.injEq,Prod.mk.injEq]at h;obtain⟨rfl,rfl⟩:=h;cases hx with
     | @agg _ us hx=>
     obtain⟨r,r1,r2,r3⟩:=Xno C h2 h' hp.2 hx;refine⟨r,?_,r2,fun b hb=>?_⟩
     ·simp[Instr.index,asIntOf,h1,(C el Te h2).sizeOf,hp.1.1,hp.1.2,r1]
     ·obtain⟨x,hm,hr⟩:=r3 b hb;exact .agg hm hr
    ·cases h
   ·cases h
  ·rename_i s;split at h
   ·rename_i T hT;split at h
    ·rename_i hd;simp only[Option.some.injEq,Prod.mk.injEq]at h;obtain⟨rfl,rfl⟩:=h;have hu:=(C t T hT).underlying w;rw[hd]at hu;rw[hx.sc];have hlt:n.toNat<s.size:=by omega
     have hd':n.toNat<s.data.size:=hlt;refine⟨.int .u8 ((s.data.getD n.toNat 0).toNat),?_, .one (.sc rfl),fun b hb=>(no_refs hb).elim⟩;have hg:s[n.toNat]? =some (s.data.getD n.toNat 0):=by
      rw[getElem?_pos s n.toNat hlt];simp only[Array.getD];rw[dif_pos hd'];rfl
     simp[Instr.index,asIntOf,hu,hp.1,hg]
    ·cases h
   ·cases h
  ·cases h
 ·cases h
end
end
section
section
variable {P:Program} {base:Nat} {E M:Nat→Prop} {w0 w:World} {β:Vl} {st:St} {a:Act} {N:Nat→Prop} {ty:TypeId→Option Ty}
def Kd:EV→Option (List Cx)
 | .one x=>some [x]
 | .agg xs=>some xs
 |_=>none
theorem Z6{v:EV}{xs:List Cx}(h:Kd v=some xs){u:Value}(hv:X9 w N β v u):Y5 (Yz w N β) xs u.cells.toList∧∀x∈xs,∀b,refs x=some b→X1 v b:=by
 unfold Kd at h;split at h
 ·injection h with h;subst h;cases hv with|one hx=>
  refine⟨?_,fun x hm b hr=>?_⟩
  ·have h1:=hx.one;have:u.cells= #[u]:=by cases u<;>first|rfl|cases h1
   rw[this];exact .cons hx .nil
  ·simp at hm;subst hm;exact .one hr
 ·injection h with h;subst h;cases hv with|agg hx=>exact⟨hx,fun x hm b hr=> .agg hm hr⟩
 ·cases h
def over(xs:List Cx)(off:Nat)(ys:List Cx):List Cx:=xs.take off++ys++xs.drop (off+ys.length)
theorem Xtg{xs ys:List Cx}{off:Nat}{arr:Array Value}{us:List Value}(hx:Y5 (Yz w N β) xs arr.toList)(hy:Y5 (Yz w N β) ys us):
  Y5 (Yz w N β) (over xs off ys) (Sim.written arr off us).toList:=by
 unfold over Sim.written;rw[hy.1];exact(((hx.take off).app hy).app (hx.drop _))
def Vd(place:Nat→Option (Nat×Nat))(xs:List Cx):List (Nat×EV)→Option (Prop×List Cx)
 |[]=>some (True,xs)
 |(i,v)::r=>
  match place i,Kd v with
  |some (off,size),some ys=>
   (match Vd place (over xs off ys) r with
    |some (p,zs)=>some ((ys.length=size∧off+size≤xs.length)∧p,zs)
    |none=>none)
  |_,_=>none
theorem Xnp{xs ys:List Cx}{off:Nat}{x:Cx}(h:x∈over xs off ys):x∈xs∨x∈ys:=by
 unfold over at h;rw[List.mem_append,List.mem_append]at h;rcases h with(h|h)|h
 ·exact .inl (List.mem_of_mem_take h)
 ·exact .inr h
 ·exact .inl (List.mem_of_mem_drop h)
theorem Xhf{place:Nat→Option (Nat×Nat)}:∀{ps:List (Nat×EV)} {us:List (Nat×Value)},Y5 (fun(p:Nat×EV) (q:Nat×Value)=>p.1=q.1∧X9 w N β p.2 q.2) ps us→
  ∀{xs zs:List Cx} {arr:Array Value} {p:Prop},Y5 (Yz w N β) xs arr.toList→Vd place xs ps=some (p,zs)→p→
  ∃r:Array Value,Instr.fill place arr us=some r∧Y5 (Yz w N β) zs r.toList∧∀x∈zs,x∈xs∨∃q∈ps,∃ys,Kd q.2=some ys∧x∈ys:=by
 intro ps
 induction ps with
 |nil=>
  intro us hu xs zs arr p hx h hp;simp only[Vd,Option.some.injEq,Prod.mk.injEq]at h;obtain⟨rfl,rfl⟩:=h;have:us=[]:=by cases us with|nil=>rfl|cons _ _=>have:=hu.1;simp at this
  subst this;exact⟨arr,rfl,hx,fun x hm=> .inl hm⟩
 |cons q ps ih=>
  intro us hu xs zs arr p hx h hp;obtain⟨i,v⟩:=q;cases us with
  |nil=>have:=hu.1;simp at this
  |cons q' us=>
   obtain⟨i',u⟩:=q';obtain⟨h1,h2⟩:=hu.2 0 _ _ rfl rfl;simp only at h1 h2;subst h1;have ht:Y5 (fun(p:Nat×EV) (q:Nat×Value)=>p.1=q.1∧X9 w N β p.2 q.2) ps us:=⟨by have:=hu.1;simpa using this,fun j a b ha hb=>hu.2 (j+1) a b (by simpa using ha) (by simpa using hb)⟩;simp only[Vd]at h;split at h
   ·rename_i off size ys hpl hys;split at h
    ·rename_i p' zs' hr;simp only[Option.some.injEq,Prod.mk.injEq]at h;obtain⟨rfl,rfl⟩:=h;obtain⟨⟨hsz,hle⟩,hp'⟩:=hp;obtain⟨hc, -⟩:=Z6 hys h2;have hxl:=hx.1;have hcl:=hc.1;simp only[Array.length_toList]at hxl hcl;have hb:off+u.cells.toList.length≤arr.size:=by simp;omega
     obtain⟨r,r1,r2,r3⟩:=ih ht (Xtg hx hc) hr hp';refine⟨r,?_,r2,fun x hm=>?_⟩
     ·simp only[Instr.fill,hpl];have hn1:¬(u.cells.size≠size):=by omega
      have hn2:¬(off+u.cells.size>arr.size):=by simp at hb;omega
      rw[if_neg (by simp[hn1,hn2])];rw[←r1]
      congr 1
      have hz:u.cells.zipIdx.foldl (fun(cs:Array Value) (x:Value×Nat)=>match x with|(c,j)=>cs.setIfInBounds (off+j) c) arr=(u.cells.toList.zipIdx 0).foldl (fun(cs:Array Value) (p:Value×Nat)=>cs.setIfInBounds (off+p.2) p.1) arr:=by
       rw[←Array.foldl_toList,Array.toList_zipIdx]
      have:=Sim.Z1 off u.cells.toList 0 arr (by simpa using hb);exact hz.trans this
     ·rcases r3 x hm with h|⟨q,hq,ys',h1,h2⟩
      ·rcases Xnp h with h|h
       ·exact .inl h
       ·exact .inr ⟨_,List.mem_cons_self,ys,hys,h⟩
      ·exact .inr ⟨q,List.mem_cons_of_mem _ hq,ys',h1,h2⟩
    ·cases h
   ·cases h
def Xcs(ty:TypeId→Option Ty):List Field→Option (List (Nat×Nat))
 |[]=>some []
 |f::fs=>match ty f.type,Xcs ty fs with|some T,some l=>some ((f.offset,T.size)::l)|_,_=>none
theorem Xpo(C:Vk P ty):∀{fs:List Field} {l:List (Nat×Nat)},Xcs ty fs=some l→∀w,(fs.mapM fun(f:Field)=>(do pure (f.offset,←sizeOf f.type):Sem (Nat×Nat))).run P w= .ok l w:=by
 intro fs
 induction fs with
 |nil=>intro l h w;injection h with h;subst h;simp
 |cons f fs ih=>
  intro l h w;simp only[Xcs]at h;split at h
  ·rename_i T l' ht hl;injection h with h;subst h;have:=ih hl w;rw[List.mapM_cons];simp only[Sem.run_bind,(C _ _ ht).sizeOf,Result.andThen_ok,Sem.run_pure];rw[this];rfl
  ·cases h
def JD(st:St):List (Nat×Operand)→Option (List (Nat×EV))
 |[]=>some []
 |(i,x)::r=>match evO st x,JD st r with|some v,some l=>some ((i,v)::l)|_,_=>none
theorem Xoh(R:Rel base E M w0 β st a.tmps w):∀{ps:List (Nat×Operand)} {l:List (Nat×EV)},JD st ps=some l→
  Y5 (fun(p:Nat×EV) (q:Nat×Value)=>p.1=q.1∧X9 w (X6 M w β) β p.2 q.2) l (ps.map fun(p:Nat×Operand)=>(p.1,a.eval p.2))∧∀q∈l,∀b,X1 q.2 b→look st.H b≠none:=by
 intro ps
 induction ps with
 |nil=>intro l h;injection h with h;subst h;exact⟨.nil,fun q hq=>by cases hq⟩
 |cons p ps ih=>
  obtain⟨i,x⟩:=p;intro l h;simp only[JD]at h;split at h
  ·rename_i v l' hv hl;injection h with h;subst h;obtain⟨h1,h2⟩:=ih hl;obtain⟨h3,h4⟩:=evO_ok R hv;exact⟨.cons ⟨rfl,h3⟩ h1,fun q hq b hb=>by
    rcases List.mem_cons.1 hq with rfl|hq
    ·exact h4 b hb
    ·exact h2 q hq b hb⟩
  ·cases h
def VE(ty:TypeId→Option Ty)(t:TypeId)(ps:List (Nat×EV)):Option (Prop×EV):=
 match ty t with
 |some T=>match T.desc with
  | .struct fs=>(match Xcs ty fs.toList with
   |some pl=>(match Vd (fun i=>pl[i]?) (T.zero.map Cx.c) ps with|some (p,xs)=>some (p, .agg xs)|none=>none)
   |none=>none)
  | .array _ el=>(match ty el with
   |some Te=>(match Vd (fun i=>some (i*Te.size,Te.size)) (T.zero.map Cx.c) ps with|some (p,xs)=>some (p, .agg xs)|none=>none)
   |none=>none)
  |_=>none
 |none=>none
theorem Xvn(C:Vk P ty){t:TypeId}{ps:List (Nat×EV)}{v:EV}{p:Prop}(h:VE ty t ps=some (p,v))(hp:p){us:Array (Nat×Value)}(hu:Y5 (fun(p:Nat×EV) (q:Nat×Value)=>p.1=q.1∧X9 w N β p.2 q.2) ps us.toList):
  ∃r,(Instr.build t us).run P w= .ok r w∧X9 w N β v r∧∀b,X1 v b→∃q∈ps,X1 q.2 b:=by
 unfold VE at h;split at h
 ·rename_i T hT;have I:=C t T hT;obtain⟨info,z,i1,i2,i3,i4,i5,i6,i7,i8⟩:=I.info;have hzv:(zeroValue t).run P w= .ok z w:=by simp[Go.zeroValue,Go.typeInfo,i1,i4]
  have hz:Y5 (Yz w N β) (T.zero.map Cx.c) z.cells.toList:=(i5 w N).map_c;have hun:=I.underlying w;have fin:∀{xs:List Cx},(∀x∈xs,x∈T.zero.map Cx.c∨∃q∈ps,∃ys,Kd q.2=some ys∧x∈ys)→(∀q∈ps,∃u,X9 w N β q.2 u)→∀b,X1 (.agg xs) b→∃q∈ps,X1 q.2 b:=by
   intro xs hm hq b hb;cases hb with
   |agg hx hr=>
   rcases hm _ hx with h|⟨q,hq1,ys,h1,h2⟩
   ·exact(HN h hr).elim
   ·obtain⟨u,hu⟩:=hq q hq1;exact⟨q,hq1,(Z6 h1 hu).2 _ h2 b hr⟩
  have hq:∀q∈ps,∃u,X9 w N β q.2 u:=fun q hq=>by
   obtain⟨i,hi,rfl⟩:=List.getElem_of_mem hq;obtain⟨y,_,h2⟩:=hu.get (List.getElem?_eq_getElem hi);exact⟨_,h2.2⟩
  split at h
  ·rename_i fs hd;split at h
   ·rename_i pl hpl;split at h
    ·rename_i p' xs hf;simp only[Option.some.injEq,Prod.mk.injEq]at h;obtain⟨rfl,rfl⟩:=h;obtain⟨r,r1,r2,r3⟩:=Xhf hu hz hf hp;refine⟨.agg r,?_, .agg r2,fin r3 hq⟩;have hpl':=Xpo C hpl w;have hm:(fs.mapM fun(f:Field)=>(do pure (f.offset,←sizeOf f.type):Sem (Nat×Nat)))=Array.mk<$>(fs.toList.mapM fun(f:Field)=>(do pure (f.offset,←sizeOf f.type):Sem (Nat×Nat))):=by
      rw[Array.mapM_eq_mapM_toList]
     rw[hd]at hun;simp only[Instr.build,Sem.run_bind,hzv,Result.andThen_ok,hun];rw[hm];have r1':Instr.fill (fun i=>(⟨pl⟩:Array (Nat×Nat))[i]?) z.cells us.toList=some r:=by simpa using r1
     simp only[Sem.run_map,hpl',Result.andThen_ok,r1',Sem.run_pure]
    ·cases h
   ·cases h
  ·rename_i n el hd;split at h
   ·rename_i Te hTe;split at h
    ·rename_i p' xs hf;simp only[Option.some.injEq,Prod.mk.injEq]at h;obtain⟨rfl,rfl⟩:=h;obtain⟨r,r1,r2,r3⟩:=Xhf hu hz hf hp;refine⟨.agg r,?_, .agg r2,fin r3 hq⟩;rw[hd]at hun;simp[Instr.build,hzv,hun,(C _ _ hTe).sizeOf,r1]
    ·cases h
   ·cases h
  ·cases h
 ·cases h
def Hn(ty:TypeId→Option Ty)(st:St)(t:TypeId)(x:EV):Option EV:=
 match ty t with
 |some T=>match T.desc,x with
  | .slice _, .one (.c (.sl _ _ els))=>some (iv .i64 els.length)
  | .slice _, .one (.own b)=>(match look st.H b with|some (.row _ _ _ els)=>some (iv .i64 els.length)|_=>none)
  | .string, .one (.c (.sc (.string s)))=>some (iv .i64 s.size)
  | .map _ _, .one (.map b)=>(match look st.H b with|some (.map es)=>some (iv .i64 es.length)|_=>none)
  | .array n _,_=>some (iv .i64 n)
  |_,_=>none
 |none=>none
theorem Ye0{z:Bool}{esz:Nat}{els:List (List Cv)}{u:Value}(h:XN w N (.sl z esz els) u):∃A cap,u= .slice A els.length cap:=by
 cases h with
 |nil=>exact⟨none,0,rfl⟩
 |sl us hl=>exact⟨_,_,by rw[hl]⟩
theorem Ybz(C:Vk P ty)(R:Rel base E M w0 β st a.tmps w){t:TypeId}{x v:EV}(h:Hn ty st t x=some v){u:Value}(hx:X9 w (X6 M w β) β x u)(t':TypeId):
  ∃r,(Builtin.len_ #[t] t' #[u]).run P w= .ok r w∧X9 w (X6 M w β) β v r∧∀b,¬X1 v b:=by
 unfold Hn at h;split at h
 ·rename_i T hT;have hun:=(C t T hT).underlying w;split at h
  ·rename_i el z esz els hd;injection h with h;subst h;cases hx with|one hx=>
   obtain⟨A,cap,rfl⟩:=Ye0 hx;rw[hd]at hun;exact⟨_,by simp[Builtin.len_,hun,goInt], .one (.sc rfl),fun b hb=>no_refs hb⟩
  ·rename_i el b hd;split at h
   ·rename_i z t2 esz els hb;injection h with h;subst h;cases hx with|one hx=>
    obtain⟨hβ,_⟩:=hx;obtain⟨u2,hu2,cells,ho, -⟩:=R.obj b _ hb;rw[hβ]at hu2;injection hu2 with hu2;subst hu2;rw[hd]at hun;refine⟨.int .i64 els.length,?_, .one (.sc rfl),fun b hb=>no_refs hb⟩;rcases ho.2 with⟨rfl,h0⟩|⟨g,cap,cur,rfl, -⟩
    ·simp[Builtin.len_,hun,goInt,h0]
    ·simp[Builtin.len_,hun,goInt]
   ·cases h
  ·rename_i s hd;injection h with h;subst h;rw[hd]at hun;rw[hx.sc];exact⟨_,by simp[Builtin.len_,hun,goInt], .one (.sc rfl),fun b hb=>no_refs hb⟩
  ·rename_i k el b hd;split at h
   ·rename_i es hb;injection h with h;subst h;cases hx with|one hx=>
    obtain⟨g,hβ,rfl⟩:=hx;obtain⟨u2,hu2,g',arr,clock,rfl,hh,hr⟩:=R.obj b _ hb;rw[hβ]at hu2;injection hu2 with hu2;injection hu2 with hu2;injection hu2 with hu2;subst hu2;rw[hd]at hun;refine⟨_,?_, .one (.sc rfl),fun b hb=>no_refs hb⟩;have:=hr.1;simp only[Array.length_toList]at this;simp[Builtin.len_,hun,goInt,getObj,Sem.run,hh,this]
   ·cases h
  ·rename_i n el hd;injection h with h;subst h;rw[hd]at hun;exact⟨_,by simp[Builtin.len_,hun,goInt], .one (.sc rfl),fun b hb=>no_refs hb⟩
  ·cases h
 ·cases h
def KD(d:Int):Option EV→Option Int
 |none=>some d
 |some (.one (.c (.sc (.int _ n))))=>some n
 |_=>none
def Kq(ty:TypeId→Option Ty)(t:TypeId)(x:EV)(lo hi:Option EV):Option (Prop×EV):=
 match x with
 | .one (.c (.sl z esz els))=>
  (match elemOf ty t,KD 0 lo,KD els.length hi with
   |some (none,_,Te),some l,some h=>some (Te.size=esz∧0≤l∧l≤h∧h≤els.length, .one (.c (.sl z esz ((els.drop l.toNat).take (h.toNat - l.toNat)))))
   |_,_,_=>none)
 | .one (.c (.sc (.string s)))=>
  (match ty t with
   |some T=>(match T.desc,KD 0 lo,KD s.size hi with
    | .string,some l,some h=>some (0≤l∧l≤h∧h≤s.size, .one (.c (.sc (.string (s.extract l.toNat h.toNat)))))
    |_,_,_=>none)
   |none=>none)
 |_=>none
def OptE(w:World)(N:Nat→Prop)(β:Vl):Option EV→Option Value→Prop
 |none,none=>True
 |some v,some u=>X9 w N β v u
 |_,_=>False
theorem Gm{d:Int}{o:Option EV}{o':Option Value}{n:Int}(h:KD d o=some n)(ho:OptE w N β o o'):(o'=none∧n=d)∨∃k,o'=some (.int k n):=by
 unfold KD at h;split at h
 ·injection h with h;cases o' with
  |none=>exact .inl ⟨rfl,h.symm⟩
  |some y=>exact ho.elim
 ·injection h with h;subst h;cases o' with
  |none=>exact ho.elim
  |some y=>exact .inr ⟨_,by rw[X9.int ho]⟩
 ·cases h
theorem HF{isS:Bool}{n cap:Nat}{l h:Int}{lo hi:Option Value}(hl:(lo=none∧l=0)∨∃k,lo=some (.int k l))(hh:(hi=none∧h=n)∨∃k,hi=some (.int k h))(h0:0≤l)(h1:l≤h)(h2:h≤cap)(w:World):
  (Instr.sliceBounds isS n cap lo hi none).run P w= .ok (l.toNat,h.toNat,cap) w:=by
 rcases hl with⟨rfl,rfl⟩|⟨k,rfl⟩<;>rcases hh with⟨rfl,rfl⟩|⟨k',rfl⟩
 ·simp[Instr.sliceBounds]
 ·simp[Instr.sliceBounds,Instr.sliceBound,asIntOf,h1,h2]
 ·have e:l≤(n:Int):=h1;simp[Instr.sliceBounds,Instr.sliceBound,asIntOf,h0,e]
 ·have e1:0≤h:=by omega
  have e2:l≤(h.toNat:Int):=by omega
  have e3:(h.toNat:Int)=h:=by omega
  simp only[Instr.sliceBounds,Instr.sliceBound,asIntOf,Sem.run_bind,Sem.run_pure,Result.andThen_ok];rw[if_pos ⟨e1,h2⟩];simp only[Sem.run_pure,Result.andThen_ok,e3];rw[if_pos ⟨h0,h1⟩];simp
theorem Xfl{els:List (List Cv)}{l n i j:Nat}{c:Cv}(h:cellAt ((els.drop l).take n) i j=some c):i<n∧cellAt els (l+i) j=some c:=by
 unfold cellAt at h⊢;rw[List.getElem?_take]at h;split at h
 ·rename_i hlt;rw[List.getElem?_drop]at h;exact⟨hlt,h⟩
 ·cases h
theorem Xih(C:Vk P ty){t:TypeId}{x v:EV}{lo hi:Option EV}{p:Prop}(h:Kq ty t x lo hi=some (p,v))(hp:p){u:Value}{lo' hi':Option Value}(hx:X9 w N β x u)(hl:OptE w N β lo lo')(hh:OptE w N β hi hi'):
  ∃r,(Instr.sliceAt t u lo' hi' none).run P w= .ok r w∧X9 w N β v r∧∀b,¬X1 v b:=by
 unfold Kq at h;split at h
 ·rename_i z esz els;split at h
  ·rename_i el Te l h' he hlo hhi;obtain⟨h1,h2, -⟩:=YM C he w;simp only[Option.some.injEq,Prod.mk.injEq]at h;obtain⟨rfl,rfl⟩:=h;obtain⟨rfl,p1,p2,p3⟩:=hp;cases hx with|one hx=>
   cases hx with
   |nil=>
    simp only[List.length_nil]at p3 hhi;have e1:h'=0:=by omega
    have e2:l=0:=by omega
    subst e1;subst e2;refine⟨.slice none 0 0,?_,?_,fun b hb=>no_refs hb⟩
    ·have:=HF (P:=P) (isS:=true) (n:=0) (cap:=0) (Gm hlo hl) (Gm hhi hh) p1 p2 (by simp) w;simp[Instr.sliceAt,Instr.slice,h1,this,(C el Te h2).sizeOf]
    ·exact .one (show XN w N (.sl true Te.size _) _ by simp;exact .nil)
   | @sl a0 len cap _ _ us hlen hcap hz hc hr=>
    have hh2:(hi'=none∧h'=(len:Int))∨∃k,hi'=some (.int k h'):=by
     rcases Gm hhi hh with⟨e,q⟩|⟨k,e⟩
     ·exact .inl ⟨e,by rw[q,hlen]⟩
     ·exact .inr ⟨k,e⟩
    have hb:=HF (P:=P) (isS:=true) (n:=len) (cap:=cap) (Gm hlo hl) hh2 p1 p2 (by omega) w;refine⟨.slice (if cap=l.toNat then some a0 else some (a0.add (l.toNat*Te.size))) (h'.toNat - l.toNat) (cap - l.toNat),?_,?_,fun b hb=>no_refs hb⟩
    ·simp only[Instr.sliceAt,Sem.run_bind,h1,Result.andThen_ok,Instr.slice,hb,(C el Te h2).sizeOf,Sem.run_pure,Option.map_some]
    ·refine .one ?_;have key:∀a':Addr,(cap≠l.toNat→a'=a0.add (l.toNat*Te.size))→XN w N (.sl false Te.size ((els.drop l.toNat).take (h'.toNat - l.toNat))) (.slice (some a') (h'.toNat - l.toNat) (cap - l.toNat)):=by
      intro a' ha;refine .sl (fun i j=>us (l.toNat+i) j) (by simp;omega) (by omega) (fun i es he=>?_) (fun i j c hcc=>?_) (fun i j c hcc=>?_)
      ·rw[List.getElem?_take]at he;split at he
       ·rw[List.getElem?_drop]at he;exact hz _ _ he
       ·cases he
      ·obtain⟨hi1,hi2⟩:=Xfl hcc;obtain⟨q1,q2⟩:=hc _ _ _ hi2;have:=ha (by omega);subst this;refine⟨by rw[add_block];exact q1,?_⟩;rw[add_add',←Nat.add_assoc,←Nat.add_mul];exact q2
      ·exact hr _ _ _ (Xfl hcc).2
     show XN w N _ _
     by_cases hcl:cap=l.toNat
     ·rw[if_pos hcl];exact key a0 (fun q=>absurd hcl q)
     ·rw[if_neg hcl];exact key _ (fun _=>rfl)
  ·cases h
 ·rename_i s;split at h
  ·rename_i T hT;split at h
   ·rename_i l h' hd hlo hhi;simp only[Option.some.injEq,Prod.mk.injEq]at h;obtain⟨rfl,rfl⟩:=h;obtain⟨p1,p2,p3⟩:=hp;have hun:=(C t T hT).underlying w;rw[hd]at hun;rw[hx.sc];have:=HF (P:=P) (isS:=false) (n:=s.size) (cap:=s.size) (Gm hlo hl) (Gm hhi hh) p1 p2 p3 w;exact⟨_,by simp[Instr.sliceAt,Instr.slice,hun,this], .one (.sc rfl),fun b hb=>no_refs hb⟩
   ·cases h
  ·cases h
 ·cases h
end
end
end Go.Proofs.YtjhfcfpkgfpoiaaGreatDoor.Dw
