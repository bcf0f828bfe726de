/- Data of a call, and rules for code over it. No condition. -/
import Derived.Laws.OwnMore
import Derived.Laws.Strings
import Derived.Lib.SliceRun
import Derived.Maps.AppendAt
import Derived.WalkKit
import Derived.Test.YtbkpmfjfpcoehaaGreatDoorSimC
namespace Go.Proofs.YtbkpmfjfpcoehaaGreatDoor.Dw
open Go Go.RowKit
set_option maxRecDepth 100000
section
inductive Cv where
 |sc (v:Value)
 |sl (z:Bool) (esz:Nat) (els:List (List Cv))
 |fn (f:FuncId) (caps:List (List Cv))
 |mp (es:List (Cv×Cv))
instance:Inhabited Cv:=⟨.sc default⟩
inductive Cx where
 |c (v:Cv)
 |own (b:Nat)
 |ptr (b off:Nat)
 |map (b:Nat)
 |dead
instance:Inhabited Cx:=⟨.dead⟩
inductive EV where
 |one (x:Cx)
 |agg (xs:List Cx)
 |tup (l:List EV)
 |ep (esz:Nat) (els:List (List Cv)) (i off:Nat)
 |rp (b esz i off:Nat)
 |any
instance:Inhabited EV:=⟨.agg []⟩
inductive OB where
 |box (xs:List Cx)
 |row (z:Bool) (t:TypeId) (esz:Nat) (els:List (List Cv))
 |map (es:List (Cv×Cv))
def look{α:Type}:List (Nat×α)→Nat→Option α
 |[],_=>none
 |(k,v)::r,t=>if k=t then some v else look r t
def put{α:Type}:List (Nat×α)→Nat→α→List (Nat×α)
 |[],t,x=>[(t,x)]
 |(k,v)::r,t,x=>if k=t then(t,x)::r else(k,v)::put r t x
theorem X1{α:Type}(l:List (Nat×α))(t:Nat)(x:α)(u:Nat):look (put l t x) u=if t=u then some x else look l u:=by
 induction l with
 |nil=>simp[put,look]
 |cons p r ih=>
  obtain⟨k,v⟩:=p;by_cases h:k=t
  ·subst h;by_cases g:k=u<;>simp[put,look,g]
  ·by_cases g:k=u
   ·subst g;simp[put,look,h,Ne.symm h]
   ·simp[put,look,h,g,ih]
structure St where
 env:List (Nat×EV)
 H:List (Nat×OB)
def cellAt(els:List (List Cv))(i j:Nat):Option Cv:=(els[i]?).bind (·[j]?)
section
variable (w:World) (N:Nat→Prop)
inductive XH:Cv→Value→Prop
 |sc {v:Value} (h:v.oneCell'=true):XH (.sc v) v
 |nil {esz:Nat}:XH (.sl true esz []) (.slice none 0 0)
 |sl {a:Addr} {len cap esz:Nat} {els:List (List Cv)} (us:Nat→Nat→Value) (hl:els.length=len) (hcap:len≤cap) (hz:∀(i:Nat) (es:List Cv),els[i]? =some es→es.length=esz)
   (hc:∀i j c,cellAt els i j=some c→N a.block∧w.cell? (a.add (i*esz+j))=some (us i j)) (hr:∀i j c,cellAt els i j=some c→XH c (us i j)):
   XH (.sl false esz els) (.slice (some a) len cap)
 |fn {f:FuncId} {caps:List (List Cv)} {us:Array Value} (xs:Nat→Addr) (vs:Nat→Nat→Value) (hl:us.size=caps.length) (hu:∀i,i<caps.length→us[i]? =some (.pointer (some (xs i))))
   (hc:∀i j c,cellAt caps i j=some c→N (xs i).block∧w.cell? ((xs i).add j)=some (vs i j)) (hr:∀i j c,cellAt caps i j=some c→XH c (vs i j)):
   XH (.fn f caps) (.func (.func f) #[] us)
 |mp {es:List (Cv×Cv)} {g:Nat} {arr:Array MapEntry} {clock:Nat} (hg:N g) (hh:w.heap[g]? =some (.map arr clock)) (hl:es.length=arr.size)
   (hk:∀(i:Nat) (p:Cv×Cv) (e:MapEntry),es[i]? =some p→arr[i]? =some e→XH p.1 e.key) (hv:∀(i:Nat) (p:Cv×Cv) (e:MapEntry),es[i]? =some p→arr[i]? =some e→XH p.2 e.val):
   XH (.mp es) (.map (some g))
end
theorem Zd{w w':World}{p:Addr}(h:w'.heap[p.block]? =w.heap[p.block]?):w'.cell? p=w.cell? p:=by simp[World.cell?,h]
theorem XH.mono{w w':World}{N N':Nat→Prop}{c:Cv}{v:Value}(h:XH w N c v)(hN:∀g,N g→N' g)(hc:∀g,N g→w'.heap[g]? =w.heap[g]?):XH w' N' c v:=by
 induction h with
 |sc h=>exact .sc h
 |nil=>exact .nil
 |sl us hl hcap hz hcell _ ih=>
  refine .sl us hl hcap hz (fun i j c h=>?_) ih;obtain⟨a,b⟩:=hcell i j c h;refine⟨hN _ a,?_⟩;rw[Zd (hc _ (by unfold Addr.add;split<;>exact a))];exact b
 |fn xs vs hl hu hcell _ ih=>
  refine .fn xs vs hl hu (fun i j c h=>?_) ih;obtain⟨a,b⟩:=hcell i j c h;refine⟨hN _ a,?_⟩;rw[Zd (hc _ (by unfold Addr.add;split<;>exact a))];exact b
 |mp hg hh hl _ _ ih1 ih2=>exact .mp (hN _ hg) (by rw[hc _ hg];exact hh) hl ih1 ih2
theorem XH.one{w:World}{N:Nat→Prop}{c:Cv}{v:Value}(h:XH w N c v):v.oneCell'=true:=by
 cases h<;>first|assumption|rfl
def blk:Value→Option Nat
 | .slice (some a) _ _=>some a.block
 | .pointer (some a)=>some a.block
 | .map r=>r
 |_=>none
abbrev K3:=Nat→Option Value
def Yx{α β:Type}(R:α→β→Prop)(xs:List α)(ys:List β):Prop:=xs.length=ys.length∧∀(i:Nat) (x:α) (y:β),xs[i]? =some x→ys[i]? =some y→R x y
theorem Yx.nil{α β:Type}{R:α→β→Prop}:Yx R [] []:=⟨rfl,fun i x y h=>by simp at h⟩
theorem Yx.cons{α β:Type}{R:α→β→Prop}{x:α}{y:β}{xs:List α}{ys:List β}(h:R x y)(t:Yx R xs ys):Yx R (x::xs) (y::ys):=by
 refine⟨by simp[t.1],fun i a b ha hb=>?_⟩;cases i with
 |zero=>simp at ha hb;subst ha;subst hb;exact h
 |succ i=>simp at ha hb;exact t.2 i a b ha hb
theorem Yx.mono{α β:Type}{R R':α→β→Prop}(hR:∀x y,R x y→R' x y){xs:List α}{ys:List β}(h:Yx R xs ys):Yx R' xs ys:=⟨h.1,fun i x y a b=>hR _ _ (h.2 i x y a b)⟩
theorem Yx.get{α β:Type}{R:α→β→Prop}{xs:List α}{ys:List β}(h:Yx R xs ys){i:Nat}{x:α}(hx:xs[i]? =some x):∃y,ys[i]? =some y∧R x y:=by
 have hi:i<ys.length:=by rw[←h.1];exact(ah.1 hx).1
 exact⟨ys[i],aa hi,h.2 i x _ hx (aa hi)⟩
theorem Yx.take{α β:Type}{R:α→β→Prop}{xs:List α}{ys:List β}(h:Yx R xs ys)(n:Nat):Yx R (xs.take n) (ys.take n):=by
 refine⟨by simp[h.1],fun i x y a b=>?_⟩;rw[bm]at a b;split at a
 ·rename_i hlt;simp[hlt]at b;exact h.2 i x y a b
 ·cases a
theorem Yx.drop{α β:Type}{R:α→β→Prop}{xs:List α}{ys:List β}(h:Yx R xs ys)(n:Nat):Yx R (xs.drop n) (ys.drop n):=by
 refine⟨by simp[h.1],fun i x y a b=>?_⟩;rw[cw]at a b;exact h.2 _ x y a b
theorem Yx.app{α β:Type}{R:α→β→Prop}{xs xs':List α}{ys ys':List β}(h:Yx R xs ys)(k:Yx R xs' ys'):Yx R (xs++xs') (ys++ys'):=by
 refine⟨by simp[h.1,k.1],fun i x y a b=>?_⟩;rcases cp i xs.length with g|g
 ·rw[bu g]at a;rw[bu (by rw[←h.1];exact g)]at b;exact h.2 i x y a b
 ·rw[bz g]at a;rw[bz (by rw[←h.1];exact g),←h.1]at b;exact k.2 _ x y a b
section
variable (w:World) (N:Nat→Prop) (β:K3)
def Yq:Cx→Value→Prop
 | .c v,u=>XH w N v u
 | .own b,u=>β b=some u∧∃a n c,u= .slice a n c
 | .ptr b off,u=>∃g,β b=some (.pointer (some ⟨g,0,none⟩))∧u= .pointer (some ⟨g,off,none⟩)
 | .map b,u=>∃g,β b=some (.map (some g))∧u= .map (some g)
 | .dead,u=>u.oneCell'=true
inductive XY:EV→Value→Prop
 |one {x:Cx} {u:Value} (h:Yq w N β x u):XY (.one x) u
 |agg {xs:List Cx} {us:Array Value} (h:Yx (Yq w N β) xs us.toList):XY (.agg xs) (.agg us)
 |tup {l:List EV} {us:Array Value} (hl:l.length=us.size) (h:∀(i:Nat) (x:EV) (u:Value),l[i]? =some x→us[i]? =some u→XY x u):XY (.tup l) (.tuple us)
 |ep {els:List (List Cv)} {i off len cap:Nat} {a:Addr} {esz:Nat} (hs:XH w N (.sl false esz els) (.slice (some a) len cap)) (hi:i<els.length):
   XY (.ep esz els i off) (.pointer (some (a.add (i*esz+off))))
 |rp {b i off esz:Nat} {g n c:Nat} (hb:β b=some (.slice (some ⟨g,0,none⟩) n c)):XY (.rp b esz i off) (.pointer (some ⟨g,i*esz+off,none⟩))
 |any {u:Value}:XY .any u
def ORel:OB→Value→Prop
 | .box xs,u=>∃g arr t,u= .pointer (some ⟨g,0,none⟩)∧w.heap[g]? =some (.cells arr t (0,0))∧Yx (Yq w N β) xs arr.toList
 | .row z t esz els,u=>∃cells,w.ownsRow 0 t esz u els.length cells∧(z=true↔u= .slice none 0 0)∧(∀(i:Nat) (es:List Cv),els[i]? =some es→es.length=esz)∧
   ∀i j c,cellAt els i j=some c→∃x,cells[i*esz+j]? =some x∧XH w N c x
 | .map es,u=>∃g arr clock,u= .map (some g)∧w.heap[g]? =some (.map arr clock)∧Yx (fun(p:Cv×Cv) (e:MapEntry)=>XH w N p.1 e.key∧XH w N p.2 e.val) es arr.toList
end
def refs:Cx→Option Nat
 | .own b| .ptr b _| .map b=>some b
 |_=>none
theorem Yq.mono{w w':World}{N N':Nat→Prop}{β β':K3}{x:Cx}{u:Value}(h:Yq w N β x u)(hN:∀g,N g→N' g)(hc:∀g,N g→w'.heap[g]? =w.heap[g]?)
  (hb:∀b,refs x=some b→β' b=β b):Yq w' N' β' x u:=by
 cases x with
 |c v=>exact XH.mono h hN hc
 |own b=>obtain⟨h,k⟩:=h;exact⟨by rw[hb b rfl];exact h,k⟩
 |ptr b off=>obtain⟨g,h,k⟩:=h;exact⟨g,by rw[hb b rfl];exact h,k⟩
 |map b=>obtain⟨g,h,k⟩:=h;exact⟨g,by rw[hb b rfl];exact h,k⟩
 |dead=>exact h
theorem Yq.one{w:World}{N:Nat→Prop}{β:K3}{x:Cx}{u:Value}(h:Yq w N β x u):u.oneCell'=true:=by
 cases x with
 |c v=>exact XH.one h
 |own b=>obtain⟨_,a,n,c,rfl⟩:=h;rfl
 |ptr b off=>obtain⟨g,_,rfl⟩:=h;rfl
 |map b=>obtain⟨g,_,rfl⟩:=h;rfl
 |dead=>exact h
def XP(M:Nat→Prop)(w:World)(β:K3)(g:Nat):Prop:=(g<w.heap.size∧M g)∧∀b u,β b=some u→blk u≠some g
inductive XR:EV→Nat→Prop
 |one {x:Cx} {b:Nat} (h:refs x=some b):XR (.one x) b
 |agg {xs:List Cx} {x:Cx} {b:Nat} (hx:x∈xs) (h:refs x=some b):XR (.agg xs) b
 |tup {l:List EV} {x:EV} {b:Nat} (hx:x∈l) (h:XR x b):XR (.tup l) b
 |rp {b esz i off:Nat}:XR (.rp b esz i off) b
theorem XY.mono{w w':World}{N N':Nat→Prop}{β β':K3}{v:EV}{u:Value}(h:XY w N β v u)(hN:∀g,N g→N' g)(hc:∀g,N g→w'.heap[g]? =w.heap[g]?)
  (hb:∀b,XR v b→β' b=β b):XY w' N' β' v u:=by
 induction h with
 |one h=>exact .one (h.mono hN hc fun b hr=>hb b (.one hr))
 |agg h=>exact .agg ⟨h.1,fun i x y a c=>(h.2 i x y a c).mono hN hc fun b hr=>hb b (.agg (bb a) hr)⟩
 |tup hl _ ih=>exact .tup hl fun i x u a c=>ih i x u a c fun b hr=>hb b (.tup (bb a) hr)
 |ep hs hi=>exact .ep (hs.mono hN hc) hi
 |rp h=>exact .rp (by rw[hb _ .rp];exact h)
 |any=>exact .any
structure DH(st:St):Prop where
 env:∀t v b,look st.env t=some v→XR v b→look st.H b≠none
 obj:∀k xs x b,look st.H k=some (.box xs)→x∈xs→refs x=some b→look st.H b≠none
structure Fr(base:Nat)(E:Nat→Prop)(w0 w:World):Prop where
 os:w.os=w0.os
 tape:w.tape=w0.tape
 output:w.output=w0.output
 size:w0.heap.size≤w.heap.size
 block:∀k,k<base→¬E k→w.heap[k]? =w0.heap[k]?
theorem Fr.refl(base:Nat)(E:Nat→Prop)(w:World):Fr base E w w:=⟨rfl,rfl,rfl,ak _,fun _ _ _=>rfl⟩
theorem Fr.trans{base:Nat}{E:Nat→Prop}{a b c:World}(h:Fr base E a b)(k:Fr base E b c):Fr base E a c:=
 ⟨k.os.trans h.os,k.tape.trans h.tape,k.output.trans h.output,bd h.size k.size,fun i hi he=>(k.block i hi he).trans (h.block i hi he)⟩
theorem Fr.below{base:Nat}{w0 w:World}(h:Fr base (fun _=>False) w0 w):Below base w0 w:=⟨h.os,h.tape,h.output,h.size,fun k hk=>h.block k hk id⟩
theorem Fr.of_below{base:Nat}{E:Nat→Prop}{w0 w:World}(h:Below base w0 w):Fr base E w0 w:=⟨h.os,h.tape,h.output,h.size,fun k hk _=>h.block k hk⟩
structure Rel(base:Nat)(E M:Nat→Prop)(w0:World)(β:K3)(st:St)(tm:Array Value)(w:World):Prop where
 fr:Fr base E w0 w
 le:base≤w.heap.size
 env:∀t v,look st.env t=some v→∃u,tm[t]? =some u∧XY w (XP M w β) β v u
 obj:∀b ob,look st.H b=some ob→∃u,β b=some u∧ORel w (XP M w β) β ob u
 at_:∀b u g,β b=some u→blk u=some g→(base≤g∨E g)∧g<w.heap.size
 inj:∀b b' u u' g,β b=some u→β b'=some u'→blk u=some g→blk u'=some g→b=b'
 dom:∀b u,β b=some u→look st.H b≠none
 cl:DH st
 may:∀g,base≤g∨E g→M g
end
section
structure Ty where
 desc:TypeDesc
 size:Nat
 bytes:Nat
 zero:List Cv
 agg:Bool
 eq:Bool
def bZ:TypeDesc→Bool
 | .struct _| .array _ _=>true
 |_=>false
structure bB(P:Program)(t:TypeId)(T:Ty):Prop where
 und:P.underlying t=some T.desc
 agg:T.agg=bZ T.desc
 info:∃info z,P.info? t=some info∧info.size=T.size∧info.bytes=T.bytes∧info.zero=some z∧(∀w N,Yx (XH w N) T.zero z.cells.toList)∧T.zero.length=T.size∧(T.agg=true→∃cs,z= .agg cs)∧(T.agg=false→z.oneCell'=true)
 eq:T.eq=true→P.stoodInHeld t=false∧P.eqGuardType P.depth t=false
def KJ(P:Program)(ty:TypeId→Option Ty):Prop:=∀t T,ty t=some T→bB P t T
section
variable {P:Program} {t:TypeId} {T:Ty} (h:bB P t T) (w:World)
include h
theorem bB.underlying:(underlying t).run P w= .ok T.desc w:=by simp[Go.underlying,h.und]
theorem bB.sizeOf:(sizeOf t).run P w= .ok T.size w:=by
 obtain⟨info,z,a,b,_⟩:=h.info;simp[Go.sizeOf,Go.typeInfo,a,b]
theorem bB.isAgg:(isAgg t).run P w= .ok T.agg w:=by
 simp only[Go.isAgg,ag,h.underlying,ae,h.agg];unfold bZ;split<;>simp_all
end
def cEV:Value→Option EV
 | .slice none 0 0=>some (.one (.c (.sl true 0 [])))
 | .agg _=>none
 | .tuple _=>none
 |v=>if v.oneCell'=true then some (.one (.c (.sc v)))else none
def evO(st:St):Operand→Option EV
 | .tmp t=>look st.env t
 | .const v=>cEV v
 | .func f=>some (.one (.c (.sc (.func (.func f) #[] #[]))))
 | .global _=>none
abbrev iv(k:IntKind)(n:Int):EV:= .one (.c (.sc (.int k n)))
abbrev bv(b:Bool):EV:= .one (.c (.sc (.bool b)))
section
variable {P:Program} {base:Nat} {E M:Nat→Prop} {w0 w:World} {β:K3} {st:St} {a:Act}
theorem evO_ok(R:Rel base E M w0 β st a.tmps w){x:Operand}{v:EV}(h:evO st x=some v):XY w (XP M w β) β v (a.eval x)∧∀b,XR v b→look st.H b≠none:=by
 cases x with
 |tmp t=>
  obtain⟨u,hu,hr⟩:=R.env t v h;refine⟨?_,fun b hb=>R.cl.env t v b h hb⟩;simp only[Act.eval,bi,hu];exact hr
 |const c=>
  simp only[evO]at h;unfold cEV at h;split at h
  ·injection h with h;subst h;exact⟨.one .nil,fun b hb=>by cases hb with|one h=>cases h⟩
  ·cases h
  ·cases h
  ·split at h
   ·rename_i ho;injection h with h;subst h;exact⟨.one (.sc ho),fun b hb=>by cases hb with|one h=>cases h⟩
   ·cases h
 |func f=>
  simp only[evO]at h;injection h with h;subst h;exact⟨.one (.sc rfl),fun b hb=>by cases hb with|one h=>cases h⟩
 |global g=>cases h
def VOk(P:Program)(st:St)(o:Oper)(v:EV):Prop:=
 ∀{base:Nat} {E M:Nat→Prop} {w0 w:World} {β:K3} {a:Act},Rel base E M w0 β st a.tmps w→
  ∃u,(execOp a.eval o).run P w= .ok (.value u) w∧XY w (XP M w β) β v u∧∀b,XR v b→look st.H b≠none
theorem no_refs{c:Cv}{b:Nat}(h:XR (.one (.c c)) b):False:=by cases h with|one h=>cases h
theorem XY.int{N:Nat→Prop}{k:IntKind}{n:Int}{u:Value}(h:XY w N β (iv k n) u):u= .int k n:=by
 cases h with|one h=>cases h with|sc h=>rfl
theorem XY.bool{N:Nat→Prop}{b:Bool}{u:Value}(h:XY w N β (bv b) u):u= .bool b:=by
 cases h with|one h=>cases h with|sc h=>rfl
theorem XY.sc{N:Nat→Prop}{v u:Value}(h:XY w N β (.one (.c (.sc v))) u):u=v:=by
 cases h with|one h=>cases h with|sc h=>rfl
def kI(op:BinOp)(k:IntKind)(x y:Int):Option (Prop×Value):=
 match op with
 | .add=>some (True, .int k (k.wrap (x+y)))
 | .sub=>some (True, .int k (k.wrap (x - y)))
 | .mul=>some (True, .int k (k.wrap (x*y)))
 | .quo=>some (y≠0, .int k (k.wrap (x.tdiv y)))
 | .rem=>some (y≠0, .int k (x.tmod y))
 | .eql=>some (True, .bool (decide (x=y)))
 | .neq=>some (True, .bool (!decide (x=y)))
 | .lss=>some (True, .bool (decide (x<y)))
 | .leq=>some (True, .bool (decide (x≤y)))
 | .gtr=>some (True, .bool (decide (y<x)))
 | .geq=>some (True, .bool (decide (y≤x)))
 |_=>none
theorem Ng{op:BinOp}{k:IntKind}{x y:Int}{p:Prop}{v:Value}(h:kI op k x y=some (p,v))(hp:p)(t:TypeId)(w:World):
  (binOp op t (.int k x) (.int k y)).run P w= .ok v w∧v.oneCell'=true:=by
 unfold kI at h;split at h<;>first
  |cases h;done
  |(simp only[ab,af]at h
    obtain⟨rfl,rfl⟩:=h;refine⟨?_,rfl⟩
    first
     |(simp[binOp,Op.intArith];done)
     |(simp[binOp,Op.intDiv,hp];done)
     |(simp[binOp,Op.intCmp];done)
     |(simp[binOp,Op.intCmp];rfl))
def shI(op:BinOp)(k:IntKind)(x y:Int):Option (Prop×Value):=
 match op with
 | .shl=>some (0≤y, .int k (k.wrap (x*2^min y.toNat k.bits)))
 | .shr=>some (0≤y, .int k (x / 2^min y.toNat k.bits))
 |_=>none
theorem Sg{op:BinOp}{k k':IntKind}{x y:Int}{p:Prop}{v:Value}(h:shI op k x y=some (p,v))(hp:p)(t:TypeId)(w:World):
  (binOp op t (.int k x) (.int k' y)).run P w= .ok v w∧v.oneCell'=true:=by
 unfold shI at h;split at h
 ·simp only[ab,af]at h;obtain⟨rfl,rfl⟩:=h;exact⟨by rw[binOp_shl,shift_shl_any _ _ _ _ hp];rfl,rfl⟩
 ·simp only[ab,af]at h;obtain⟨rfl,rfl⟩:=h;exact⟨by rw[binOp_shr,shift_shr_any _ _ _ _ hp];rfl,rfl⟩
 ·cases h
def kH(op:BinOp)(k:IntKind)(x y:Int):Option Int:=
 match op with
 | .and=>some (k.wrap (BitVec.ofInt k.bits x&&& BitVec.ofInt k.bits y).toNat)
 | .or=>some (k.wrap (BitVec.ofInt k.bits x|||BitVec.ofInt k.bits y).toNat)
 | .xor=>some (k.wrap (BitVec.ofInt k.bits x^^^BitVec.ofInt k.bits y).toNat)
 | .andNot=>some (k.wrap (BitVec.ofInt k.bits x&&& ~~~BitVec.ofInt k.bits y).toNat)
 |_=>none
theorem Nf{op:BinOp}{k:IntKind}{x y r:Int}(h:kH op k x y=some r)(t:TypeId)(w:World):
  (binOp op t (.int k x) (.int k y)).run P w= .ok (.int k r) w:=by
 unfold kH at h;split at h<;>first
  |cases h;done
  |(injection h with h;subst h;simp[binOp,Op.intBits])
def bW(ty:TypeId→Option Ty):List Field→Option (List (Nat×Nat))
 |[]=>some []
 |f::r=>if f.name= "_" then bW ty r else
  match ty f.type,bW ty r with
  |some T,some l=>(match T.desc with
   | .int _=>some ((f.offset,0)::l)
   | .bool=>some ((f.offset,1)::l)
   | .string=>some ((f.offset,2)::l)
   |_=>none)
  |_,_=>none
def eqC:Nat→Value→Value→Option Bool
 |0, .int k a, .int k' b=>if k=k' then some (a==b)else none
 |1, .bool a, .bool b=>some (a==b)
 |2, .string a, .string b=>some (a.toList==b.toList)
 |_,_,_=>none
def Ox(xs ys:List Cx):List (Nat×Nat)→Option Bool
 |[]=>some true
 |(o,k)::r=>match xs[o]?,ys[o]? with
  |some (.c (.sc u)),some (.c (.sc v))=>(match eqC k u v,Ox xs ys r with
   |some b,some c=>some (b&&c)
   |_,_=>none)
  |_,_=>none
def eqE(ty:TypeId→Option Ty)(t:TypeId)(xs ys:List Cx):Option Bool:=
 match ty t with
 |some T=>if T.eq=true then(match(match T.desc with| .struct fs=>bW ty fs.toList|_=>none)with|some l=>Ox xs ys l|none=>none)else none
 |none=>none
theorem BA{T:Ty}{t:TypeId}(I:bB P t T)(ha:T.agg=false){us:Array Value}{o:Nat}{v:Value}(h:us[o]? =some v)(w:World):(part t us o).run P w= .ok v w:=by
 simp only[part,ag,I.isAgg,ha,ae,de,dg,h,am]
theorem WN{ty:TypeId→Option Ty}(C:KJ P ty){N:Nat→Prop}{xs ys:List Cx}{us vs:Array Value}(hx:Yx (Yq w N β) xs us.toList)(hy:Yx (Yq w N β) ys vs.toList)(d:Nat):
  ∀(fs:List Field) (l:List (Nat×Nat)) (r:Bool),bW ty fs=some l→Ox xs ys l=some r→(Op.eqFields (d+1) us vs fs).run P w= .ok r w:=by
 have cell:∀{xs:List Cx} {us:Array Value} {o:Nat} {v:Value},Yx (Yq w N β) xs us.toList→xs[o]? =some (.c (.sc v))→us[o]? =some v:=by
  intro xs us o v h hv;obtain⟨u,hu,hr⟩:=h.get hv;have hr':XH w N (.sc v) u:=hr;cases hr';simpa using hu
 intro fs
 induction fs with
 |nil=>intro l r h1 h2;injection h1 with h1;subst h1;injection h2 with h2;subst h2;simp[Op.eqFields]
 |cons f fs ih=>
  intro l r h1 h2;simp only[bW]at h1;split at h1
  ·rename_i hn;simp only[Op.eqFields,hn,ne_eq,not_true_eq_false,dg];exact ih l r h1 h2
  ·rename_i hn;split at h1
   ·rename_i T l' hT hl';have I:=C _ _ hT;have step:∀k,l=(f.offset,k)::l'→(∀u v b,eqC k u v=some b→(Op.equalIn (d+1) f.type u v).run P w= .ok b w)→T.agg=false→(Op.eqFields (d+1) us vs (f::fs)).run P w= .ok r w:=by
     intro k hl hk ha;subst hl;simp only[Ox]at h2;split at h2
     ·rename_i u v hu hv;split at h2
      ·rename_i b c hb hc;injection h2 with h2;subst h2;have e1:=BA I ha (cell hx hu) w;have e2:=BA I ha (cell hy hv) w;simp only[Op.eqFields,ne_eq,hn,jq,if_true,ag,e1,e2,ae,hk u v b hb];cases b with
       |false=>simp
       |true=>simpa using ih l' c hl' hc
      ·cases h2
     ·cases h2
    split at h1
    ·rename_i k hd;injection h1 with h1;refine step 0 h1.symm (fun u v b hb=>?_) (by rw[I.agg,hd];rfl);have hu:=I.und;rw[hd]at hu;unfold eqC at hb;split at hb<;>first|cases ‹(0:Nat)=_› |skip
     ·split at hb
      ·rename_i hk;subst hk;injection hb with hb;subst hb;exact run_equalIn_int w d _ _ _ _ _ hu
      ·cases hb
     ·cases hb
    ·rename_i hd;injection h1 with h1;refine step 1 h1.symm (fun u v b hb=>?_) (by rw[I.agg,hd];rfl);have hu:=I.und;rw[hd]at hu;unfold eqC at hb;split at hb<;>first|cases ‹(1:Nat)=_› |skip
     ·injection hb with hb;subst hb;exact run_equalIn_bool' w d _ _ _ hu
     ·cases hb
    ·rename_i hd;injection h1 with h1;refine step 2 h1.symm (fun u v b hb=>?_) (by rw[I.agg,hd];rfl);have hu:=I.und;rw[hd]at hu;unfold eqC at hb;split at hb<;>first|cases ‹(2:Nat)=_› |skip
     ·injection hb with hb;subst hb;exact run_equalIn_string w d _ _ _ hu
     ·cases hb
    ·cases h1
   ·cases h1
theorem CN{ty:TypeId→Option Ty}(C:KJ P ty){N:Nat→Prop}{t:TypeId}{xs ys:List Cx}{r:Bool}(h:eqE ty t xs ys=some r){us vs:Array Value}(hx:Yx (Yq w N β) xs us.toList)(hy:Yx (Yq w N β) ys vs.toList):
  P.eqGuardType P.depth t=false∧(Op.equalIn 10000 t (.agg us) (.agg vs)).run P w= .ok r w:=by
 unfold eqE at h;split at h
 ·rename_i T hT;have I:=C t T hT;split at h
  ·rename_i he;obtain⟨h1,h2⟩:=I.eq he;refine⟨h2,?_⟩;split at h
   ·rename_i l hl;split at hl
    ·rename_i fs hd;have hu:=I.und;rw[hd]at hu;have hf:P.fieldsOf t=fs:=by simp[Program.fieldsOf,hu]
     have:=run_equalIn_agg (P:=P) w 9999 t us vs (by rw[hf];exact hu) h1;rw[this,hf];exact WN C hx hy 9998 fs.toList l r hl h
    ·cases hl
   ·cases h
  ·cases h
 ·cases h
def kJ(ty:TypeId→Option Ty)(op:BinOp)(t:TypeId)(x y:EV):Option (Prop×EV):=
 match x,y with
 | .one (.c (.sc (.int k a))), .one (.c (.sc (.int k' b)))=>
  match shI op k a b with
  |some (p,v)=>some (p, .one (.c (.sc v)))
  |none=>
   if k=k' then
    match kH op k a b with
    |some r=>some (True,iv k r)
    |none=>match kI op k a b with
     |some (p,v)=>some (p, .one (.c (.sc v)))
     |none=>none
   else none
 | .one (.c (.sc (.bool a))), .one (.c (.sc (.bool b)))=>
  match ty t with
  |some T=>match T.desc,op with
   | .bool, .eql=>some (True,bv (a==b))
   | .bool, .neq=>some (True,bv (!(a==b)))
   |_,_=>none
  |none=>none
 | .one (.c (.sc (.string a))), .one (.c (.sc (.string b)))=>
  match op with
  | .eql=>some (True,bv (a.toList==b.toList))
  | .neq=>some (True,bv (!(a.toList==b.toList)))
  |_=>none
 | .one (.c (.sl z _ _)), .one (.c (.sl true _ []))=>
  match ty t with
  |some T=>match T.desc,op with
   | .slice _, .eql=>some (True,bv z)
   | .slice _, .neq=>some (True,bv (!z))
   |_,_=>none
  |none=>none
 | .agg xs, .agg ys=>
  match op with
  | .eql=>(match eqE ty t xs ys with|some b=>some (True,bv b)|none=>none)
  | .neq=>(match eqE ty t xs ys with|some b=>some (True,bv (!b))|none=>none)
  |_=>none
 |_,_=>none
theorem aI{ty:TypeId→Option Ty}(C:KJ P ty){op:BinOp}{t:TypeId}{x y v:EV}{p:Prop}(h:kJ ty op t x y=some (p,v))(hp:p){N:Nat→Prop}{u u':Value}(hx:XY w N β x u)(hy:XY w N β y u')(xo yo:Operand):
  ∃r,((do eqGuard op t xo yo u u';binOp op t u u':Sem Value)).run P w= .ok r w∧XY w N β v r∧∀b,¬XR v b:=by
 unfold kJ at h;split at h
 ·rename_i k a k' b;rw[hx.int,hy.int];have hg:eqGuard op t xo yo (.int k a) (.int k' b)=pure ():=eqGuard_at_int ..;split at h
  ·rename_i p' v' hs;simp only[ab,af]at h;obtain⟨rfl,rfl⟩:=h;obtain⟨h1,h2⟩:=Sg (P:=P) (k':=k') hs hp t w;exact⟨v',by simp[hg,h1], .one (.sc h2),fun b hb=>no_refs hb⟩
  ·split at h
   ·rename_i hk;subst hk;split at h
    ·rename_i r hb;simp only[ab,af]at h;obtain⟨rfl,rfl⟩:=h;exact⟨_,by simp[hg,Nf hb t w], .one (.sc rfl),fun b hb=>no_refs hb⟩
    ·split at h
     ·rename_i p' v' hs;simp only[ab,af]at h;obtain⟨rfl,rfl⟩:=h;obtain⟨h1,h2⟩:=Ng (P:=P) hs hp t w;exact⟨v',by simp[hg,h1], .one (.sc h2),fun b hb=>no_refs hb⟩
     ·cases h
   ·cases h
 ·rename_i a b;rw[hx.bool,hy.bool];have hg:eqGuard op t xo yo (.bool a) (.bool b)=pure ():=eqGuard_at_bool ..;split at h
  ·rename_i T hT;split at h
   ·rename_i hd;simp only[ab,af]at h;obtain⟨rfl,rfl⟩:=h;exact⟨_,by simp[hg,run_eql_bool (w:=w) t a b (by rw[(C t T hT).und,hd])], .one (.sc rfl),fun b hb=>no_refs hb⟩
   ·rename_i hd;simp only[ab,af]at h;obtain⟨rfl,rfl⟩:=h;exact⟨_,by simp[hg,run_neq_bool (w:=w) t a b (by rw[(C t T hT).und,hd])], .one (.sc rfl),fun b hb=>no_refs hb⟩
   ·cases h
  ·cases h
 ·rename_i a b;rw[hx.sc,hy.sc];have hg:eqGuard op t xo yo (.string a) (.string b)=pure ():=eqGuard_at_string ..;split at h
  ·simp only[ab,af]at h;obtain⟨rfl,rfl⟩:=h;exact⟨_,by simp[hg,binOp_string_eql], .one (.sc rfl),fun b hb=>no_refs hb⟩
  ·simp only[ab,af]at h;obtain⟨rfl,rfl⟩:=h;exact⟨_,by simp[hg,binOp_string_neq], .one (.sc rfl),fun b hb=>no_refs hb⟩
  ·cases h
 ·rename_i z e1 l1 e2;have hy':u'= .slice none 0 0:=by cases hy with|one hy=>cases hy with|nil=>rfl
  subst hy';obtain⟨a,n',c',rfl,ha⟩:∃a n' c',u= .slice a n' c'∧a.isNone=z:=by
   cases hx with|one hx=>
   cases hx with
   |nil=>exact⟨_,_,_,rfl,rfl⟩
   |sl=>exact⟨_,_,_,rfl,rfl⟩
  have hg:eqGuard op t xo yo (.slice a n' c') (.slice none 0 0)=pure ():=by cases op<;>rfl
  split at h
  ·rename_i T hT;split at h
   ·rename_i el hd;simp only[ab,af]at h;obtain⟨rfl,rfl⟩:=h;have hu:=(C t T hT).und;rw[hd]at hu;exact⟨.bool z,by simp only[hg,ag,am,ae];rw[Lib.run_eql_slice_nil w t el a n' c' 0 0 hu,ha], .one (.sc rfl),fun b hb=>no_refs hb⟩
   ·rename_i el hd;simp only[ab,af]at h;obtain⟨rfl,rfl⟩:=h;have hu:=(C t T hT).und;rw[hd]at hu;exact⟨.bool (!z),by simp only[hg,ag,am,ae];subst ha;simp only[binOp];simp[Op.equal,Op.maxDepth,Lib.run_equalIn_slice_nil w 9999 t el a n' c' 0 0 hu], .one (.sc rfl),fun b hb=>no_refs hb⟩
   ·cases h
  ·cases h
 ·rename_i xs ys;cases hx with| @agg _ us hx=>
  cases hy with| @agg _ vs hy=>
  split at h
  ·split at h
   ·rename_i b hb;simp only[ab,af]at h;obtain⟨rfl,rfl⟩:=h;obtain⟨g1,g2⟩:=CN C hb hx hy;refine⟨.bool b,?_, .one (.sc rfl),fun b hb=>no_refs hb⟩;simp only[ag,run_eqGuard_agg w _ t xo yo us vs g1,ae,run_eql_struct,g2]
   ·cases h
  ·split at h
   ·rename_i b hb;simp only[ab,af]at h;obtain⟨rfl,rfl⟩:=h;obtain⟨g1,g2⟩:=CN C hb hx hy;refine⟨.bool (!b),?_, .one (.sc rfl),fun b hb=>no_refs hb⟩;simp only[ag,run_eqGuard_agg w _ t xo yo us vs g1,ae,run_neq_struct,g2]
   ·cases h
  ·cases h
 ·cases h
end
end
section
section
variable {P:Program} {base:Nat} {E M:Nat→Prop} {w0 w:World} {β:K3} {st:St} {a:Act} {N:Nat→Prop}
theorem add_block(a:Addr)(n:Nat):(a.add n).block=a.block:=by unfold Addr.add;split<;>rfl
theorem add_add'(a:Addr)(i j:Nat):(a.add i).add j=a.add (i+j):=by
 unfold Addr.add;by_cases hi:i=0<;>by_cases hj:j=0<;>simp[hi,hj,di]
theorem DB(b o j:Nat):(⟨b,o,none⟩:Addr).add j=⟨b,o+j,none⟩:=by
 unfold Addr.add;split
 ·rename_i h;subst h;rfl
 ·rfl
theorem Bp{a:Addr}:∀(us:List Value) (i:Nat) (acc:Array Value),(∀j u,us[j]? =some u→w.cell? (a.add (i+j))=some u)→
  (loadCellsFrom a i us.length acc).run P w= .ok (acc++us.toArray) w
 |[],i,acc,_=>by simp[loadCellsFrom]
 |u::us,i,acc,h=>by
  simp only[cm,loadCellsFrom,ag];have h0:=h 0 u rfl;rw[dy]at h0;rw[run_load,h0];simp only[ae];have:=Bp us (i+1) (acc.push u) (fun j v hv=>by
   have:=h (j+1) v (by simpa using hv);rw[show i+1+j=i+(j+1) by omega];exact this)
  rw[this];simp
theorem Hm{ty:TypeId→Option Ty}(C:KJ P ty){t:TypeId}{T:Ty}(hT:ty t=some T){a:Addr}{us:List Value}(hl:us.length=T.size)(h:∀j u,us[j]? =some u→w.cell? (a.add j)=some u)(h1:T.agg=false→T.size=1):
  (loadVar t a).run P w= .ok (if T.agg=true then .agg us.toArray else us.getD 0 undef) w:=by
 have I:=C t T hT;cases hg:T.agg with
 |true=>
  have:=Bp (P:=P) (w:=w) (a:=a) us 0 #[] (fun j u hu=>by rw[bf];exact h j u hu);rw[hl]at this;simp[loadVar,I.isAgg,hg,I.sizeOf,loadCells,this]
 |false=>
  have h1:=h1 hg;obtain⟨u,rfl⟩:∃u,us=[u]:=by
   match us,hl with
   |[u],_=>exact⟨u,rfl⟩
   |[],hl=>simp at hl;omega
   |_::_::_,hl=>simp at hl;omega
  have:=h 0 u rfl;simp[loadVar,I.isAgg,hg,run_load,Addr.add]at this⊢;rw[this]
def Hs(T:Ty)(xs:List Cx):Option (Prop×EV):=
 if T.agg=true then some (xs.length=T.size, .agg xs)else some (T.size=1∧xs.length=1, .one (xs.getD 0 .dead))
theorem GR{T:Ty}{xs:List Cx}{p:Prop}{v:EV}(h:Hs T xs=some (p,v))(hp:p){us:List Value}(hx:Yx (Yq w N β) xs us):
  us.length=T.size∧(T.agg=false→T.size=1)∧XY w N β v (if T.agg=true then .agg us.toArray else us.getD 0 undef)∧∀b,XR v b→∃x∈xs,refs x=some b:=by
 unfold Hs at h;split at h
 ·rename_i ha;simp only[ab,af]at h;obtain⟨rfl,rfl⟩:=h;refine⟨by rw[←hx.1];exact hp,fun g=>(by rw[ha]at g;cases g),by rw[if_pos ha];exact .agg (by simpa using hx),fun b hb=>?_⟩;cases hb with|agg h1 h2=>exact⟨_,h1,h2⟩
 ·rename_i ha;simp only[ab,af]at h;obtain⟨rfl,rfl⟩:=h;obtain⟨p1,p2⟩:=hp
  match xs,p2,hx with
  |[x],_,hx=>
   match us,hx with
   |[u],hx=>
    refine⟨by simp[p1],fun _=>p1,?_,fun b hb=>?_⟩
    ·rw[if_neg ha];exact .one (hx.2 0 x u rfl rfl)
    ·cases hb with|one h=>exact⟨x,by simp,h⟩
   |[],hx=>have:=hx.1;simp at this
   |_::_::_,hx=>have:=hx.1;simp at this
def H3(ty:TypeId→Option Ty)(st:St)(t:TypeId)(x:EV):Option (Prop×EV):=
 match ty t with
 |none=>none
 |some T=>
  match x with
  | .one (.ptr b off)=>(match look st.H b with|some (.box xs)=>Hs T ((xs.drop off).take T.size)|_=>none)
  | .ep esz els i off=>(match Hs T ((((els.getD i []).drop off).take T.size).map Cx.c)with|some (p,v)=>some (off+T.size≤esz∧p,v)|none=>none)
  | .rp b esz i off=>(match look st.H b with
   |some (.row _ _ esz' els)=>(match Hs T ((((els.getD i []).drop off).take T.size).map Cx.c)with|some (p,v)=>some ((esz'=esz∧i<els.length∧off+T.size≤esz)∧p,v)|none=>none)
   |_=>none)
  |_=>none
theorem CQ(R:Rel base E M w0 β st a.tmps w){b:Nat}{xs:List Cx}(hb:look st.H b=some (.box xs)){g:Nat}(hg:β b=some (.pointer (some ⟨g,0,none⟩))):
  ∃arr t,w.heap[g]? =some (.cells arr t (0,0))∧Yx (Yq w (XP M w β) β) xs arr.toList:=by
 obtain⟨u,hu,g',arr,t,rfl,h1,h2⟩:=R.obj b _ hb;rw[hg]at hu;injection hu with hu;injection hu with hu;injection hu with hu;injection hu with hu;subst hu;exact⟨arr,t,h1,h2⟩
theorem EB{g o:Nat}{arr:Array Value}{t:TypeId}{fr:Nat×Nat}(h:w.heap[g]? =some (.cells arr t fr)):w.cell? ⟨g,o,none⟩=arr[o]?:=by
 simp[World.cell?,h]
theorem U3{xs:List Cx}{arr:Array Value}(h:Yx (Yq w N β) xs arr.toList)(off n:Nat):Yx (Yq w N β) ((xs.drop off).take n) ((arr.toList.drop off).take n):=(h.drop off).take n
theorem Oy{esz:Nat}{els:List (List Cv)}{a:Addr}{len cap i:Nat}(hs:XH w N (.sl false esz els) (.slice (some a) len cap))(hi:i<els.length):
  (els.getD i []).length=esz∧∃us:List Value,Yx (XH w N) (els.getD i []) us∧(∀j u,us[j]? =some u→w.cell? (a.add (i*esz+j))=some u):=by
 cases hs with
 |sl us hl hcap hz hc hr=>
  have he:els[i]? =some (els.getD i []):=by rw[ac,aa hi];rfl
  refine⟨hz i _ he,(List.range esz).map (us i),⟨by rw[hz i _ he];simp,fun j x y hx hy=>?_⟩,fun j u hu=>?_⟩
  ·have hj:=(ah.1 hx).1;rw[hz i _ he]at hj;simp[hj]at hy;subst hy;exact hr i j x (by unfold cellAt;rw[he];exact hx)
  ·have hj:=(ah.1 hu).1;simp at hj;simp[hj]at hu;subst hu;have hj':j<(els.getD i []).length:=by rw[hz i _ he];exact hj
   exact(hc i j _ (by unfold cellAt;rw[he];exact aa hj')).2
theorem Yx.map_c{xs:List Cv}{us:List Value}(h:Yx (XH w N) xs us):Yx (Yq w N β) (xs.map Cx.c) us:=by
 refine⟨by simp[h.1],fun i x y hx hy=>?_⟩;rw[an]at hx;cases hq:xs[i]? with
 |none=>rw[hq]at hx;cases hx
 |some c=>
  rw[hq]at hx;simp at hx;subst hx;exact h.2 i c y hq hy
theorem Vt{xs:List Cv}{x:Cx}{b:Nat}(hx:x∈xs.map Cx.c)(hr:refs x=some b):False:=by
 obtain⟨c,_,rfl⟩:=cy.1 hx;cases hr
theorem dF(R:Rel base E M w0 β st a.tmps w){b:Nat}{z:Bool}{t:TypeId}{esz:Nat}{els:List (List Cv)}(hb:look st.H b=some (.row z t esz els)){g n c:Nat}(hg:β b=some (.slice (some ⟨g,0,none⟩) n c)){i:Nat}(hi:i<els.length):
  (els.getD i []).length=esz∧∃us:List Value,Yx (XH w (XP M w β)) (els.getD i []) us∧(∀j u,us[j]? =some u→w.cell? ⟨g,i*esz+j,none⟩=some u):=by
 obtain⟨u,hu,cells,h1,h2,h3,h4⟩:=R.obj b _ hb;rw[hg]at hu;injection hu with hu;subst hu;have he:els[i]? =some (els.getD i []):=by rw[ac,aa hi];rfl
 refine⟨h3 i _ he,(List.range esz).map fun j=>cells.getD (i*esz+j) undef,⟨by rw[h3 i _ he];simp,fun j x y hx hy=>?_⟩,fun j u hu=>?_⟩
 ·have hj:=(ah.1 hx).1;rw[h3 i _ he]at hj;simp[hj]at hy;obtain⟨q,hq,hr⟩:=h4 i j x (by unfold cellAt;rw[he];exact hx);rw[hq]at hy;simp at hy;subst hy;exact hr
 ·have hj:=(ah.1 hu).1;simp at hj;simp[hj]at hu;have hj':j<(els.getD i []).length:=by rw[h3 i _ he];exact hj
  obtain⟨q,hq,hr⟩:=h4 i j _ (by unfold cellAt;rw[he];exact aa hj');rw[hq]at hu;simp at hu;subst hu;have:=h1.cells (g:=g) rfl _ _ hq
  rwa[DB,bf]at this
theorem Iz{ty:TypeId→Option Ty}(C:KJ P ty)(R:Rel base E M w0 β st a.tmps w){t:TypeId}{x v:EV}{p:Prop}(h:H3 ty st t x=some (p,v))(hp:p){u:Value}(hx:XY w (XP M w β) β x u):
  ∃r,(Instr.loadAt t u).run P w= .ok r w∧XY w (XP M w β) β v r∧∀b,XR v b→look st.H b≠none:=by
 unfold H3 at h;split at h
 ·cases h
 rename_i T hT;split at h
 ·rename_i b off;split at h
  ·rename_i xs hb;cases hx with|one hx=>
   obtain⟨g,hg,rfl⟩:=hx;obtain⟨arr,t',ha,hr⟩:=CQ R hb hg;obtain⟨h1,h2,h3,h4⟩:=GR h hp (U3 hr off T.size);refine⟨_,?_,h3,fun b' hb'=>?_⟩
   ·simp only[Instr.loadAt,Instr.sureAddr,ag,am,ae];refine Hm C hT h1 (fun j u hu=>?_) h2;rw[DB,EB ha];rw[bm]at hu;split at hu
    ·rw[cw]at hu;simpa using hu
    ·cases hu
   ·obtain⟨x,hx,hr'⟩:=h4 b' hb';exact R.cl.obj b xs x b' hb (List.mem_of_mem_drop (jf hx)) hr'
  ·cases h
 ·rename_i esz els i off;split at h
  ·rename_i p' v' h';simp only[ab,af]at h;obtain⟨rfl,rfl⟩:=h;cases hx with
   | @ep _ _ _ len cap a0 _ hs hi=>
   obtain⟨hz,us,h5,h6⟩:=Oy hs hi;have h7:Yx (Yq w (XP M w β) β) ((((els.getD i []).drop off).take T.size).map Cx.c) ((us.drop off).take T.size):=((h5.drop off).take T.size).map_c;obtain⟨h1,h2,h3,h4⟩:=GR h' hp.2 h7;refine⟨_,?_,h3,fun b' hb'=>?_⟩
   ·simp only[Instr.loadAt,Instr.sureAddr,ag,am,ae];refine Hm C hT h1 (fun j u hu=>?_) h2;rw[add_add'];rw[bm]at hu;split at hu
    ·rw[cw]at hu;rw[di];exact h6 _ _ hu
    ·cases hu
   ·obtain⟨x,hx,hr'⟩:=h4 b' hb';exact(Vt hx hr').elim
  ·cases h
 ·rename_i b esz i off;split at h
  ·rename_i z t' esz' els hb;split at h
   ·rename_i p' v' h';simp only[ab,af]at h;obtain⟨rfl,rfl⟩:=h;obtain⟨⟨rfl,hi,hle⟩,hp⟩:=hp;cases hx with
    |rp hβ=>
    obtain⟨hz,us,h5,h6⟩:=dF R hb hβ hi;have h7:Yx (Yq w (XP M w β) β) ((((els.getD i []).drop off).take T.size).map Cx.c) ((us.drop off).take T.size):=((h5.drop off).take T.size).map_c;obtain⟨h1,h2,h3,h4⟩:=GR h' hp h7;refine⟨_,?_,h3,fun b' hb'=>?_⟩
    ·simp only[Instr.loadAt,Instr.sureAddr,ag,am,ae];refine Hm C hT h1 (fun j u hu=>?_) h2;rw[DB];rw[bm]at hu;split at hu
     ·rw[cw]at hu;rw[di];exact h6 _ _ hu
     ·cases hu
    ·obtain⟨x,hx,hr'⟩:=h4 b' hb';exact(Vt hx hr').elim
   ·cases h
  ·cases h
 ·cases h
end
end
section
section
variable {P:Program} {base:Nat} {E M:Nat→Prop} {w0 w:World} {β:K3} {st:St} {a:Act} {N:Nat→Prop} {ty:TypeId→Option Ty}
def XL(ty:TypeId→Option Ty)(s:TypeId)(f:Nat):Option (Nat×Ty):=
 match ty s with
 |some T=>match T.desc with
  | .struct fs=>match fs[f]? with
   |some fd=>match ty fd.type with
    |some Tf=>some (fd.offset,Tf)
    |none=>none
   |none=>none
  |_=>none
 |none=>none
theorem Pp(_C:KJ P ty){s:TypeId}{f off:Nat}{Tf:Ty}(h:XL ty s f=some (off,Tf)):
  ∃T fs fd,ty s=some T∧T.desc= .struct fs∧fs[f]? =some fd∧fd.offset=off∧ty fd.type=some Tf:=by
 unfold XL at h;split at h
 ·rename_i T hT;split at h
  ·rename_i fs hd;split at h
   ·rename_i fd hf;split at h
    ·rename_i Tf' hTf;simp only[ab,af]at h;obtain⟨rfl,rfl⟩:=h;exact⟨T,fs,fd,hT,hd,hf,rfl,hTf⟩
    ·cases h
   ·cases h
  ·cases h
 ·cases h
def Jx(ty:TypeId→Option Ty)(s:TypeId)(x:EV)(f:Nat):Option EV:=
 match XL ty s f with
 |some (fo,Tf)=>
  if Tf.size=0 then none else
  match x with
  | .one (.ptr b off)=>some (.one (.ptr b (off+fo)))
  | .ep esz els i off=>some (.ep esz els i (off+fo))
  | .rp b esz i off=>some (.rp b esz i (off+fo))
  |_=>none
 |none=>none
theorem RL(C:KJ P ty){s:TypeId}{x v:EV}{f:Nat}(h:Jx ty s x f=some v){u:Value}(hx:XY w N β x u):
  ∃r,(Instr.fieldAt s u f).run P w= .ok r w∧XY w N β v r∧∀b,XR v b→XR x b:=by
 unfold Jx at h;split at h
 ·rename_i fo Tf hfo;obtain⟨T,fs,fd,hT,hd,hf,rfl,hTf⟩:=Pp C hfo;split at h
  ·cases h
  rename_i hs;have hu:=(C s T hT).underlying w;have hz:=(C _ Tf hTf).sizeOf w;rw[hd]at hu;split at h
  ·rename_i b off;injection h with h;subst h;cases hx with|one hx=>
   obtain⟨g,hg,rfl⟩:=hx;refine⟨.pointer (some ⟨g,off+fd.offset,none⟩),?_, .one ⟨g,hg,rfl⟩,fun b' hb'=>?_⟩
   ·simp[Instr.fieldAt,hu,hf,Instr.sureAddr,fieldPlace,hz,hs]
   ·cases hb' with|one h=>exact .one h
  ·rename_i esz els i off;injection h with h;subst h;cases hx with
   | @ep _ _ _ len cap a0 _ hs' hi=>
   refine⟨.pointer (some (a0.add (i*esz+(off+fd.offset)))),?_, .ep hs' hi,fun b' hb'=>by cases hb'⟩;simp[Instr.fieldAt,hu,hf,Instr.sureAddr,fieldPlace,hz,hs,add_add',di]
  ·rename_i b esz i off;injection h with h;subst h;cases hx with
   |rp hb=>
   refine⟨_,?_, .rp (off:=off+fd.offset) hb,fun b' hb'=>by cases hb';exact .rp⟩;simp[Instr.fieldAt,hu,hf,Instr.sureAddr,fieldPlace,hz,hs,di]
  ·cases h
 ·cases h
def NI(T:Ty)(xs:List Cx)(off:Nat):Option (Prop×EV):=Hs T ((xs.drop off).take T.size)
theorem Io(C:KJ P ty){t:TypeId}{T:Ty}(hT:ty t=some T){xs:List Cx}{off:Nat}{v:EV}{p:Prop}(h:NI T xs off=some (p,v))(hp:p){us:Array Value}(hx:Yx (Yq w N β) xs us.toList):
  ∃r,(part t us off).run P w= .ok r w∧XY w N β v r∧∀b,XR v b→∃x∈xs,refs x=some b:=by
 have I:=C t T hT;obtain⟨h1,h2,h3,h4⟩:=GR h hp (U3 hx off T.size);refine⟨_,?_,h3,fun b hb=>?_⟩
 ·cases hg:T.agg with
  |true=>
   simp only[part,ag,I.isAgg,hg,I.sizeOf,ae,if_true,am]
   congr 2
   apply fz;simp
  |false=>
   have hs:=h2 hg;rw[hs]at h1;have hlt:off<us.size:=by
    have:((us.toList.drop off).take T.size).length=1:=by rw[hs];exact h1
    simp at this;omega
   simp only[part,ag,I.isAgg,hg,ae,de,dg];rw[bw hlt];simp[hs,hlt]
 ·obtain⟨x,hx',hr⟩:=h4 b hb;exact⟨x,List.mem_of_mem_drop (jf hx'),hr⟩
def qk(ty:TypeId→Option Ty)(s:TypeId)(x:EV)(f:Nat):Option (Prop×EV):=
 match XL ty s f,x with
 |some (fo,Tf), .agg xs=>NI Tf xs fo
 |_,_=>none
theorem AV(C:KJ P ty){s:TypeId}{x v:EV}{f:Nat}{p:Prop}(h:qk ty s x f=some (p,v))(hp:p){u:Value}(hx:XY w N β x u):
  ∃r,(Instr.field s u f).run P w= .ok r w∧XY w N β v r∧∀b,XR v b→XR x b:=by
 unfold qk at h;split at h
 ·rename_i fo Tf xs hfo;obtain⟨T,fs,fd,hT,hd,hf,rfl,hTf⟩:=Pp C hfo;cases hx with
  | @agg _ us hx=>
  obtain⟨r,h1,h2,h3⟩:=Io C hTf h hp hx;have hu:=(C s T hT).underlying w;rw[hd]at hu;refine⟨r,?_,h2,fun b hb=>?_⟩
  ·simp[Instr.field,hu,hf,asAgg,h1]
  ·obtain⟨x,hm,hr⟩:=h3 b hb;exact .agg hm hr
 ·cases h
def elemOf(ty:TypeId→Option Ty)(t:TypeId):Option (Option Nat×TypeId×Ty):=
 match ty t with
 |some T=>match T.desc with
  | .slice el=>match ty el with
   |some Te=>some (none,el,Te)
   |none=>none
  | .array n el=>match ty el with
   |some Te=>some (some n,el,Te)
   |none=>none
  |_=>none
 |none=>none
theorem Yn(C:KJ P ty){t el:TypeId}{Te:Ty}(h:elemOf ty t=some (none,el,Te))(w:World):(underlying t).run P w= .ok (.slice el) w∧ty el=some Te∧P.underlying t=some (.slice el):=by
 unfold elemOf at h;split at h
 ·rename_i T hT;have:=(C t T hT).underlying w;have hu:=(C t T hT).und;split at h
  ·rename_i el' hd;split at h
   ·rename_i Te' hTe;simp only[ab,af]at h;obtain⟨_,rfl,rfl⟩:=h;rw[hd]at this hu;exact⟨this,hTe,hu⟩
   ·cases h
  ·split at h
   ·simp at h
   ·cases h
  ·cases h
 ·cases h
theorem JY(C:KJ P ty){t el:TypeId}{n:Nat}{Te:Ty}(h:elemOf ty t=some (some n,el,Te))(w:World):(underlying t).run P w= .ok (.array n el) w∧ty el=some Te:=by
 unfold elemOf at h;split at h
 ·rename_i T hT;have:=(C t T hT).underlying w;split at h
  ·split at h
   ·simp at h
   ·cases h
  ·rename_i n' el' hd;split at h
   ·rename_i Te' hTe;simp only[ab,af]at h;obtain⟨h1,rfl,rfl⟩:=h;subst h1;rw[hd]at this;exact⟨this,hTe⟩
   ·cases h
  ·cases h
 ·cases h
def X7(ty:TypeId→Option Ty)(st:St)(t:TypeId)(x i:EV):Option (Prop×EV):=
 match i with
 | .one (.c (.sc (.int _ n)))=>
  match elemOf ty t,x with
  |some (none,_,Te), .one (.c (.sl _ esz els))=>some (Te.size=esz∧0≤n∧n<els.length, .ep esz els n.toNat 0)
  |some (none,_,Te), .one (.own b)=>
   (match look st.H b with
    |some (.row _ _ esz els)=>some (Te.size=esz∧0≤n∧n<els.length, .rp b esz n.toNat 0)
    |_=>none)
  |some (some m,_,Te), .one (.ptr b off)=>some (0≤n∧n<m, .one (.ptr b (off+n.toNat*Te.size)))
  |some (some m,_,Te), .ep esz els i off=>some (0≤n∧n<m, .ep esz els i (off+n.toNat*Te.size))
  |some (some m,_,Te), .rp b esz i off=>some (0≤n∧n<m, .rp b esz i (off+n.toNat*Te.size))
  |_,_=>none
 |_=>none
theorem Ib{z:Bool}{esz:Nat}{els:List (List Cv)}{u:Value}(h:XH w N (.sl z esz els) u){i:Nat}(hi:i<els.length):∃a len cap,u= .slice (some a) len cap∧XH w N (.sl false esz els) u∧els.length=len:=by
 cases h with
 |nil=>simp at hi
 |sl us hl hcap hz hc hr=>exact⟨_,_,_,rfl, .sl us hl hcap hz hc hr,hl⟩
theorem Rv(C:KJ P ty)(R:Rel base E M w0 β st a.tmps w){t:TypeId}{x i v:EV}{p:Prop}(h:X7 ty st t x i=some (p,v))(hp:p){u u':Value}(hx:XY w (XP M w β) β x u)(hi:XY w (XP M w β) β i u'):
  ∃r,(Instr.indexAt t u u').run P w= .ok r w∧XY w (XP M w β) β v r∧∀b,XR v b→XR x b:=by
 unfold X7 at h;split at h
 ·rename_i k n;rw[hi.int];split at h
  ·rename_i el Te z esz els he;obtain⟨h1,h2, -⟩:=Yn C he w;simp only[ab,af]at h;obtain⟨rfl,rfl⟩:=h;obtain⟨rfl,hp⟩:=hp;cases hx with|one hx=>
   obtain⟨a0,len,cap,rfl,hx',hlen⟩:=Ib hx (i:=n.toNat) (by omega);refine⟨.pointer (some (a0.add (n.toNat*Te.size))),?_,?_,fun b hb=>by cases hb⟩
   ·have hlt:n<len:=by omega
    simp[Instr.indexAt,asIntOf,h1,(C el Te h2).sizeOf,hp.1,hlt]
   ·exact .ep (off:=0) hx' (by omega)
  ·rename_i el Te b he;split at h
   ·rename_i z t' esz els hb;obtain⟨h1,h2, -⟩:=Yn C he w;simp only[ab,af]at h;obtain⟨rfl,rfl⟩:=h;obtain⟨rfl,hp⟩:=hp;cases hx with|one hx=>
    obtain⟨hβ,_⟩:=hx;obtain⟨u2,hu2,cells,ho,hz,hl,hc⟩:=R.obj b _ hb;rw[hβ]at hu2;injection hu2 with hu2;subst hu2;rcases ho.2 with⟨rfl,h0⟩|⟨g,cap,cur,rfl, -⟩
    ·omega
    ·refine⟨.pointer (some ⟨g,n.toNat*Te.size,none⟩),?_,?_,fun b hb=>by cases hb;exact .one rfl⟩
     ·simp[Instr.indexAt,asIntOf,h1,(C el Te h2).sizeOf,hp.1,hp.2]
     ·exact .rp (off:=0) hβ
   ·cases h
  ·rename_i m el Te b off he;obtain⟨h1,h2⟩:=JY C he w;simp only[ab,af]at h;obtain⟨rfl,rfl⟩:=h;cases hx with|one hx=>
   obtain⟨g,hg,rfl⟩:=hx;refine⟨.pointer (some ⟨g,off+n.toNat*Te.size,none⟩),?_, .one ⟨g,hg,rfl⟩,fun b' hb'=>by cases hb' with|one h=>exact .one h⟩;simp[Instr.indexAt,asIntOf,h1,(C el Te h2).sizeOf,hp.1,hp.2,Instr.sureAddr]
  ·rename_i m el Te esz els j off he;obtain⟨h1,h2⟩:=JY C he w;simp only[ab,af]at h;obtain⟨rfl,rfl⟩:=h;cases hx with
   | @ep _ _ _ len cap a0 _ hs' hi'=>
   refine⟨.pointer (some (a0.add (j*esz+(off+n.toNat*Te.size)))),?_, .ep hs' hi',fun b' hb'=>by cases hb'⟩;simp[Instr.indexAt,asIntOf,h1,(C el Te h2).sizeOf,hp.1,hp.2,Instr.sureAddr,add_add',di]
  ·rename_i m el Te b esz j off he;obtain⟨h1,h2⟩:=JY C he w;simp only[ab,af]at h;obtain⟨rfl,rfl⟩:=h;cases hx with
   |rp hb=>
   refine⟨_,?_, .rp (off:=off+n.toNat*Te.size) hb,fun b' hb'=>by cases hb';exact .rp⟩;simp[Instr.indexAt,asIntOf,h1,(C el Te h2).sizeOf,hp.1,hp.2,Instr.sureAddr,di]
  ·cases h
 ·cases h
def ID(ty:TypeId→Option Ty)(t:TypeId)(x i:EV):Option (Prop×EV):=
 match i with
 | .one (.c (.sc (.int _ n)))=>
  match x with
  | .agg xs=>(match elemOf ty t with
   |some (some m,_,Te)=>(match NI Te xs (n.toNat*Te.size)with|some (p,v)=>some ((0≤n∧n<m)∧p,v)|none=>none)
   |_=>none)
  | .one (.c (.sc (.string s)))=>(match ty t with
   |some T=>(match T.desc with
    | .string=>some (0≤n∧n<s.size,iv .u8 ((s.data.getD n.toNat 0).toNat))
    |_=>none)
   |none=>none)
  |_=>none
 |_=>none
theorem Au(C:KJ P ty){t:TypeId}{x i v:EV}{p:Prop}(h:ID ty t x i=some (p,v))(hp:p){u u':Value}(hx:XY w N β x u)(hi:XY w N β i u'):
  ∃r,(Instr.index t u u').run P w= .ok r w∧XY w N β v r∧∀b,XR v b→XR x b:=by
 unfold ID at h;split at h
 ·rename_i k n;rw[hi.int];split at h
  ·rename_i xs;split at h
   ·rename_i m el Te he;obtain⟨h1,h2⟩:=JY C he w;split at h
    ·rename_i p' v' h';simp only[ab,af]at h;obtain⟨rfl,rfl⟩:=h;cases hx with
     | @agg _ us hx=>
     obtain⟨r,r1,r2,r3⟩:=Io C h2 h' hp.2 hx;refine⟨r,?_,r2,fun b hb=>?_⟩
     ·simp[Instr.index,asIntOf,h1,(C el Te h2).sizeOf,hp.1.1,hp.1.2,r1]
     ·obtain⟨x,hm,hr⟩:=r3 b hb;exact .agg hm hr
    ·cases h
   ·cases h
  ·rename_i s;split at h
   ·rename_i T hT;split at h
    ·rename_i hd;simp only[ab,af]at h;obtain⟨rfl,rfl⟩:=h;have hu:=(C t T hT).underlying w;rw[hd]at hu;rw[hx.sc];have hlt:n.toNat<s.size:=by omega
     have hd':n.toNat<s.data.size:=hlt;refine⟨.int .u8 ((s.data.getD n.toNat 0).toNat),?_, .one (.sc rfl),fun b hb=>(no_refs hb).elim⟩;have hg:s[n.toNat]? =some (s.data.getD n.toNat 0):=by
      rw[getElem?_pos s n.toNat hlt];simp only[Array.getD];rw[dif_pos hd'];rfl
     simp[Instr.index,asIntOf,hu,hp.1,hg]
    ·cases h
   ·cases h
  ·cases h
 ·cases h
end
end
section
section
variable {P:Program} {base:Nat} {E M:Nat→Prop} {w0 w:World} {β:K3} {st:St} {a:Act} {N:Nat→Prop} {ty:TypeId→Option Ty}
def Hg:EV→Option (List Cx)
 | .one x=>some [x]
 | .agg xs=>some xs
 |_=>none
theorem Zc{v:EV}{xs:List Cx}(h:Hg v=some xs){u:Value}(hv:XY w N β v u):Yx (Yq w N β) xs u.cells.toList∧∀x∈xs,∀b,refs x=some b→XR v b:=by
 unfold Hg at h;split at h
 ·injection h with h;subst h;cases hv with|one hx=>
  refine⟨?_,fun x hm b hr=>?_⟩
  ·have h1:=hx.one;have:u.cells= #[u]:=by cases u<;>first|rfl|cases h1
   rw[this];exact .cons hx .nil
  ·simp at hm;subst hm;exact .one hr
 ·injection h with h;subst h;cases hv with|agg hx=>exact⟨hx,fun x hm b hr=> .agg hm hr⟩
 ·cases h
def over(xs:List Cx)(off:Nat)(ys:List Cx):List Cx:=xs.take off++ys++xs.drop (off+ys.length)
theorem TU{xs ys:List Cx}{off:Nat}{arr:Array Value}{us:List Value}(hx:Yx (Yq w N β) xs arr.toList)(hy:Yx (Yq w N β) ys us):
  Yx (Yq w N β) (over xs off ys) (Sim.written arr off us).toList:=by
 unfold over Sim.written;rw[hy.1];exact(((hx.take off).app hy).app (hx.drop _))
def UR(place:Nat→Option (Nat×Nat))(xs:List Cx):List (Nat×EV)→Option (Prop×List Cx)
 |[]=>some (True,xs)
 |(i,v)::r=>
  match place i,Hg v with
  |some (off,size),some ys=>
   (match UR place (over xs off ys) r with
    |some (p,zs)=>some ((ys.length=size∧off+size≤xs.length)∧p,zs)
    |none=>none)
  |_,_=>none
theorem Ip{xs ys:List Cx}{off:Nat}{x:Cx}(h:x∈over xs off ys):x∈xs∨x∈ys:=by
 unfold over at h;rw[co,co]at h;rcases h with(h|h)|h
 ·exact .inl (jf h)
 ·exact .inr h
 ·exact .inl (List.mem_of_mem_drop h)
theorem RK{place:Nat→Option (Nat×Nat)}:∀{ps:List (Nat×EV)} {us:List (Nat×Value)},Yx (fun(p:Nat×EV) (q:Nat×Value)=>p.1=q.1∧XY w N β p.2 q.2) ps us→
  ∀{xs zs:List Cx} {arr:Array Value} {p:Prop},Yx (Yq w N β) xs arr.toList→UR place xs ps=some (p,zs)→p→
  ∃r:Array Value,Instr.fill place arr us=some r∧Yx (Yq w N β) zs r.toList∧∀x∈zs,x∈xs∨∃q∈ps,∃ys,Hg q.2=some ys∧x∈ys:=by
 intro ps
 induction ps with
 |nil=>
  intro us hu xs zs arr p hx h hp;simp only[UR,ab,af]at h;obtain⟨rfl,rfl⟩:=h;have:us=[]:=by cases us with|nil=>rfl|cons _ _=>have:=hu.1;simp at this
  subst this;exact⟨arr,rfl,hx,fun x hm=> .inl hm⟩
 |cons q ps ih=>
  intro us hu xs zs arr p hx h hp;obtain⟨i,v⟩:=q;cases us with
  |nil=>have:=hu.1;simp at this
  |cons q' us=>
   obtain⟨i',u⟩:=q';obtain⟨h1,h2⟩:=hu.2 0 _ _ rfl rfl;simp only at h1 h2;subst h1;have ht:Yx (fun(p:Nat×EV) (q:Nat×Value)=>p.1=q.1∧XY w N β p.2 q.2) ps us:=⟨by have:=hu.1;simpa using this,fun j a b ha hb=>hu.2 (j+1) a b (by simpa using ha) (by simpa using hb)⟩;simp only[UR]at h;split at h
   ·rename_i off size ys hpl hys;split at h
    ·rename_i p' zs' hr;simp only[ab,af]at h;obtain⟨rfl,rfl⟩:=h;obtain⟨⟨hsz,hle⟩,hp'⟩:=hp;obtain⟨hc, -⟩:=Zc hys h2;have hxl:=hx.1;have hcl:=hc.1;simp only[cz]at hxl hcl;have hb:off+u.cells.toList.length≤arr.size:=by simp;omega
     obtain⟨r,r1,r2,r3⟩:=ih ht (TU hx hc) hr hp';refine⟨r,?_,r2,fun x hm=>?_⟩
     ·simp only[Instr.fill,hpl];have hn1:¬(u.cells.size≠size):=by omega
      have hn2:¬(off+u.cells.size>arr.size):=by simp at hb;omega
      rw[if_neg (by simp[hn1,hn2])];rw[←r1]
      congr 1
      have hz:u.cells.zipIdx.foldl (fun(cs:Array Value) (x:Value×Nat)=>match x with|(c,j)=>cs.setIfInBounds (off+j) c) arr=(u.cells.toList.zipIdx 0).foldl (fun(cs:Array Value) (p:Value×Nat)=>cs.setIfInBounds (off+p.2) p.1) arr:=by
       rw[←Array.foldl_toList,Array.toList_zipIdx]
      have:=Sim.H8 off u.cells.toList 0 arr (by simpa using hb);exact hz.trans this
     ·rcases r3 x hm with h|⟨q,hq,ys',h1,h2⟩
      ·rcases Ip h with h|h
       ·exact .inl h
       ·exact .inr ⟨_,br,ys,hys,h⟩
      ·exact .inr ⟨q,bc _ hq,ys',h1,h2⟩
    ·cases h
   ·cases h
def QJ(ty:TypeId→Option Ty):List Field→Option (List (Nat×Nat))
 |[]=>some []
 |f::fs=>match ty f.type,QJ ty fs with|some T,some l=>some ((f.offset,T.size)::l)|_,_=>none
theorem Lx(C:KJ P ty):∀{fs:List Field} {l:List (Nat×Nat)},QJ ty fs=some l→∀w,(fs.mapM fun(f:Field)=>(do pure (f.offset,←sizeOf f.type):Sem (Nat×Nat))).run P w= .ok l w:=by
 intro fs
 induction fs with
 |nil=>intro l h w;injection h with h;subst h;simp
 |cons f fs ih=>
  intro l h w;simp only[QJ]at h;split at h
  ·rename_i T l' ht hl;injection h with h;subst h;have:=ih hl w;rw[jt];simp only[ag,(C _ _ ht).sizeOf,ae,am];rw[this];rfl
  ·cases h
def Zh(st:St):List (Nat×Operand)→Option (List (Nat×EV))
 |[]=>some []
 |(i,x)::r=>match evO st x,Zh st r with|some v,some l=>some ((i,v)::l)|_,_=>none
theorem IZ(R:Rel base E M w0 β st a.tmps w):∀{ps:List (Nat×Operand)} {l:List (Nat×EV)},Zh st ps=some l→
  Yx (fun(p:Nat×EV) (q:Nat×Value)=>p.1=q.1∧XY w (XP M w β) β p.2 q.2) l (ps.map fun(p:Nat×Operand)=>(p.1,a.eval p.2))∧∀q∈l,∀b,XR q.2 b→look st.H b≠none:=by
 intro ps
 induction ps with
 |nil=>intro l h;injection h with h;subst h;exact⟨.nil,fun q hq=>by cases hq⟩
 |cons p ps ih=>
  obtain⟨i,x⟩:=p;intro l h;simp only[Zh]at h;split at h
  ·rename_i v l' hv hl;injection h with h;subst h;obtain⟨h1,h2⟩:=ih hl;obtain⟨h3,h4⟩:=evO_ok R hv;exact⟨.cons ⟨rfl,h3⟩ h1,fun q hq b hb=>by
    rcases av.1 hq with rfl|hq
    ·exact h4 b hb
    ·exact h2 q hq b hb⟩
  ·cases h
def Jn(ty:TypeId→Option Ty)(t:TypeId)(ps:List (Nat×EV)):Option (Prop×EV):=
 match ty t with
 |some T=>match T.desc with
  | .struct fs=>(match QJ ty fs.toList with
   |some pl=>(match UR (fun i=>pl[i]?) (T.zero.map Cx.c) ps with|some (p,xs)=>some (p, .agg xs)|none=>none)
   |none=>none)
  | .array _ el=>(match ty el with
   |some Te=>(match UR (fun i=>some (i*Te.size,Te.size)) (T.zero.map Cx.c) ps with|some (p,xs)=>some (p, .agg xs)|none=>none)
   |none=>none)
  |_=>none
 |none=>none
theorem Di(C:KJ P ty){t:TypeId}{ps:List (Nat×EV)}{v:EV}{p:Prop}(h:Jn ty t ps=some (p,v))(hp:p){us:Array (Nat×Value)}(hu:Yx (fun(p:Nat×EV) (q:Nat×Value)=>p.1=q.1∧XY w N β p.2 q.2) ps us.toList):
  ∃r,(Instr.build t us).run P w= .ok r w∧XY w N β v r∧∀b,XR v b→∃q∈ps,XR q.2 b:=by
 unfold Jn at h;split at h
 ·rename_i T hT;have I:=C t T hT;obtain⟨info,z,i1,i2,i3,i4,i5,i6,i7,i8⟩:=I.info;have hzv:(zeroValue t).run P w= .ok z w:=by simp[Go.zeroValue,Go.typeInfo,i1,i4]
  have hz:Yx (Yq w N β) (T.zero.map Cx.c) z.cells.toList:=(i5 w N).map_c;have hun:=I.underlying w;have fin:∀{xs:List Cx},(∀x∈xs,x∈T.zero.map Cx.c∨∃q∈ps,∃ys,Hg q.2=some ys∧x∈ys)→(∀q∈ps,∃u,XY w N β q.2 u)→∀b,XR (.agg xs) b→∃q∈ps,XR q.2 b:=by
   intro xs hm hq b hb;cases hb with
   |agg hx hr=>
   rcases hm _ hx with h|⟨q,hq1,ys,h1,h2⟩
   ·exact(Vt h hr).elim
   ·obtain⟨u,hu⟩:=hq q hq1;exact⟨q,hq1,(Zc h1 hu).2 _ h2 b hr⟩
  have hq:∀q∈ps,∃u,XY w N β q.2 u:=fun q hq=>by
   obtain⟨i,hi,rfl⟩:=be hq;obtain⟨y,_,h2⟩:=hu.get (aa hi);exact⟨_,h2.2⟩
  split at h
  ·rename_i fs hd;split at h
   ·rename_i pl hpl;split at h
    ·rename_i p' xs hf;simp only[ab,af]at h;obtain⟨rfl,rfl⟩:=h;obtain⟨r,r1,r2,r3⟩:=RK hu hz hf hp;refine⟨.agg r,?_, .agg r2,fin r3 hq⟩;have hpl':=Lx C hpl w;have hm:(fs.mapM fun(f:Field)=>(do pure (f.offset,←sizeOf f.type):Sem (Nat×Nat)))=Array.mk<$>(fs.toList.mapM fun(f:Field)=>(do pure (f.offset,←sizeOf f.type):Sem (Nat×Nat))):=by
      rw[jg]
     rw[hd]at hun;simp only[Instr.build,ag,hzv,ae,hun];rw[hm];have r1':Instr.fill (fun i=>(⟨pl⟩:Array (Nat×Nat))[i]?) z.cells us.toList=some r:=by simpa using r1
     simp only[Sem.run_map,hpl',ae,r1',am]
    ·cases h
   ·cases h
  ·rename_i n el hd;split at h
   ·rename_i Te hTe;split at h
    ·rename_i p' xs hf;simp only[ab,af]at h;obtain⟨rfl,rfl⟩:=h;obtain⟨r,r1,r2,r3⟩:=RK hu hz hf hp;refine⟨.agg r,?_, .agg r2,fin r3 hq⟩;rw[hd]at hun;simp[Instr.build,hzv,hun,(C _ _ hTe).sizeOf,r1]
    ·cases h
   ·cases h
  ·cases h
 ·cases h
def Pj(ty:TypeId→Option Ty)(st:St)(t:TypeId)(x:EV):Option EV:=
 match ty t with
 |some T=>match T.desc,x with
  | .slice _, .one (.c (.sl _ _ els))=>some (iv .i64 els.length)
  | .slice _, .one (.own b)=>(match look st.H b with|some (.row _ _ _ els)=>some (iv .i64 els.length)|_=>none)
  | .string, .one (.c (.sc (.string s)))=>some (iv .i64 s.size)
  | .map _ _, .one (.map b)=>(match look st.H b with|some (.map es)=>some (iv .i64 es.length)|_=>none)
  | .array n _,_=>some (iv .i64 n)
  |_,_=>none
 |none=>none
theorem dA{z:Bool}{esz:Nat}{els:List (List Cv)}{u:Value}(h:XH w N (.sl z esz els) u):∃A cap,u= .slice A els.length cap:=by
 cases h with
 |nil=>exact⟨none,0,rfl⟩
 |sl us hl=>exact⟨_,_,by rw[hl]⟩
theorem SQ(C:KJ P ty)(R:Rel base E M w0 β st a.tmps w){t:TypeId}{x v:EV}(h:Pj ty st t x=some v){u:Value}(hx:XY w (XP M w β) β x u)(t':TypeId):
  ∃r,(Builtin.len_ #[t] t' #[u]).run P w= .ok r w∧XY w (XP M w β) β v r∧∀b,¬XR v b:=by
 unfold Pj at h;split at h
 ·rename_i T hT;have hun:=(C t T hT).underlying w;split at h
  ·rename_i el z esz els hd;injection h with h;subst h;cases hx with|one hx=>
   obtain⟨A,cap,rfl⟩:=dA hx;rw[hd]at hun;exact⟨_,by simp[Builtin.len_,hun,goInt], .one (.sc rfl),fun b hb=>no_refs hb⟩
  ·rename_i el b hd;split at h
   ·rename_i z t2 esz els hb;injection h with h;subst h;cases hx with|one hx=>
    obtain⟨hβ,_⟩:=hx;obtain⟨u2,hu2,cells,ho, -⟩:=R.obj b _ hb;rw[hβ]at hu2;injection hu2 with hu2;subst hu2;rw[hd]at hun;refine⟨.int .i64 els.length,?_, .one (.sc rfl),fun b hb=>no_refs hb⟩;rcases ho.2 with⟨rfl,h0⟩|⟨g,cap,cur,rfl, -⟩
    ·simp[Builtin.len_,hun,goInt,h0]
    ·simp[Builtin.len_,hun,goInt]
   ·cases h
  ·rename_i s hd;injection h with h;subst h;rw[hd]at hun;rw[hx.sc];exact⟨_,by simp[Builtin.len_,hun,goInt], .one (.sc rfl),fun b hb=>no_refs hb⟩
  ·rename_i k el b hd;split at h
   ·rename_i es hb;injection h with h;subst h;cases hx with|one hx=>
    obtain⟨g,hβ,rfl⟩:=hx;obtain⟨u2,hu2,g',arr,clock,rfl,hh,hr⟩:=R.obj b _ hb;rw[hβ]at hu2;injection hu2 with hu2;injection hu2 with hu2;injection hu2 with hu2;subst hu2;rw[hd]at hun;refine⟨_,?_, .one (.sc rfl),fun b hb=>no_refs hb⟩;have:=hr.1;simp only[cz]at this;simp[Builtin.len_,hun,goInt,getObj,Sem.run,hh,this]
   ·cases h
  ·rename_i n el hd;injection h with h;subst h;rw[hd]at hun;exact⟨_,by simp[Builtin.len_,hun,goInt], .one (.sc rfl),fun b hb=>no_refs hb⟩
  ·cases h
 ·cases h
def Um(d:Int):Option EV→Option Int
 |none=>some d
 |some (.one (.c (.sc (.int _ n))))=>some n
 |_=>none
def ZN(ty:TypeId→Option Ty)(t:TypeId)(x:EV)(lo hi:Option EV):Option (Prop×EV):=
 match x with
 | .one (.c (.sl z esz els))=>
  (match elemOf ty t,Um 0 lo,Um els.length hi with
   |some (none,_,Te),some l,some h=>some (Te.size=esz∧0≤l∧l≤h∧h≤els.length, .one (.c (.sl z esz ((els.drop l.toNat).take (h.toNat - l.toNat)))))
   |_,_,_=>none)
 | .one (.c (.sc (.string s)))=>
  (match ty t with
   |some T=>(match T.desc,Um 0 lo,Um s.size hi with
    | .string,some l,some h=>some (0≤l∧l≤h∧h≤s.size, .one (.c (.sc (.string (s.extract l.toNat h.toNat)))))
    |_,_,_=>none)
   |none=>none)
 |_=>none
def OptE(w:World)(N:Nat→Prop)(β:K3):Option EV→Option Value→Prop
 |none,none=>True
 |some v,some u=>XY w N β v u
 |_,_=>False
theorem VA{d:Int}{o:Option EV}{o':Option Value}{n:Int}(h:Um d o=some n)(ho:OptE w N β o o'):(o'=none∧n=d)∨∃k,o'=some (.int k n):=by
 unfold Um at h;split at h
 ·injection h with h;cases o' with
  |none=>exact .inl ⟨rfl,h.symm⟩
  |some y=>exact ho.elim
 ·injection h with h;subst h;cases o' with
  |none=>exact ho.elim
  |some y=>exact .inr ⟨_,by rw[XY.int ho]⟩
 ·cases h
theorem Vn{isS:Bool}{n cap:Nat}{l h:Int}{lo hi:Option Value}(hl:(lo=none∧l=0)∨∃k,lo=some (.int k l))(hh:(hi=none∧h=n)∨∃k,hi=some (.int k h))(h0:0≤l)(h1:l≤h)(h2:h≤cap)(w:World):
  (Instr.sliceBounds isS n cap lo hi none).run P w= .ok (l.toNat,h.toNat,cap) w:=by
 rcases hl with⟨rfl,rfl⟩|⟨k,rfl⟩<;>rcases hh with⟨rfl,rfl⟩|⟨k',rfl⟩
 ·simp[Instr.sliceBounds]
 ·simp[Instr.sliceBounds,Instr.sliceBound,asIntOf,h1,h2]
 ·have e:l≤(n:Int):=h1;simp[Instr.sliceBounds,Instr.sliceBound,asIntOf,h0,e]
 ·have e1:0≤h:=by omega
  have e2:l≤(h.toNat:Int):=by omega
  have e3:(h.toNat:Int)=h:=by omega
  simp only[Instr.sliceBounds,Instr.sliceBound,asIntOf,ag,am,ae];rw[if_pos ⟨e1,h2⟩];simp only[am,ae,e3];rw[if_pos ⟨h0,h1⟩];simp
theorem Pt{els:List (List Cv)}{l n i j:Nat}{c:Cv}(h:cellAt ((els.drop l).take n) i j=some c):i<n∧cellAt els (l+i) j=some c:=by
 unfold cellAt at h⊢;rw[bm]at h;split at h
 ·rename_i hlt;rw[cw]at h;exact⟨hlt,h⟩
 ·cases h
theorem Bj(C:KJ P ty){t:TypeId}{x v:EV}{lo hi:Option EV}{p:Prop}(h:ZN ty t x lo hi=some (p,v))(hp:p){u:Value}{lo' hi':Option Value}(hx:XY w N β x u)(hl:OptE w N β lo lo')(hh:OptE w N β hi hi'):
  ∃r,(Instr.sliceAt t u lo' hi' none).run P w= .ok r w∧XY w N β v r∧∀b,¬XR v b:=by
 unfold ZN at h;split at h
 ·rename_i z esz els;split at h
  ·rename_i el Te l h' he hlo hhi;obtain⟨h1,h2, -⟩:=Yn C he w;simp only[ab,af]at h;obtain⟨rfl,rfl⟩:=h;obtain⟨rfl,p1,p2,p3⟩:=hp;cases hx with|one hx=>
   cases hx with
   |nil=>
    simp only[List.length_nil]at p3 hhi;have e1:h'=0:=by omega
    have e2:l=0:=by omega
    subst e1;subst e2;refine⟨.slice none 0 0,?_,?_,fun b hb=>no_refs hb⟩
    ·have:=Vn (P:=P) (isS:=true) (n:=0) (cap:=0) (VA hlo hl) (VA hhi hh) p1 p2 (by simp) w;simp[Instr.sliceAt,Instr.slice,h1,this,(C el Te h2).sizeOf]
    ·exact .one (show XH w N (.sl true Te.size _) _ by simp;exact .nil)
   | @sl a0 len cap _ _ us hlen hcap hz hc hr=>
    have hh2:(hi'=none∧h'=(len:Int))∨∃k,hi'=some (.int k h'):=by
     rcases VA hhi hh with⟨e,q⟩|⟨k,e⟩
     ·exact .inl ⟨e,by rw[q,hlen]⟩
     ·exact .inr ⟨k,e⟩
    have hb:=Vn (P:=P) (isS:=true) (n:=len) (cap:=cap) (VA hlo hl) hh2 p1 p2 (by omega) w;refine⟨.slice (if cap=l.toNat then some a0 else some (a0.add (l.toNat*Te.size))) (h'.toNat - l.toNat) (cap - l.toNat),?_,?_,fun b hb=>no_refs hb⟩
    ·simp only[Instr.sliceAt,ag,h1,ae,Instr.slice,hb,(C el Te h2).sizeOf,am,bt]
    ·refine .one ?_;have key:∀a':Addr,(cap≠l.toNat→a'=a0.add (l.toNat*Te.size))→XH w N (.sl false Te.size ((els.drop l.toNat).take (h'.toNat - l.toNat))) (.slice (some a') (h'.toNat - l.toNat) (cap - l.toNat)):=by
      intro a' ha;refine .sl (fun i j=>us (l.toNat+i) j) (by simp;omega) (by omega) (fun i es he=>?_) (fun i j c hcc=>?_) (fun i j c hcc=>?_)
      ·rw[bm]at he;split at he
       ·rw[cw]at he;exact hz _ _ he
       ·cases he
      ·obtain⟨hi1,hi2⟩:=Pt hcc;obtain⟨q1,q2⟩:=hc _ _ _ hi2;have:=ha (by omega);subst this;refine⟨by rw[add_block];exact q1,?_⟩;rw[add_add',←di,←dr];exact q2
      ·exact hr _ _ _ (Pt hcc).2
     show XH w N _ _
     by_cases hcl:cap=l.toNat
     ·rw[if_pos hcl];exact key a0 (fun q=>absurd hcl q)
     ·rw[if_neg hcl];exact key _ (fun _=>rfl)
  ·cases h
 ·rename_i s;split at h
  ·rename_i T hT;split at h
   ·rename_i l h' hd hlo hhi;simp only[ab,af]at h;obtain⟨rfl,rfl⟩:=h;obtain⟨p1,p2,p3⟩:=hp;have hun:=(C t T hT).underlying w;rw[hd]at hun;rw[hx.sc];have:=Vn (P:=P) (isS:=false) (n:=s.size) (cap:=s.size) (VA hlo hl) (VA hhi hh) p1 p2 p3 w;exact⟨_,by simp[Instr.sliceAt,Instr.slice,hun,this], .one (.sc rfl),fun b hb=>no_refs hb⟩
   ·cases h
  ·cases h
 ·cases h
end
end
section
section
variable {P:Program} {base:Nat} {E M:Nat→Prop} {w0 w:World} {β:K3} {st:St} {a:Act} {N:Nat→Prop} {ty:TypeId→Option Ty} {tm:Array Value}
def dS:TypeDesc→Bool
 | .int _| .string| .bool=>true
 |_=>false
def To(d:TypeDesc):Cv→Cv→Option Bool
 | .sc (.int k a), .sc (.int k' b)=>(match d with| .int _=>if k=k' then some (decide (a=b))else none|_=>none)
 | .sc (.string a), .sc (.string b)=>(match d with| .string=>some (a.data.toList==b.data.toList)|_=>none)
 | .sc (.bool a), .sc (.bool b)=>(match d with| .bool=>some (a==b)|_=>none)
 |_,_=>none
def ZE(d:TypeDesc)(k:Cv):List (Cv×Cv)→Nat→Option (Option (Nat×Cv))
 |[],_=>some none
 |e::es,i=>match To d k e.1 with
  |some true=>some (some (i,e.2))
  |some false=>ZE d k es (i+1)
  |none=>none
theorem If{d:TypeDesc}{x y:Cv}{b:Bool}(h:To d x y=some b){u u':Value}(hx:XH w N x u)(hy:XH w N y u'):
  Instr.sameNow d u u'=some b∧(b=true→Instr.sameBits 10000 u' u=true):=by
 unfold To at h;split at h
 ·cases hx;cases hy;split at h
  ·split at h
   ·rename_i hk;subst hk;injection h with h;subst h;refine⟨by simp only[Instr.sameNow,if_true,ab];rw[eg];simp,fun hb=>?_⟩;have:=bo hb;subst this;simp[Instr.sameBits]
   ·cases h
  ·cases h
 ·cases hx;cases hy;split at h
  ·injection h with h;subst h;refine⟨by simp[Instr.sameNow,kz,jl],fun hb=>?_⟩;have hb:=eq_of_beq hb;simp[Instr.sameBits,kz,jl,hb]
  ·cases h
 ·cases hx;cases hy;split at h
  ·injection h with h;subst h;rename_i p q _;refine⟨by simp[Instr.sameNow],fun hb=>?_⟩;have:=eq_of_beq hb;subst this;simp[Instr.sameBits]
  ·cases h
 ·cases h
abbrev EntRel(w:World)(N:Nat→Prop)(p:Cv×Cv)(e:MapEntry):Prop:=XH w N p.1 e.key∧XH w N p.2 e.val
theorem IN{d:TypeDesc}{k:Cv}{kv:Value}(hk:XH w N k kv):∀{es:List (Cv×Cv)} {l:List MapEntry},Yx (EntRel w N) es l→∀{i:Nat} {r:Option (Nat×Cv)},ZE d k es i=some r→
  ∃r',Instr.findNow d kv l i=some r'∧(match r,r' with
   |none,none=>True
   |some (j,v),some (j',u)=>j=j'∧XH w N v u∧i≤j∧∃e,l[j - i]? =some e∧Instr.sameBits 10000 e.key kv=true
   |_,_=>False):=by
 intro es
 induction es with
 |nil=>
  intro l h i r hr;have:l=[]:=dj.1 h.1.symm;subst this;injection hr with hr;subst hr;exact⟨none,rfl,trivial⟩
 |cons e es ih=>
  intro l h i r hr;cases l with
  |nil=>have:=h.1;simp at this
  |cons m l=>
   obtain⟨h1,h2⟩:=h.2 0 e m rfl rfl;have ht:Yx (EntRel w N) es l:=⟨by have:=h.1;simpa using this,fun j x y a b=>h.2 (j+1) x y (by simpa using a) (by simpa using b)⟩;unfold ZE at hr;split at hr
   ·rename_i hs;injection hr with hr;subst hr;obtain⟨g1,g2⟩:=If hs hk h1;exact⟨some (i,m.val),by simp[Instr.findNow,g1],rfl,h2,ak _,m,by simp,g2 rfl⟩
   ·rename_i hs;obtain⟨g1,g2⟩:=If hs hk h1;obtain⟨r',k1,k2⟩:=ih ht hr;refine⟨r',by simp[Instr.findNow,g1,k1],?_⟩;split at k2
    ·trivial
    ·obtain⟨q1,q2,q3,e0,q4,q5⟩:=k2;refine⟨q1,q2,by omega,e0,?_,q5⟩;rename_i j _ _ _;have:j - i=(j - (i+1))+1:=by omega
     rw[this];simpa using q4
    ·exact k2.elim
   ·cases hr
theorem run_checkKey{kt:TypeId}{d:TypeDesc}(hu:P.underlying kt=some d)(hk:dS d=true)(em:Bool)(n:Nat)(v:Value)(w:World):(Instr.checkKey em (n+1) kt v).run P w= .ok () w:=by
 have hu':(underlying kt).run P w= .ok d w:=by simp[Go.underlying,hu]
 unfold dS at hk;split at hk
 ·simp only[Instr.checkKey,ag,hu',ae];rfl
 ·simp only[Instr.checkKey,ag,hu',ae];rfl
 ·simp only[Instr.checkKey,ag,hu',ae];rfl
 ·cases hk
theorem run_findKey{kt:TypeId}{d:TypeDesc}(hu:P.underlying kt=some d){kv:Value}{l:List MapEntry}{r:Option (Nat×Value)}(h:Instr.findNow d kv l 0=some r)(w:World):(Instr.findKey kt kv l).run P w= .ok r w:=by
 have hu':(underlying kt).run P w= .ok d w:=by simp[Go.underlying,hu]
 simp only[Instr.findKey,ag,hu',ae,h];rfl
def mapOf(ty:TypeId→Option Ty)(t:TypeId):Option (TypeDesc×Cv):=
 match ty t with
 |some T=>(match T.desc with
  | .map kt et=>(match ty kt,ty et with
   |some Tk,some Te=>(match dS Tk.desc,Te.agg,Te.zero with
    |true,false,[z]=>some (Tk.desc,z)
    |_,_,_=>none)
   |_,_=>none)
  |_=>none)
 |none=>none
theorem Rh(C:KJ P ty){t:TypeId}{d:TypeDesc}{z:Cv}(h:mapOf ty t=some (d,z)):
  ∃kt et,P.underlying t=some (.map kt et)∧P.underlying kt=some d∧dS d=true∧∃zv,(∀w:World,(zeroValue et).run P w= .ok zv w)∧∀w N,XH w N z zv:=by
 unfold mapOf at h;split at h
 ·rename_i T hT;split at h
  ·rename_i kt et hd;split at h
   ·rename_i Tk Te hTk hTe;split at h
    ·rename_i hk ha hz;simp only[ab,af]at h;obtain⟨rfl,rfl⟩:=h;obtain⟨info,zv,i1,i2,i3,i4,i5,i6,i7,i8⟩:=(C et Te hTe).info;have hone:=i8 ha;refine⟨kt,et,by rw[(C t T hT).und,hd],(C kt Tk hTk).und,hk,zv,fun w=>by simp[Go.zeroValue,Go.typeInfo,i1,i4],fun w N=>?_⟩;have:=i5 w N;rw[hz]at this;have hc:zv.cells.toList=[zv]:=by cases zv<;>first|rfl|(cases hone)
     rw[hc]at this;exact this.2 0 _ _ rfl rfl
    ·cases h
   ·cases h
  ·cases h
 ·cases h
def JG(ty:TypeId→Option Ty)(st:St)(t:TypeId)(x i:EV)(ok:Bool):Option EV:=
 match mapOf ty t,x,i with
 |some (d,z), .one (.map b), .one (.c k)=>(match look st.H b with
  |some (.map es)=>(match ZE d k es 0 with
   |some (some (_,v))=>some (if ok then .tup [.one (.c v),bv true]else .one (.c v))
   |some none=>some (if ok then .tup [.one (.c z),bv false]else .one (.c z))
   |none=>none)
  |_=>none)
 |some (d,z), .one (.c (.mp es)), .one (.c k)=>(match ZE d k es 0 with
  |some (some (_,v))=>some (if ok then .tup [.one (.c v),bv true]else .one (.c v))
  |some none=>some (if ok then .tup [.one (.c z),bv false]else .one (.c z))
  |none=>none)
 |_,_,_=>none
theorem Cy{v:Cv}{u:Value}{b:Bool}(h:XH w N v u):XY w N β (.tup [.one (.c v),bv b]) (.tuple #[u, .bool b]):=by
 refine .tup rfl fun i x y hx hy=>?_
 match i with
 |0=>simp at hx hy;subst hx;subst hy;exact .one h
 |1=>simp at hx hy;subst hx;subst hy;exact .one (.sc rfl)
 |i+2=>simp at hx
theorem BQ{v:Cv}{b:Bool}(c:Nat):¬XR (.tup [.one (.c v),bv b]) c:=by
 intro h;cases h with
 |tup hm hr=>
  simp at hm;rcases hm with rfl|rfl<;>exact no_refs hr
theorem Pi{t kt et:TypeId}{d:TypeDesc}{z k:Cv}{zv:Value}{es:List (Cv×Cv)}{ok:Bool}{g clock:Nat}{arr:Array MapEntry}{v:EV}(m1:P.underlying t=some (.map kt et))(m2:P.underlying kt=some d)(m3:dS d=true)(m4:∀w:World,(zeroValue et).run P w= .ok zv w)(m5:∀w N,XH w N z zv)
  (h:(match ZE d k es 0 with
   |some (some (_,v))=>some (if ok then .tup [.one (.c v),bv true]else .one (.c v))
   |some none=>some (if ok then .tup [.one (.c z),bv false]else .one (.c z))
   |none=>none)=some v) (hg:w.heap[g]? =some (.map arr clock)) (hl:Yx (EntRel w N) es arr.toList) {u':Value} (hi:XH w N k u'):
  ∃r,(Instr.lookup t (.map (some g)) u' ok).run P w= .ok r w∧XY w N β v r∧∀b,¬XR v b:=by
 have hun:(underlying t).run P w= .ok (.map kt et) w:=by simp[Go.underlying,m1]
 have hgo:(getObj g).run P w= .ok (.map arr clock) w:=by simp only[getObj,Sem.run,hg]
 have hck:=run_checkKey m2 m3 arr.isEmpty 9999 u' w;cases hf:ZE d k es 0 with
 |none=>rw[hf]at h;cases h
 |some r=>
  rw[hf]at h;obtain⟨r',f1,f2⟩:=IN hi hl hf;have hfk:=run_findKey m2 f1 w;cases r with
  |none=>
   cases r' with
   |some q=>exact f2.elim
   |none=>
    simp only[ab]at h;subst h;have hr:(Instr.lookup t (.map (some g)) u' ok).run P w= .ok (if ok then .tuple #[zv, .bool false]else zv) w:=by
     simp only[Instr.lookup,ag,hun,ae,hgo,am,hck,hfk,m4]
    refine⟨_,hr,?_⟩;cases ok
    ·exact⟨.one (m5 _ _),fun b hb=>no_refs hb⟩
    ·exact⟨Cy (m5 _ _),fun b hb=>BQ b hb⟩
  |some q=>
   obtain⟨j,v'⟩:=q;cases r' with
   |none=>exact f2.elim
   |some q'=>
    obtain⟨j',u3⟩:=q';simp only[ab]at h;subst h;obtain⟨-,q2, -⟩:=f2;have hr:(Instr.lookup t (.map (some g)) u' ok).run P w= .ok (if ok then .tuple #[u3, .bool true]else u3) w:=by
     simp only[Instr.lookup,ag,hun,ae,hgo,am,hck,hfk]
    refine⟨_,hr,?_⟩;cases ok
    ·exact⟨.one q2,fun b hb=>no_refs hb⟩
    ·exact⟨Cy q2,fun b hb=>BQ b hb⟩
theorem qn(C:KJ P ty)(R:Rel base E M w0 β st a.tmps w){t:TypeId}{x i v:EV}{ok:Bool}(h:JG ty st t x i ok=some v){u u':Value}(hx:XY w (XP M w β) β x u)(hi:XY w (XP M w β) β i u'):
  ∃r,(Instr.lookup t u u' ok).run P w= .ok r w∧XY w (XP M w β) β v r∧∀b,¬XR v b:=by
 unfold JG at h;split at h
 ·rename_i d z b k hm;obtain⟨kt,et,m1,m2,m3,zv,m4,m5⟩:=Rh C hm;split at h
  ·rename_i es hb;cases hx with|one hx=>
   obtain⟨g,hβ,rfl⟩:=hx;obtain⟨u2,hu2,g2,arr,clock,rfl,hg,hl⟩:=R.obj b _ hb;rw[hβ]at hu2;injection hu2 with hu2;injection hu2 with hu2;injection hu2 with hu2;subst hu2;cases hi with|one hi=>
   exact Pi m1 m2 m3 m4 m5 h hg hl hi
  ·cases h
 ·rename_i d z es k hm;obtain⟨kt,et,m1,m2,m3,zv,m4,m5⟩:=Rh C hm;cases hx with|one hx=>
  have hx':XH w (XP M w β) (.mp es) u:=hx;cases hx' with
  | @mp _ g arr clock hg hh hl hk hv=>
  cases hi with|one hi=>
  exact Pi m1 m2 m3 m4 m5 h hh ⟨by simpa using hl,fun i x y hx hy=>⟨hk i x y hx (by simpa using hy),hv i x y hx (by simpa using hy)⟩⟩ hi
 ·cases h
end
end
section
section
variable {P:Program} {base:Nat} {E M:Nat→Prop} {w0 w:World} {β:K3} {st:St} {a:Act} {N:Nat→Prop} {ty:TypeId→Option Ty}
def unE(op:UnOp)(x:EV):Option EV:=
 match op,x with
 | .not, .one (.c (.sc (.bool b)))=>some (bv (!b))
 | .neg, .one (.c (.sc (.int k n)))=>some (iv k (k.wrap (0 - n)))
 |_,_=>none
theorem cP{op:UnOp}{x v:EV}(h:unE op x=some v){u:Value}(hx:XY w N β x u):∃r,(Op.unary op u).run P w= .ok r w∧XY w N β v r∧∀b,¬XR v b:=by
 unfold unE at h;split at h
 ·injection h with h;subst h;rw[hx.bool];exact⟨_,by simp[Op.unary], .one (.sc rfl),fun b hb=>no_refs hb⟩
 ·injection h with h;subst h;rw[hx.int];exact⟨_,by simp[Op.unary,Op.intArith], .one (.sc rfl),fun b hb=>no_refs hb⟩
 ·cases h
def OJ(ty:TypeId→Option Ty)(src dst:TypeId)(x:EV):Option EV:=
 match ty src,ty dst with
 |some _S,some D=>match D.desc,x with
  | .int k, .one (.c (.sc (.int _ n)))=>some (iv k (k.wrap n))
  |_,_=>none
 |_,_=>none
theorem OI(C:KJ P ty){src dst:TypeId}{x v:EV}(h:OJ ty src dst x=some v){u:Value}(hx:XY w N β x u):∃r,(convert src dst u).run P w= .ok r w∧XY w N β v r∧∀b,¬XR v b:=by
 unfold OJ at h;split at h
 ·rename_i S D Y hD;split at h
  ·rename_i k k' n hd;injection h with h;subst h;rw[hx.int];have h1:=(C _ _ Y).underlying w;have h2:=(C _ _ hD).underlying w;rw[hd]at h2;exact⟨_,by simp[convert,h1,h2,Conv.intToInt], .one (.sc rfl),fun b hb=>no_refs hb⟩
  ·cases h
 ·cases h
def MO(st:St):List Operand→Option (List EV)
 |[]=>some []
 |x::r=>match evO st x,MO st r with|some v,some l=>some (v::l)|_,_=>none
theorem EU(R:Rel base E M w0 β st a.tmps w):∀{xs:List Operand} {l:List EV},MO st xs=some l→Yx (XY w (XP M w β) β) l (xs.map a.eval):=by
 intro xs
 induction xs with
 |nil=>intro l h;injection h with h;subst h;exact .nil
 |cons x xs ih=>
  intro l h;simp only[MO]at h;split at h
  ·rename_i v l' hv hl;injection h with h;subst h;exact .cons (evO_ok R hv).1 (ih hl)
  ·cases h
def De:List EV→Option (List (List Cv))
 |[]=>some []
 | .ep _ els i off::r=>(match De r with|some l=>some ((els.getD i []).drop off::l)|none=>none)
 |_=>none
theorem OT:∀{l:List EV} {cs:List (List Cv)},De l=some cs→∀{us:List Value},Yx (XY w N β) l us→
  us.length=cs.length∧∀i,∃xv:Addr×(Nat→Value),i<cs.length→us[i]? =some (.pointer (some xv.1))∧∀j c,cellAt cs i j=some c→N xv.1.block∧w.cell? (xv.1.add j)=some (xv.2 j)∧XH w N c (xv.2 j):=by
 intro l
 induction l with
 |nil=>intro cs h us hu;injection h with h;subst h;exact⟨hu.1.symm,fun i=>⟨⟨⟨0,0,none⟩,fun _=>undef⟩,fun h=>by simp at h⟩⟩
 |cons x l ih=>
  intro cs h us hu;cases x with
  |ep esz els i off=>
   simp only[De]at h;split at h
   ·rename_i l' hl;injection h with h;subst h;cases us with
    |nil=>have:=hu.1;simp at this
    |cons u us=>
     have ht:Yx (XY w N β) l us:=⟨by have:=hu.1;simpa using this,fun j x y a b=>hu.2 (j+1) x y (by simpa using a) (by simpa using b)⟩;obtain⟨h1,h2⟩:=ih hl ht;refine⟨by simp[h1],fun k=>?_⟩;cases k with
     |succ k=>
      obtain⟨xv,hx⟩:=h2 k;exact⟨xv,fun hk=>by obtain⟨a,b⟩:=hx (by simpa using hk);exact⟨by simpa using a,fun j c hc=>b j c (by simpa[cellAt]using hc)⟩⟩
     |zero=>
      have h0:=hu.2 0 _ _ rfl rfl;cases h0 with
      | @ep _ _ _ len cap A _ hs hi=>
      cases hs with
      |sl vs hlen hcap hz hc hr=>
      refine⟨⟨A.add (i*esz+off),fun j=>vs i (off+j)⟩,fun _=>⟨rfl,fun j c hcc=>?_⟩⟩;have hcc':cellAt els i (off+j)=some c:=by
       unfold cellAt at hcc⊢;simp only[cj,fa,cw]at hcc;rw[ac,aa hi]at hcc;rw[aa hi];exact hcc
      obtain⟨q1,q2⟩:=hc _ _ _ hcc';exact⟨by rw[add_block];exact q1,by rw[add_add',di];exact q2,hr _ _ _ hcc'⟩
   ·cases h
  |_=>cases h
def VI(ty:TypeId→Option Ty)(st:St)(o:Oper):Option (Prop×EV):=
 match o.op with
 | .move x| .assign x=>(match evO st x with|some v=>some (True,v)|none=>none)
 | .binOp op t x y _=>(match evO st x,evO st y with|some v,some u=>kJ ty op t v u|_,_=>none)
 | .unOp op _ x=>(match evO st x with|some v=>(match unE op v with|some r=>some (True,r)|none=>none)|none=>none)
 | .convert s d x=>(match evO st x with|some v=>(match OJ ty s d v with|some r=>some (True,r)|none=>none)|none=>none)
 | .fieldAddr s x f=>(match evO st x with|some v=>(match Jx ty s v f with|some r=>some (True,r)|none=>none)|none=>none)
 | .field s x f=>(match evO st x with|some v=>qk ty s v f|none=>none)
 | .indexAddr t x i=>(match evO st x,evO st i with|some v,some u=>X7 ty st t v u|_,_=>none)
 | .index t x i=>(match evO st x,evO st i with|some v,some u=>ID ty t v u|_,_=>none)
 | .load t x=>(match evO st x with|some v=>H3 ty st t v|none=>none)
 | .extract x i=>(match evO st x with|some (.tup l)=>(match l[i]? with|some r=>some (True,r)|none=>none)|_=>none)
 | .build t ps=>(match Zh st ps.toList with|some l=>Jn ty t l|none=>none)
 | .slice t x lo hi none=>
  (match evO st x,(match lo with|none=>some none|some x=>(evO st x).map some),(match hi with|none=>some none|some x=>(evO st x).map some)with
   |some v,some l,some h=>ZN ty t v l h
   |_,_,_=>none)
 | .nilCheck x=>(match evO st x with|some (.one (.ptr b off))=>some (True, .one (.ptr b off))|some (.ep esz els i off)=>some (True, .ep esz els i off)|some (.rp b esz i off)=>some (True, .rp b esz i off)|_=>none)
 | .makeFunc f ⟨[]⟩ ⟨[]⟩=>some (True, .one (.c (.sc (.func f #[] #[]))))
 | .makeFunc (.func f) ⟨[]⟩ xs=>(match MO st xs.toList with|some l=>(match De l with|some cs=>some (True, .one (.c (.fn f cs)))|none=>none)|none=>none)
 | .call {callee:= .builtin .len,args:=⟨[x]⟩,argTypes:=⟨[t]⟩}=>(match evO st x with|some v=>(match Pj ty st t v with|some r=>some (True,r)|none=>none)|none=>none)
 | .call {callee:= .builtin .min,args:=⟨[x,y]⟩, .. }=>(match evO st x,evO st y with|some (.one (.c (.sc (.int k m)))),some (.one (.c (.sc (.int _ n))))=>some (True,iv k (if n<m then n else m))|_,_=>none)
 | .call {callee:= .builtin .max,args:=⟨[x,y]⟩, .. }=>(match evO st x,evO st y with|some (.one (.c (.sc (.int k m)))),some (.one (.c (.sc (.int _ n))))=>some (True,iv k (if n>m then n else m))|_,_=>none)
 | .lookup t x i ok=>(match evO st x,evO st i with|some v,some u=>(match JG ty st t v u ok with|some r=>some (True,r)|none=>none)|_,_=>none)
 | .call {callee:= .builtin .cap,args:=⟨[x]⟩,argTypes:=⟨[t]⟩}=>(match evO st x,elemOf ty t with|some (.one (.c (.sl true _ []))),some (none,_,_)=>some (True,iv .i64 0)|_,_=>none)
 |_=>none
theorem Zu(R:Rel base E M w0 β st a.tmps w){x:Option Operand}{v:Option EV}(h:(match x with|none=>some none|some x=>(evO st x).map some)=some v):OptE w (XP M w β) β v (x.map a.eval):=by
 cases x with
 |none=>injection h with h;subst h;trivial
 |some x=>
  cases hv:evO st x with
  |none=>simp[hv]at h
  |some y=>
   simp[hv]at h;subst h;exact(evO_ok R hv).1
theorem So(C:KJ P ty){o:Oper}{p:Prop}{v:EV}(h:VI ty st o=some (p,v))(hp:p):VOk P st o v:=by
 intro base E M w0 w β a R;unfold VI at h;split at h
 ·rename_i x ho;split at h
  ·rename_i v' hv;simp only[ab,af]at h;obtain⟨rfl,rfl⟩:=h;obtain⟨h1,h2⟩:=evO_ok R hv;exact⟨_,by simp[execOp,ho],h1,h2⟩
  ·cases h
 ·rename_i x ho;split at h
  ·rename_i v' hv;simp only[ab,af]at h;obtain⟨rfl,rfl⟩:=h;obtain⟨h1,h2⟩:=evO_ok R hv;exact⟨_,by simp[execOp,ho],h1,h2⟩
  ·cases h
 ·rename_i op t x y yt ho;split at h
  ·rename_i v1 v2 hv1 hv2;obtain⟨h1, -⟩:=evO_ok R hv1;obtain⟨h2, -⟩:=evO_ok R hv2;obtain⟨r,r1,r2,r3⟩:=aI C h hp h1 h2 x y;refine⟨r,?_,r2,fun b hb=>(r3 b hb).elim⟩;simp only[execOp,ho,ag]at r1⊢;rw[r1];rfl
  ·cases h
 ·rename_i op t x ho;split at h
  ·rename_i v1 hv1;split at h
   ·rename_i r' hr;simp only[ab,af]at h;obtain⟨rfl,rfl⟩:=h;obtain⟨h1, -⟩:=evO_ok R hv1;obtain⟨r,r1,r2,r3⟩:=cP (P:=P) hr h1;exact⟨r,by simp[execOp,ho,r1],r2,fun b hb=>(r3 b hb).elim⟩
   ·cases h
  ·cases h
 ·rename_i s d x ho;split at h
  ·rename_i v1 hv1;split at h
   ·rename_i r' hr;simp only[ab,af]at h;obtain⟨rfl,rfl⟩:=h;obtain⟨h1, -⟩:=evO_ok R hv1;obtain⟨r,r1,r2,r3⟩:=OI C hr h1;exact⟨r,by simp[execOp,ho,r1],r2,fun b hb=>(r3 b hb).elim⟩
   ·cases h
  ·cases h
 ·rename_i s x f ho;split at h
  ·rename_i v1 hv1;split at h
   ·rename_i r' hr;simp only[ab,af]at h;obtain⟨rfl,rfl⟩:=h;obtain⟨h1,h2⟩:=evO_ok R hv1;obtain⟨r,r1,r2,r3⟩:=RL C hr h1;exact⟨r,by simp[execOp,ho,r1],r2,fun b hb=>h2 b (r3 b hb)⟩
   ·cases h
  ·cases h
 ·rename_i s x f ho;split at h
  ·rename_i v1 hv1;obtain⟨h1,h2⟩:=evO_ok R hv1;obtain⟨r,r1,r2,r3⟩:=AV C h hp h1;exact⟨r,by simp[execOp,ho,r1],r2,fun b hb=>h2 b (r3 b hb)⟩
  ·cases h
 ·rename_i t x i ho;split at h
  ·rename_i v1 v2 hv1 hv2;obtain⟨h1,h1'⟩:=evO_ok R hv1;obtain⟨h2, -⟩:=evO_ok R hv2;obtain⟨r,r1,r2,r3⟩:=Rv C R h hp h1 h2;exact⟨r,by simp[execOp,ho,r1],r2,fun b hb=>h1' b (r3 b hb)⟩
  ·cases h
 ·rename_i t x i ho;split at h
  ·rename_i v1 v2 hv1 hv2;obtain⟨h1,h1'⟩:=evO_ok R hv1;obtain⟨h2, -⟩:=evO_ok R hv2;obtain⟨r,r1,r2,r3⟩:=Au C h hp h1 h2;exact⟨r,by simp[execOp,ho,r1],r2,fun b hb=>h1' b (r3 b hb)⟩
  ·cases h
 ·rename_i t x ho;split at h
  ·rename_i v1 hv1;obtain⟨h1, -⟩:=evO_ok R hv1;obtain⟨r,r1,r2,r3⟩:=Iz C R h hp h1;exact⟨r,by simp[execOp,ho,r1],r2,r3⟩
  ·cases h
 ·rename_i x i ho;split at h
  ·rename_i l hv1;split at h
   ·rename_i r' hr;simp only[ab,af]at h;obtain⟨rfl,rfl⟩:=h;obtain⟨h1,h2⟩:=evO_ok R hv1;cases he:a.eval x with
    |tuple us=>
     rw[he]at h1;cases h1 with|tup hl hh=>
     have hi:i<us.size:=by rw[←hl];exact(ah.1 hr).1
     refine⟨us[i],?_,hh i r' us[i] hr (bw hi),fun b hb=>h2 b (.tup (bb hr) hb)⟩;simp[execOp,ho,he,Instr.extract,hi]
    |_=>rw[he]at h1;cases h1
   ·cases h
  ·cases h
 ·rename_i t ps ho;split at h
  ·rename_i l hl;obtain⟨h1,h2⟩:=IZ R hl;obtain⟨r,r1,r2,r3⟩:=Di C h hp (us:=ps.map fun(p:Nat×Operand)=>(p.1,a.eval p.2)) (by simpa using h1);refine⟨r,?_,r2,fun b hb=>by obtain⟨q,hq,hb'⟩:=r3 b hb;exact h2 q hq b hb'⟩;have:(ps.map fun x=>match x with|(i,x)=>(i,a.eval x))=ps.map fun(p:Nat×Operand)=>(p.1,a.eval p.2):=rfl;simp only[execOp,ho,ag,r1,ae,am]
  ·cases h
 ·rename_i t x lo hi ho;split at h
  ·rename_i v1 l h' hv1 hlo hhi;obtain⟨h1, -⟩:=evO_ok R hv1;obtain⟨r,r1,r2,r3⟩:=Bj C h hp h1 (Zu R hlo) (Zu R hhi);exact⟨r,by simp[execOp,ho,r1],r2,fun b hb=>(r3 b hb).elim⟩
  ·cases h
 ·rename_i x ho;split at h
  ·rename_i b off hv1;simp only[ab,af]at h;obtain⟨rfl,rfl⟩:=h;obtain⟨h1,h2⟩:=evO_ok R hv1;cases hu:h1 with
   |one hx=>
   obtain⟨g,hg,hu'⟩:=hx;rw[hu']at h1;exact⟨.pointer (some ⟨g,off,none⟩),by simp[execOp,ho,hu'],h1,h2⟩
  ·rename_i esz els i off hv1;simp only[ab,af]at h;obtain⟨rfl,rfl⟩:=h;obtain⟨h1,h2⟩:=evO_ok R hv1;generalize hw:a.eval x=u at h1;cases h1 with
   |ep hs hi=>exact⟨_,by simp[execOp,ho,hw], .ep hs hi,h2⟩
  ·rename_i b esz i off hv1;simp only[ab,af]at h;obtain⟨rfl,rfl⟩:=h;obtain⟨h1,h2⟩:=evO_ok R hv1;generalize hw:a.eval x=u at h1;cases h1 with
   |rp hb=>exact⟨_,by simp[execOp,ho,hw], .rp hb,h2⟩
  ·cases h
 ·rename_i f ho;simp only[ab,af]at h;obtain⟨rfl,rfl⟩:=h;exact⟨_,by simp[execOp,ho,Instr.makeFunc], .one (.sc rfl),fun b hb=>(no_refs hb).elim⟩
 ·rename_i f xs hno ho;split at h
  ·rename_i l hl;split at h
   ·rename_i cs hcs;simp only[ab,af]at h;obtain⟨rfl,rfl⟩:=h;obtain⟨h1,h2⟩:=OT hcs (EU R hl);obtain⟨xv,hxv⟩:=Classical.axiomOfChoice h2;refine⟨.func (.func f) #[] (xs.map a.eval),by simp[execOp,ho,Instr.makeFunc], .one (.fn (fun i=>(xv i).1) (fun i=>(xv i).2) (by simpa using h1) (fun i hi=>by simpa using (hxv i hi).1) (fun i j c hc=>?_) fun i j c hc=>?_),fun b hb=>(no_refs hb).elim⟩
    all_goals
     have hi:i<cs.length:=by
      unfold cellAt at hc;rcases cp i cs.length with g|g
      ·exact g
      ·rw[gf g]at hc;cases hc
    ·exact⟨((hxv i hi).2 j c hc).1,((hxv i hi).2 j c hc).2.1⟩
    ·exact((hxv i hi).2 j c hc).2.2
   ·cases h
  ·cases h
 ·rename_i x t ho;split at h
  ·rename_i v1 hv1;split at h
   ·rename_i r' hr;simp only[ab,af]at h;obtain⟨rfl,rfl⟩:=h;obtain⟨h1, -⟩:=evO_ok R hv1;obtain⟨r,r1,r2,r3⟩:=SQ C R hr h1 o.type;exact⟨r,by simp[execOp,ho,resolve,invoke,builtin,r1],r2,fun b hb=>(r3 b hb).elim⟩
   ·cases h
  ·cases h
 ·rename_i x y ts ho;split at h
  ·rename_i k m k' n hv1 hv2;simp only[ab,af]at h;obtain⟨rfl,rfl⟩:=h;have h1:=(evO_ok R hv1).1.int;have h2:=(evO_ok R hv2).1.int;exact⟨_,by simp[execOp,ho,resolve,invoke,builtin,h1,h2,run_min_int2], .one (.sc rfl),fun b hb=>(no_refs hb).elim⟩
  ·cases h
 ·rename_i x y ts ho;split at h
  ·rename_i k m k' n hv1 hv2;simp only[ab,af]at h;obtain⟨rfl,rfl⟩:=h;have h1:=(evO_ok R hv1).1.int;have h2:=(evO_ok R hv2).1.int;exact⟨_,by simp[execOp,ho,resolve,invoke,builtin,h1,h2,run_max_int2], .one (.sc rfl),fun b hb=>(no_refs hb).elim⟩
  ·cases h
 ·rename_i t x i ok ho;split at h
  ·rename_i v1 v2 hv1 hv2;split at h
   ·rename_i r' hr;simp only[ab,af]at h;obtain⟨rfl,rfl⟩:=h;obtain⟨h1, -⟩:=evO_ok R hv1;obtain⟨h2, -⟩:=evO_ok R hv2;obtain⟨r,r1,r2,r3⟩:=qn C R hr h1 h2;exact⟨r,by simp[execOp,ho,r1],r2,fun b hb=>(r3 b hb).elim⟩
   ·cases h
  ·cases h
 ·rename_i x t ho;split at h
  ·rename_i hv1 he;simp only[ab,af]at h;obtain⟨rfl,rfl⟩:=h;obtain⟨h1, -⟩:=evO_ok R hv1;obtain⟨e1, -, -⟩:=Yn C he w;generalize hw:a.eval x=u at h1;cases h1 with|one h1=>
   have h1':XH w _ (.sl true _ []) u:=h1;cases h1';exact⟨_,by simp[execOp,ho,resolve,invoke,builtin,hw,Builtin.cap_,e1];rfl, .one (.sc rfl),fun b hb=>(no_refs hb).elim⟩
  ·cases h
 ·cases h
end
end
end Go.Proofs.YtbkpmfjfpcoehaaGreatDoor.Dw
