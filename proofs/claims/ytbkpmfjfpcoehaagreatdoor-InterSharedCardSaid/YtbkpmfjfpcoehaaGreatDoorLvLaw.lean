/- fencepostlaw12.lives (the trial at the head of each law of stage 12): called from whatever start fits, and with whatever arguments, it returns true, and what was there reads as it did; the listed variables of packages are tied to the program's text. Condition: the listed variables of packages read as their packages lay them (the card ties that). -/
import Derived.Test.YtbkpmfjfpcoehaaGreatDoorRows
import Derived.Test.YtbkpmfjfpcoehaaGreatDoorLvFin
import Derived.ProofKit
import Derived.ChangeSame
import Derived.ChangeVars
import Derived.JoinedOf
import Derived.LaidLaws
import Derived.LaidHandle
import Derived.LaidSub
import Derived.MakeChecks
import Derived.OpenShut
import Derived.Lay
import Derived.Carry
import Derived.ChangeMaps5
import Derived.Stop.Joined
import Derived.SevenTiedAt
namespace Go.Proofs.YtbkpmfjfpcoehaaGreatDoor
open Go Go.ChangeShapes Go.WideShapes Go.ChangeAt Go.RowKit
set_option maxRecDepth 100000
theorem Ii{P:Program}{W:World}{k:IntKind}{ns:List Int}{e m f:Nat}{cs:List Value}{xs:List (DataW Unit×List MemPlace)}(he:P.underlying e=some (.int k))(hlen:cs.length=m)(hn:xs.length=m)
  (hx:(ns.map fun x=>(DataW.lit (.int k x):DataW Unit))=xs.map (·.1)) (hel:∀i,i<m→DataW.trod (fun _=>()) P W 0 (fun _=>true) false f e ((cs.drop i).take 1)=xs[i]?):cs=ns.map (.int k):=by
 have hl2:ns.length=m:=by rw[←hn,←ai (f:=fun x=>(DataW.lit (.int k x):DataW Unit)),hx,ai]
 apply List.ext_getElem?
 intro i
 rcases cp i m with hi|hi
 ·have h1:=hel i hi
  have hx1:i<xs.length:=by omega
  rw[aa hx1]at h1
  obtain⟨v,e1,e2,_⟩:=fe he h1
  have hc1:cs[i]? =some (.int k v):=by
   have:=ee (fun l=>l[0]?) e1
   simpa using this
  have hn1:(ns.map fun x=>(DataW.lit (.int k x):DataW Unit))[i]? =some (.lit (.int k v)):=by
   rw[hx,an,aa hx1,bt,e2]
  rw[an,aa (by omega),bt]at hn1
  injection hn1 with hn1
  injection hn1 with hn1
  injection hn1 with _ hn1
  rw[hc1,an,aa (by omega),bt,hn1]
 ·rw[gf (by rw[hlen];exact hi),gf (by rw[ai,hl2];exact hi)]
theorem IA{P:Program}{W:World}{n:String}{d:DataW Unit}{g t:Nat}(h:laidMet P [(n,d)] W)(hg:P.globalNamed n=some g)(ht:(P.globals[g]?).map (·.type)=some t):
  ∃(arr:Array Value) (ty:TypeId) (fr:Nat×Nat) (fuel:Nat) (p:List MemPlace),W.heap[g]? =some (.cells arr ty fr)∧DataW.trod (fun _=>()) P W 0 (fun _=>true) false fuel t arr.toList=some (d,p):=by
 obtain⟨ps,⟨g0,t0,cs0,f0,p0,q0,hg0,ht0,hv0,hd0,_,_⟩,_,_⟩:=h
 obtain rfl:=Option.some.inj (hg.symm.trans hg0)
 obtain rfl:=Option.some.inj (ht.symm.trans ht0)
 have hcell:∃(ty:TypeId) (fr:Nat×Nat),W.heap[g]? =some (.cells cs0 ty fr):=by
  unfold World.var? at hv0
  rw[hg]at hv0
  simp only[fa]at hv0
  split at hv0
  ·rename_i cs ty fr hh
   injection hv0 with hv0;subst hv0
   exact⟨ty,fr,hh⟩
  ·cases hv0
 obtain⟨ty,fr,hh⟩:=hcell
 exact⟨cs0,ty,fr,f0,p0,hh,hd0⟩
theorem Oa{P:Program}{W:World}{n:String}{k:IntKind}{ns:List Int}{g t e m:Nat}(h:laidMet P [(n, .agg (ns.map fun x=> .lit (.int k x)))] W)(hg:P.globalNamed n=some g)
  (ht:(P.globals[g]?).map (·.type)=some t) (hu:P.underlying t=some (.array m e)) (he:P.underlying e=some (.int k)) (hc:P.cellsOf e=1) (hct:P.cellsOf t=m):
  ∃(arr:Array Value) (ty:TypeId) (fr:Nat×Nat),W.heap[g]? =some (.cells arr ty fr)∧arr.toList=ns.map (.int k):=by
 obtain⟨arr,ty,fr,fuel,p,hh,hd0⟩:=IA h hg ht
 refine⟨arr,ty,fr,hh,?_⟩
 obtain⟨xs,m1,_,hx,hlen,hn,hel⟩:=DataW.trod_array hu hd0
 injection hx with hx _
 injection hx with hx
 rw[hc]at hel
 exact Ii he (by rw[hlen,hct]) hn hx (fun i hi=>by have:=hel i hi;rwa[Nat.mul_one]at this)
theorem Ka{P:Program}{W:World}{n:String}{k:IntKind}{ns:List Int}{g t e m:Nat}{fs:Array Field}(h:laidMet P [(n, .agg (ns.map fun x=> .lit (.int k x)))] W)(hg:P.globalNamed n=some g)
  (ht:(P.globals[g]?).map (·.type)=some t) (hu:P.underlying t=some (.struct fs)) (hfs:(fs.toList.map fun f=>(f.type,f.offset))=(List.range m).map fun i=>(e,i)) (he:P.underlying e=some (.int k)) (hc:P.cellsOf e=1) (hct:P.cellsOf t=m):
  ∃(arr:Array Value) (ty:TypeId) (fr:Nat×Nat),W.heap[g]? =some (.cells arr ty fr)∧arr.toList=ns.map (.int k):=by
 obtain⟨arr,ty,fr,fuel,p,hh,hd0⟩:=IA h hg ht
 refine⟨arr,ty,fr,hh,?_⟩
 obtain⟨xs,m1,_,hx,hlen,hn,hel⟩:=jr hu hd0
 injection hx with hx _
 injection hx with hx
 have hsz:fs.size=m:=by
  have:=ee List.length hfs
  simpa using this
 refine Ii (W:=W) (f:=m1) he (by rw[hlen,hct]) (by rw[hn,hsz]) hx (fun i hi=>?_)
 have hi':i<fs.size:=by omega
 have h1:=hel i fs[i] (bw hi')
 have h2:=ee (fun l=>l[i]?) hfs
 simp only[an,List.getElem?_range hi,bt,eh,bw hi']at h2
 injection h2 with h2
 injection h2 with h2 h3
 rw[h2,h3,hc]at h1
 exact h1
theorem DJ{P:Program}{W:World}{t f:Nat}{ms:Array (String×TypeId)}{cs:List Value}{x:DataW Unit×List MemPlace}(ht:P.underlying t=some (.interface ms))(h:DataW.trod (fun _=>()) P W 0 (fun _=>true) false f t cs=some x):∃v,cs=[v]∧v.oneCell'=true:=by
 cases f with
 |zero=>simp[DataW.trod]at h
 |succ f=>
  simp only[DataW.trod,ht]at h
  split at h<;>first
   |exact⟨_,rfl,rfl⟩
   |simp_all
def H0(o:Sim.Yj):List Int:=match o with| .cells l _=>l.map (fun v=>match v with| .int _ x=>x|_=>0)|_=>[]
def Jr(o:Sim.Yj):List Value:=match o with| .cells l _=>l|_=>[]
theorem own:ownKnob Tryz.prog.godebug=none:=by kernel_rfl
theorem qT:Tryz.prog.inits.idxOf? 4=none:=by kernel_rfl
theorem laidOut:laidOutB Tryz.prog=true:=by kernel_rfl
theorem gB{W:World}(h:laidMetH Tryz.prog Rows.interSharedRow.laid W):∃(arr:Array Value) (ty:TypeId) (fr:Nat×Nat),W.heap[0]? =some (.cells arr ty fr)∧Sim.gl0= .cells arr.toList (.fixed true):=by
 have h1:=h.filter (fun x=>x.1== "fencepost/code.fieldF3")
 have e1:(Rows.interSharedRow.laid.filter fun x=>x.1== "fencepost/code.fieldF3")=[("fencepost/code.fieldF3", .agg ((H0 Sim.gl0).map fun x=> .lit (.int .i64 x)))]:=by kernel_rfl
 rw[e1,MakeChecks.laidMetH_plain _ _ _ (by kernel_rfl)]at h1
 obtain⟨arr,ty,fr,a,b⟩:=Ka h1 (g:=0) (t:=308) (e:=3) (m:=2) (by kernel_rfl) (by kernel_rfl) Tryz.underlying308 (by kernel_rfl) (by kernel_rfl) (by kernel_rfl) (by kernel_rfl)
 exact⟨arr,ty,fr,a,by rw[b];kernel_rfl⟩
theorem W3:Sim.allB Sim.Xy (Jr Sim.gl0)=true:=by kernel_rfl
theorem gA{W:World}(h:laidMetH Tryz.prog Rows.interSharedRow.laid W):∃(arr:Array Value) (ty:TypeId) (fr:Nat×Nat),W.heap[1]? =some (.cells arr ty fr)∧Sim.gl1= .cells arr.toList (.fixed true):=by
 have h1:=h.filter (fun x=>x.1== "fencepost/code.fieldRd")
 have e1:(Rows.interSharedRow.laid.filter fun x=>x.1== "fencepost/code.fieldRd")=[("fencepost/code.fieldRd", .agg ((H0 Sim.gl1).map fun x=> .lit (.int .i64 x)))]:=by kernel_rfl
 rw[e1,MakeChecks.laidMetH_plain _ _ _ (by kernel_rfl)]at h1
 obtain⟨arr,ty,fr,a,b⟩:=Ka h1 (g:=1) (t:=308) (e:=3) (m:=2) (by kernel_rfl) (by kernel_rfl) Tryz.underlying308 (by kernel_rfl) (by kernel_rfl) (by kernel_rfl) (by kernel_rfl)
 exact⟨arr,ty,fr,a,by rw[b];kernel_rfl⟩
theorem W2:Sim.allB Sim.Xy (Jr Sim.gl1)=true:=by kernel_rfl
theorem fZ{W:World}(h:laidMetH Tryz.prog Rows.interSharedRow.laid W):∃(arr:Array Value) (ty:TypeId) (fr:Nat×Nat),W.heap[2]? =some (.cells arr ty fr)∧Sim.gl2= .cells arr.toList (.fixed true):=by
 have h1:=h.filter (fun x=>x.1== "fencepost/code.fieldRs1")
 have e1:(Rows.interSharedRow.laid.filter fun x=>x.1== "fencepost/code.fieldRs1")=[("fencepost/code.fieldRs1", .agg ((H0 Sim.gl2).map fun x=> .lit (.int .i64 x)))]:=by kernel_rfl
 rw[e1,MakeChecks.laidMetH_plain _ _ _ (by kernel_rfl)]at h1
 obtain⟨arr,ty,fr,a,b⟩:=Ka h1 (g:=2) (t:=308) (e:=3) (m:=2) (by kernel_rfl) (by kernel_rfl) Tryz.underlying308 (by kernel_rfl) (by kernel_rfl) (by kernel_rfl) (by kernel_rfl)
 exact⟨arr,ty,fr,a,by rw[b];kernel_rfl⟩
theorem W1:Sim.allB Sim.Xy (Jr Sim.gl2)=true:=by kernel_rfl
theorem fY{W:World}(h:laidMetH Tryz.prog Rows.interSharedRow.laid W):∃(arr:Array Value) (ty:TypeId) (fr:Nat×Nat),W.heap[3]? =some (.cells arr ty fr)∧Sim.gl3= .cells arr.toList (.fixed true):=by
 have h1:=h.filter (fun x=>x.1== "fencepost/code.fieldRs2")
 have e1:(Rows.interSharedRow.laid.filter fun x=>x.1== "fencepost/code.fieldRs2")=[("fencepost/code.fieldRs2", .agg ((H0 Sim.gl3).map fun x=> .lit (.int .i64 x)))]:=by kernel_rfl
 rw[e1,MakeChecks.laidMetH_plain _ _ _ (by kernel_rfl)]at h1
 obtain⟨arr,ty,fr,a,b⟩:=Ka h1 (g:=3) (t:=308) (e:=3) (m:=2) (by kernel_rfl) (by kernel_rfl) Tryz.underlying308 (by kernel_rfl) (by kernel_rfl) (by kernel_rfl) (by kernel_rfl)
 exact⟨arr,ty,fr,a,by rw[b];kernel_rfl⟩
theorem WZ:Sim.allB Sim.Xy (Jr Sim.gl3)=true:=by kernel_rfl
theorem fX{W:World}(h:laidMetH Tryz.prog Rows.interSharedRow.laid W):∃(arr:Array Value) (ty:TypeId) (fr:Nat×Nat),W.heap[4]? =some (.cells arr ty fr)∧Sim.gl4= .cells arr.toList (.fixed true):=by
 have h1:=h.filter (fun x=>x.1== "fencepost/code.fieldF7")
 have e1:(Rows.interSharedRow.laid.filter fun x=>x.1== "fencepost/code.fieldF7")=[("fencepost/code.fieldF7", .agg ((H0 Sim.gl4).map fun x=> .lit (.int .i64 x)))]:=by kernel_rfl
 rw[e1,MakeChecks.laidMetH_plain _ _ _ (by kernel_rfl)]at h1
 obtain⟨arr,ty,fr,a,b⟩:=Ka h1 (g:=4) (t:=308) (e:=3) (m:=2) (by kernel_rfl) (by kernel_rfl) Tryz.underlying308 (by kernel_rfl) (by kernel_rfl) (by kernel_rfl) (by kernel_rfl)
 exact⟨arr,ty,fr,a,by rw[b];kernel_rfl⟩
theorem WY:Sim.allB Sim.Xy (Jr Sim.gl4)=true:=by kernel_rfl
theorem fW{W:World}(h:laidMetH Tryz.prog Rows.interSharedRow.laid W):∃(arr:Array Value) (ty:TypeId) (fr:Nat×Nat),W.heap[5]? =some (.cells arr ty fr)∧Sim.gl5= .cells arr.toList (.fixed true):=by
 have h1:=h.filter (fun x=>x.1== "fencepost/code.fieldSix")
 have e1:(Rows.interSharedRow.laid.filter fun x=>x.1== "fencepost/code.fieldSix")=[("fencepost/code.fieldSix", .agg ((H0 Sim.gl5).map fun x=> .lit (.int .i64 x)))]:=by kernel_rfl
 rw[e1,MakeChecks.laidMetH_plain _ _ _ (by kernel_rfl)]at h1
 obtain⟨arr,ty,fr,a,b⟩:=Ka h1 (g:=5) (t:=308) (e:=3) (m:=2) (by kernel_rfl) (by kernel_rfl) Tryz.underlying308 (by kernel_rfl) (by kernel_rfl) (by kernel_rfl) (by kernel_rfl)
 exact⟨arr,ty,fr,a,by rw[b];kernel_rfl⟩
theorem WX:Sim.allB Sim.Xy (Jr Sim.gl5)=true:=by kernel_rfl
theorem fV{W:World}(h:laidMetH Tryz.prog Rows.interSharedRow.laid W):∃(arr:Array Value) (ty:TypeId) (fr:Nat×Nat),W.heap[6]? =some (.cells arr ty fr)∧Sim.gl6= .cells arr.toList (.fixed true):=by
 have h1:=h.filter (fun x=>x.1== "fencepost/code.fieldPred")
 have e1:(Rows.interSharedRow.laid.filter fun x=>x.1== "fencepost/code.fieldPred")=[("fencepost/code.fieldPred", .agg ((H0 Sim.gl6).map fun x=> .lit (.int .i64 x)))]:=by kernel_rfl
 rw[e1,MakeChecks.laidMetH_plain _ _ _ (by kernel_rfl)]at h1
 obtain⟨arr,ty,fr,a,b⟩:=Ka h1 (g:=6) (t:=308) (e:=3) (m:=2) (by kernel_rfl) (by kernel_rfl) Tryz.underlying308 (by kernel_rfl) (by kernel_rfl) (by kernel_rfl) (by kernel_rfl)
 exact⟨arr,ty,fr,a,by rw[b];kernel_rfl⟩
theorem WW:Sim.allB Sim.Xy (Jr Sim.gl6)=true:=by kernel_rfl
theorem fU{W:World}(h:laidMetH Tryz.prog Rows.interSharedRow.laid W):∃(arr:Array Value) (ty:TypeId) (fr:Nat×Nat),W.heap[7]? =some (.cells arr ty fr)∧Sim.gl7= .cells arr.toList (.fixed true):=by
 have h1:=h.filter (fun x=>x.1== "fencepost/code.fieldSucc")
 have e1:(Rows.interSharedRow.laid.filter fun x=>x.1== "fencepost/code.fieldSucc")=[("fencepost/code.fieldSucc", .agg ((H0 Sim.gl7).map fun x=> .lit (.int .i64 x)))]:=by kernel_rfl
 rw[e1,MakeChecks.laidMetH_plain _ _ _ (by kernel_rfl)]at h1
 obtain⟨arr,ty,fr,a,b⟩:=Ka h1 (g:=7) (t:=308) (e:=3) (m:=2) (by kernel_rfl) (by kernel_rfl) Tryz.underlying308 (by kernel_rfl) (by kernel_rfl) (by kernel_rfl) (by kernel_rfl)
 exact⟨arr,ty,fr,a,by rw[b];kernel_rfl⟩
theorem WV:Sim.allB Sim.Xy (Jr Sim.gl7)=true:=by kernel_rfl
theorem fT{W:World}(h:laidMetH Tryz.prog Rows.interSharedRow.laid W):∃(arr:Array Value) (ty:TypeId) (fr:Nat×Nat),W.heap[8]? =some (.cells arr ty fr)∧Sim.gl8= .cells arr.toList (.fixed true):=by
 have h1:=h.filter (fun x=>x.1== "strings.asciiSpace")
 have e1:(Rows.interSharedRow.laid.filter fun x=>x.1== "strings.asciiSpace")=[("strings.asciiSpace", .agg ((H0 Sim.gl8).map fun x=> .lit (.int .u8 x)))]:=by kernel_rfl
 rw[e1,MakeChecks.laidMetH_plain _ _ _ (by kernel_rfl)]at h1
 obtain⟨arr,ty,fr,a,b⟩:=Oa h1 (g:=8) (t:=313) (e:=5) (m:=256) (by kernel_rfl) (by kernel_rfl) (by kernel_rfl) (by kernel_rfl) (by kernel_rfl) (by kernel_rfl)
 exact⟨arr,ty,fr,a,by rw[b];kernel_rfl⟩
theorem WU:Sim.allB Sim.Xy (Jr Sim.gl8)=true:=by kernel_rfl
def mu0:Sim.Mu:=fun b=>if b<9 then some ⟨b,0,none,0⟩else none
theorem up{W0 W:World}(B:Below W0.heap.size W0 W){g:Nat}{X:Sim.Yj}(h:∃(arr:Array Value) (ty:TypeId) (fr:Nat×Nat),W0.heap[g]? =some (.cells arr ty fr)∧X= .cells arr.toList (.fixed true)):
  ∃(arr:Array Value) (ty:TypeId) (fr:Nat×Nat),W.heap[g]? =some (.cells arr ty fr)∧X= .cells arr.toList (.fixed true):=by
 obtain⟨a,t,f,h1,h2⟩:=h
 exact⟨a,t,f,(B.block g (aw.1 h1).1).trans h1,h2⟩
theorem sT{W0 W:World}(h:laidMetH Tryz.prog Rows.interSharedRow.laid W0)(B:Below W0.heap.size W0 W):Sim.Yi mu0 W.heap.size (Sim.zs0).A W.heap:=by
 obtain⟨arr0,ty0,fr0,hh0,hg0⟩:=up B (gB h)
 obtain⟨arr1,ty1,fr1,hh1,hg1⟩:=up B (gA h)
 obtain⟨arr2,ty2,fr2,hh2,hg2⟩:=up B (fZ h)
 obtain⟨arr3,ty3,fr3,hh3,hg3⟩:=up B (fY h)
 obtain⟨arr4,ty4,fr4,hh4,hg4⟩:=up B (fX h)
 obtain⟨arr5,ty5,fr5,hh5,hg5⟩:=up B (fW h)
 obtain⟨arr6,ty6,fr6,hh6,hg6⟩:=up B (fV h)
 obtain⟨arr7,ty7,fr7,hh7,hg7⟩:=up B (fU h)
 obtain⟨arr8,ty8,fr8,hh8,hg8⟩:=up B (fT h)
 have hsz:8<W.heap.size:=(aw.1 hh8).1
 have hA:(Sim.zs0).A=⟨Sim.Kk Sim.zh0,12,Sim.Kk Sim.zg0⟩:=rfl
 have hget:∀{b:Nat} {o:Sim.Yj},(Sim.Kk Sim.zh0).get b=some o→(b=0∧o=Sim.gl0)∨(b=1∧o=Sim.gl1)∨(b=2∧o=Sim.gl2)∨(b=3∧o=Sim.gl3)∨(b=4∧o=Sim.gl4)∨(b=5∧o=Sim.gl5)∨(b=6∧o=Sim.gl6)∨(b=7∧o=Sim.gl7)∨(b=8∧o=Sim.gl8):=by
  intro b o ho
  refine Sim.GJ (Q:=fun b o=>(b=0∧o=Sim.gl0)∨(b=1∧o=Sim.gl1)∨(b=2∧o=Sim.gl2)∨(b=3∧o=Sim.gl3)∨(b=4∧o=Sim.gl4)∨(b=5∧o=Sim.gl5)∨(b=6∧o=Sim.gl6)∨(b=7∧o=Sim.gl7)∨(b=8∧o=Sim.gl8)) (fun p hp=>?_) ho
  have hp:p∈[(0,Sim.gl0),(1,Sim.gl1),(2,Sim.gl2),(3,Sim.gl3),(4,Sim.gl4),(5,Sim.gl5),(6,Sim.gl6),(7,Sim.gl7),(8,Sim.gl8)]:=hp
  simp only[av,List.mem_nil_iff,or_false]at hp
  rcases hp with rfl|rfl|rfl|rfl|rfl|rfl|rfl|rfl|rfl
  ·exact .inl ⟨rfl,rfl⟩
  ·exact .inr (.inl ⟨rfl,rfl⟩)
  ·exact .inr (.inr (.inl ⟨rfl,rfl⟩))
  ·exact .inr (.inr (.inr (.inl ⟨rfl,rfl⟩)))
  ·exact .inr (.inr (.inr (.inr (.inl ⟨rfl,rfl⟩))))
  ·exact .inr (.inr (.inr (.inr (.inr (.inl ⟨rfl,rfl⟩)))))
  ·exact .inr (.inr (.inr (.inr (.inr (.inr (.inl ⟨rfl,rfl⟩))))))
  ·exact .inr (.inr (.inr (.inr (.inr (.inr (.inr (.inl ⟨rfl,rfl⟩)))))))
  ·exact .inr (.inr (.inr (.inr (.inr (.inr (.inr (.inr (⟨rfl,rfl⟩))))))))
 have hmu:∀{b:Nat} {e:Sim.Ent},mu0 b=some e→b<9∧e=⟨b,0,none,0⟩:=by
  intro b e he
  unfold mu0 at he
  split at he
  ·rename_i hb
   injection he with he
   exact⟨hb,he.symm⟩
  ·cases he
 rw[hA]
 refine⟨ak _,?_,?_,?_,?_,?_⟩
 ·intro b o e ho he
  obtain⟨_,rfl⟩:=hmu he
  have hcell:∀{arr:Array Value} {ty:TypeId} {fr:Nat×Nat},W.heap[b]? =some (.cells arr ty fr)→Sim.allB Sim.Xy arr.toList=true→Sim.ORel mu0 W.heap.size W.heap ⟨b,0,none,0⟩ (.cells arr.toList (.fixed true)):=by
   intro arr ty fr hh hc
   refine⟨rfl,arr,ty,fr,hh,⟨rfl,?_⟩,fun hc=>by cases hc⟩
   intro i x y hx hy
   rw[hx]at hy;injection hy with hy;subst hy
   exact Sim.Vg (Sim.Uv hc x (bb hx)) _
  rcases hget ho with⟨rfl,rfl⟩|⟨rfl,rfl⟩|⟨rfl,rfl⟩|⟨rfl,rfl⟩|⟨rfl,rfl⟩|⟨rfl,rfl⟩|⟨rfl,rfl⟩|⟨rfl,rfl⟩|⟨rfl,rfl⟩
  ·have hc:=W3
   rw[hg0]at hc⊢
   exact hcell hh0 hc
  ·have hc:=W2
   rw[hg1]at hc⊢
   exact hcell hh1 hc
  ·have hc:=W1
   rw[hg2]at hc⊢
   exact hcell hh2 hc
  ·have hc:=WZ
   rw[hg3]at hc⊢
   exact hcell hh3 hc
  ·have hc:=WY
   rw[hg4]at hc⊢
   exact hcell hh4 hc
  ·have hc:=WX
   rw[hg5]at hc⊢
   exact hcell hh5 hc
  ·have hc:=WW
   rw[hg6]at hc⊢
   exact hcell hh6 hc
  ·have hc:=WV
   rw[hg7]at hc⊢
   exact hcell hh7 hc
  ·have hc:=WU
   rw[hg8]at hc⊢
   exact hcell hh8 hc
 ·intro b e he
  obtain⟨hb,rfl⟩:=hmu he
  exact⟨Nat.lt_trans hb (by show 9<12;decide),by show b<W.heap.size;omega,fun _=>rfl,fun g hg=>by cases hg⟩
 ·intro b b' e e' he he' hbb
  obtain⟨_,rfl⟩:=hmu he
  obtain⟨_,rfl⟩:=hmu he'
  exact .inl hbb
 ·intro b xs g ho
  rcases hget ho with⟨_,h2⟩|⟨_,h2⟩|⟨_,h2⟩|⟨_,h2⟩|⟨_,h2⟩|⟨_,h2⟩|⟨_,h2⟩|⟨_,h2⟩|⟨_,h2⟩
  ·rw[hg0]at h2;cases h2
  ·rw[hg1]at h2;cases h2
  ·rw[hg2]at h2;cases h2
  ·rw[hg3]at h2;cases h2
  ·rw[hg4]at h2;cases h2
  ·rw[hg5]at h2;cases h2
  ·rw[hg6]at h2;cases h2
  ·rw[hg7]at h2;cases h2
  ·rw[hg8]at h2;cases h2
 ·intro b o ho
  rcases hget ho with⟨rfl,_⟩|⟨rfl,_⟩|⟨rfl,_⟩|⟨rfl,_⟩|⟨rfl,_⟩|⟨rfl,_⟩|⟨rfl,_⟩|⟨rfl,_⟩|⟨rfl,_⟩
  ·show 0<12;decide
  ·show 1<12;decide
  ·show 2<12;decide
  ·show 3<12;decide
  ·show 4<12;decide
  ·show 5<12;decide
  ·show 6<12;decide
  ·show 7<12;decide
  ·show 8<12;decide
theorem Al{W0 W:World}(h:laidMetH Tryz.prog Rows.interSharedRow.laid W0)(B:Below W0.heap.size W0 W):Calls Tryz.prog 4 #[] W fun e W'=>e= .returned (.bool true)∧Below W.heap.size W W':=by
 have c:=Sim.Pf Sim.cert (sT h B) (fun g hg=>by
  have hg:g<9:=hg
  unfold mu0
  rw[if_pos hg]) (f:=4) (v:=Sim.vt) (args:=[]) (args':=#[]) (.nil) (fr:=(Sim.zs0).fr) (by kernel_rfl) (Sim.fin)
 refine c.mono fun e W' ⟨μ,v,he,hv,hb⟩=>⟨?_,hb⟩
 subst he
 have hv:Sim.XI μ (.bool true) v:=hv
 cases hv
 rfl
end Go.Proofs.YtbkpmfjfpcoehaaGreatDoor
