/- Values, boxes, rows and maps of a call as plain data, and rules for code over them. No condition. -/
import Derived.Test.YtjhfcfpkgfpoiaaGreatDoorDd
namespace Go.Proofs.YtjhfcfpkgfpoiaaGreatDoor.Dw
open Go Go.RowKit
set_option maxRecDepth 100000
section
section
variable {P:Program}
theorem KZ{f:FuncId}{vs:List EV}{z:Bool}{t:TypeId}{esz:Nat}{els:List (List Cv)}(h:Xq P f vs (.row z t esz els)):Xq P f vs (.val (.one (.c (.sl z esz els)))):=by
 intro M w us hM hu;refine(h M w us hM hu).mono ?_;rintro e w' ⟨u,rfl,hb,hr⟩;refine⟨u,rfl,hb,?_⟩;obtain⟨⟨cells,o1,o3⟩,o2⟩:=hr
 show X9 w' _ noB _ u
 refine .one ?_
 show XN w' _ _ u
 rcases o1.2 with⟨rfl,h0⟩|⟨g,cap,cur,rfl,hge,hg,hn, -⟩
 ·have:els=[]:=List.eq_nil_of_length_eq_zero h0;subst this;have:z=true:=o2.2 rfl;subst this;exact .nil
 ·have hzf:z=false:=by
   cases hz:z with
   |false=>rfl
   |true=>have:=o2.1 hz;cases this
  subst hzf;have hbl:g<w'.heap.size∧M g:=⟨(Array.getElem?_eq_some_iff.1 hg).1,hM g hge⟩;refine .sl (fun i j=>cells.getD (i*esz+j) undef) rfl hn o3.el (fun i j c hc=>?_) (fun i j c hc=>?_)
  ·obtain⟨x,h1,h2⟩:=o3.rel i j c hc;refine⟨hbl,?_⟩;rw[o1.cells rfl _ _ h1,List.getD_eq_getElem?_getD,h1];rfl
  ·obtain⟨x,h1,h2⟩:=o3.rel i j c hc;rw[List.getD_eq_getElem?_getD,h1];exact h2.mono (fun g hg=>hg.1) fun p _=>rfl
end
end

section
section
variable {P:Program} {base:Nat} {E M:Nat→Prop} {w0 w:World} {β:Vl} {st s:St} {a:Act} {ty:TypeId→Option Ty} {spec:Spec} {n:Nat} {Q:Xh4}
def Yfo(F:List Nat)(d:Option Nat)(s:St):St:=match d with
 |some d=>if d∈F then(match look s.H d with|some (.row z _ esz els)=>Hr d (.sl z esz els) s|_=>s)else s
 |none=>s
theorem Ycj{F:List Nat}{d:Option Nat}{tm:Array Value}(R:Rel base E M w0 β s tm w):∃β',Rel base E M w0 β' (Yfo F d s) tm w:=by
 unfold Yfo;split
 ·split
  ·split
   ·rename_i hb;exact⟨_,(R.freeze hb).1⟩
   ·exact⟨β,R⟩
  ·exact⟨β,R⟩
 ·exact⟨β,R⟩
def Ybq(e:Nat):Cx→Cx
 | .c (.sl true _ [])=> .c (.sl true e [])
 |x=>x
def Yhi(e:Nat):EV→EV
 | .agg xs=> .agg (xs.map (Ybq e))
 | .one x=> .one (Ybq e x)
 |v=>v
theorem Xnu{N:Nat→Prop}{e:Nat}{x:Cx}{u:Value}(h:Yz w N β x u):Yz w N β (Ybq e x) u:=by
 unfold Ybq;split
 ·have h':XN w N (.sl true _ []) u:=h;cases h';exact(XN.nil:XN w N (.sl true e []) _)
 ·exact h
theorem Xjb{e:Nat}{x:Cx}:refs (Ybq e x)=refs x:=by unfold Ybq;split<;>rfl
theorem Ybr{N:Nat→Prop}{e:Nat}{v:EV}{u:Value}(h:X9 w N β v u):X9 w N β (Yhi e v) u∧∀b,X1 (Yhi e v) b→X1 v b:=by
 cases h with
 |one h=>exact⟨.one (Xnu h),fun b hb=>by cases hb with|one hb=>rw[Xjb]at hb;exact .one hb⟩
 | @agg xs us h=>
  refine⟨.agg ⟨by simpa using h.1,fun i x y hx hy=>?_⟩,fun b hb=>?_⟩
  ·rw[List.getElem?_map]at hx;cases hq:xs[i]? with
   |none=>rw[hq]at hx;cases hx
   |some x0=>rw[hq]at hx;injection hx with hx;subst hx;exact Xnu (h.2 i x0 y hq hy)
  ·cases hb with
   |agg hm hr=>
    rw[List.mem_map]at hm;obtain⟨x0,h0,rfl⟩:=hm;rw[Xjb]at hr;exact .agg h0 hr
 |tup hl h=>exact⟨.tup hl h,fun b hb=>hb⟩
 |ep hs hi=>exact⟨.ep hs hi,fun b hb=>hb⟩
 |rp hb=>exact⟨.rp hb,fun b hb=>hb⟩
 |any=>exact⟨.any,fun b hb=>hb⟩
def Yfe(L:List (Nat×Nat))(d:Option Nat)(s:St):St:=match d with
 |some d=>(match look L d with
  |some e=>(match look s.env d with|some v=>{s with env:=put s.env d (Yhi e v)}|none=>s)
  |none=>s)
 |none=>s
theorem Ybs{L:List (Nat×Nat)}{d:Option Nat}{tm:Array Value}(R:Rel base E M w0 β s tm w):Rel base E M w0 β (Yfe L d s) tm w:=by
 unfold Yfe;split
 ·rename_i d;split
  ·rename_i e he;split
   ·rename_i v hv;obtain⟨u,hu,hr⟩:=R.env d v hv;obtain⟨k1,k2⟩:=Ybr (e:=e) hr;refine⟨R.fr,R.le,fun t v' hv'=>?_,R.obj,R.at_,R.inj,R.dom,⟨fun t v' b hv' hb=>?_,R.cl.obj⟩,R.may⟩
    ·simp only[Yb]at hv';split at hv'
     ·rename_i ht;subst ht;injection hv' with hv';subst hv';exact⟨u,hu,k1⟩
     ·exact R.env t v' hv'
    ·simp only[Yb]at hv';split at hv'
     ·injection hv' with hv';subst hv';exact R.cl.env d v b hv (k2 b hb)
     ·exact R.cl.env t v' b hv' hb
   ·exact R
  ·exact R
 ·exact R
def Xyk(F:List Nat)(L:List (Nat×Nat))(d:Option Nat)(s:St):St:=Yfo F d (Yfe L d s)
theorem Xyj{F:List Nat}{L:List (Nat×Nat)}{d:Option Nat}{tm:Array Value}(R:Rel base E M w0 β s tm w):∃β',Rel base E M w0 β' (Xyk F L d s) tm w:=Ycj (Ybs R)
def Xw3(ty:TypeId→Option Ty)(spec:Spec)(F:List Nat)(L:List (Nat×Nat))(ops:List Oper):List Oper→(St→Prop)→St→Prop
 |[],Q,st=>Q st
 |o::r,Q,st=>match Kb st ops o with
  |some true=>Xaf ty spec st o (fun s=>Xw3 ty spec F L ops r Q (Xyk F L o.dst s))
  |some false=>Xw3 ty spec F L ops r Q (setD st o.dst (.tup []))
  |none=>False
theorem Yba(C:Vk P ty)(S:XF P spec){F:List Nat}{L:List (Nat×Nat)}{ops:List Oper}{Q:St→Prop}{Q':Exit→Act→World→Prop}{n:Nat}{df:List Deferred}(hops:GY n ops=true)
  (hQ:∀st' a' w' β',Q st'→a'.defers=df→a'.tmps.size=n→Rel base E M w0 β' st' a'.tmps w'→Q' .normal a' w'):
  ∀(r:List Oper) (k:Nat) (st:St) (a:Act) (w:World) (β:Vl),ops.drop k=r→a.defers=df→a.tmps.size=n→Rel base E M w0 β st a.tmps w→Xw3 ty spec F L ops r Q st→wpOps P ops.toArray Q' (List.range' k r.length) a w:=by
 intro r
 induction r with
 |nil=>
  intro k st a w β hk hdf hn R h;exact hQ st a w β h hdf hn R
 |cons o r ih=>
  intro k st a w β hk hdf hn R h;have hok:ops[k]? =some o:=by
   have:(ops.drop k)[0]? =some o:=by rw[hk];rfl
   simpa using this
  have hk':ops.drop (k+1)=r:=by
   have:(ops.drop k).drop 1=r:=by rw[hk];rfl
   simpa[Nat.add_comm]using this
  have hdst:=Xdn hops (List.mem_of_getElem? hok);rw[List.length_cons,List.range'_succ,wpOps_cons];unfold wpOp;have hok':ops.toArray[k]? =some o:=by simpa using hok
  rw[hok'];simp only;simp only[Xw3]at h;split at h
  ·rename_i hc;have hw:=Gj R hc
   ·rw[if_pos hw];refine .inl (Xl9 C S h R (by rw[hn];exact hdst) fun st' a' w' β' h1 h2 h3 h4=>?_);obtain⟨β2,R2⟩:=Xyj (F:=F) (L:=L) (d:=o.dst) h4;exact ih (k+1) _ a' w' β2 hk' (by rw[h2,hdf]) (by rw[h3,hn]) R2 h1
  ·rename_i hc;have hw:=Gj R hc
   ·rw[if_neg (by rw[hw];simp)];exact ih (k+1) _ _ w β hk' (by rw[put_defers,hdf]) (by rw[VK,hn]) (R.setD (by rw[hn];exact hdst) (.tup (us:=#[]) rfl fun i x u h=>by simp at h) fun b hb=>by cases hb with|tup h1 h2=>simp at h1) h
  ·exact h.elim
theorem Wp.regionF(C:Vk P ty)(S:XF P spec)(F:List Nat)(L:List (Nat×Nat)){id:Nat}{ops:Array Oper}{s:St}(ho:GY n ops.toList=true)(h:Xw3 ty spec F L ops.toList ops.toList (Q .normal) s):Wp P n (.region id ops false) Q s:=by
 intro base E M w0 w β a hd hn R;refine wp_region ?_;have:=Yba (P:=P) C S (F:=F) (L:=L) (Q:=Q .normal) (Q':=Xfx n base E M w0 Q) (df:=[]) ho (fun st' a' w' β' h1 h2 h3 h4=>⟨st',β',h1,h2,h3,h4⟩) ops.toList 0 s a w β rfl hd hn R h;rw[List.range_eq_range'];simpa using this
theorem Wp.rkF(C:Vk P ty)(S:XF P spec)(F:List Nat)(L:List (Nat×Nat)){id:Nat}{ops:Array Oper}{y:Code}(ho:GY n ops.toList=true)(h:∀K:St→Prop,(∀st,Wp P n y Q st→K st)→Xw3 ty spec F L ops.toList ops.toList K s):Wp P n (.seq (.region id ops false) y) Q s:=
 Wp.seq (Wp.regionF C S F L ho (h _ fun _ h=>h))
theorem Wp.rlF(C:Vk P ty)(S:XF P spec)(F:List Nat)(L:List (Nat×Nat)){id:Nat}{ops:Array Oper}(ho:GY n ops.toList=true)(h:∀K:St→Prop,(∀st,Q .normal st→K st)→Xw3 ty spec F L ops.toList ops.toList K s):Wp P n (.region id ops false) Q s:=
 Wp.regionF C S F L ho (h _ fun _ h=>h)
end
end
section
section
variable {P:Program} {base:Nat} {E M:Nat→Prop} {w0 w:World} {β:Vl} {s:St} {tm:Array Value} {n:Nat} {Q:Xh4}
theorem Rel.adoptBox(R:Rel base E M w0 β s tm w){k b i e:Nat}{xs:List Cx}(hk:look s.H k=some (.box xs))(hx:xs[i]? =some (.c (.sl true e [])))(hb:look s.H b=none)(el:TypeId)(esz:Nat):
  ∃β',Rel base E M w0 β' {s with H:=put (put s.H b (.row true el esz [])) k (.box (xs.set i (.own b)))} tm w:=by
 have hβ:β b=none:=by
  cases hq:β b with
  |none=>rfl
  |some y=>exact absurd hb (R.dom b y hq)
 have hkb:k≠b:=fun q=>by subst q;rw[hb]at hk;cases hk
 have R':=R.step (w':=w) (β':=upd β b (.slice none 0 0)) b (.row true el esz []) (.slice none 0 0) R.fr (Nat.le_refl _) (fun g hg=>⟨(by intro q;cases q),rfl⟩) (Yj ..) (fun c hc=>Kp _ _ hc)
  (fun c u' g hc h1 h2=>⟨rfl,(by intro q;cases q)⟩) (fun g hg=>by cases hg) (.inr (Xew.of_none R.cl hb))
  ⟨[],World.ownsRow_nil w 0 el esz,by simp,fun i es h=>by simp at h,fun i j c h=>by simp[cellAt]at h⟩ (fun xs x c h=>by cases h)
 have hk':look (put s.H b (.row true el esz [])) k=some (.box xs):=by rw[Yb,if_neg (Ne.symm hkb)];exact hk
 obtain⟨u,hu,g,arr,t,rfl,hg,hl⟩:=R'.obj k _ hk';refine⟨upd β b (.slice none 0 0),R'.step (w':=w) (β':=upd β b (.slice none 0 0)) k (.box (xs.set i (.own b))) _ R'.fr (Nat.le_refl _) (fun g' hg'=>⟨hg'.2 k _ hu,rfl⟩) hu (fun c hc=>rfl)
  (fun c u' g' hc h1 h2=>⟨rfl,fun q=>hc (R'.inj c k u' _ g' h1 hu h2 q)⟩) (fun g' hg'=>R'.at_ k _ g' hu hg') (.inl hu) ⟨g,arr,t,rfl,hg,by rw[List.length_set];exact hl.1,fun j x y hj hy=>?_⟩ ?_⟩
 ·rw[List.getElem?_set]at hj;split at hj
  ·rename_i hij;subst hij;split at hj
   ·injection hj with hj;subst hj;have hr:=hl.2 i _ y hx hy;have hr':XN w _ (.sl true e []) y:=hr;have hy0:y= .slice none 0 0:=by cases hr';rfl
    subst hy0;exact⟨Yj ..,_,_,_,rfl⟩
   ·cases hj
  ·exact hl.2 j x y hj hy
 ·intro ys y c hy hm hc;injection hy with hy;subst hy;rcases List.mem_or_eq_of_mem_set hm with h|h
  ·exact .inr (R'.cl.obj k xs y c hk' h hc)
  ·subst h;injection hc with hc;subst hc;exact .inr (by simp[Yb])
theorem Wp.adoptBox{c:Code}{k b i e:Nat}{xs:List Cx}(hk:look s.H k=some (.box xs))(hx:xs[i]? =some (.c (.sl true e [])))(hb:look s.H b=none)(el:TypeId)(esz:Nat)
  (h:Wp P n c Q {s with H:=put (put s.H b (.row true el esz [])) k (.box (xs.set i (.own b)))}):Wp P n c Q s:=by
 intro base E M w0 w β a hd hn R;obtain⟨β',R'⟩:=R.adoptBox hk hx hb el esz;exact h hd hn R'
end
end
section
section
variable {P:Program} {n:Nat} {Q:Xh4} {s:St} {spec:Spec} {id:Nat} {opa:Array Oper} {x y:Code} {c:Operand}
theorem Wa(S:XF P spec)(h:∀K:St→Prop,(∀st,Wp P n y Q st→K st)→Xbs (Y6 P) spec opa.toList opa.toList K s)(ho:GY n opa.toList=true:=by rfl):Wp P n (.seq (.region id opa false) y) Q s:=Wp.rk (Xk P) S ho h
theorem Wb(S:XF P spec)(h:∀K:St→Prop,(∀st,Q .normal st→K st)→Xbs (Y6 P) spec opa.toList opa.toList K s)(ho:GY n opa.toList=true:=by rfl):Wp P n (.region id opa false) Q s:=Wp.rl (Xk P) S ho h
theorem Wc(S:XF P spec)(W:List Nat)(h:∀K:St→Prop,(∀st,Wp P n y Q st→K st)→Jz (Y6 P) spec W opa.toList opa.toList 0 [] (fun wr st=>Xhl opa.toList wr=true∧K st) s)(hm:P.follows .mixedOrders=true:=by kernel_rfl)(hd:Xjy n opa.toList=true:=by kernel_rfl):Wp P n (.seq (.region id opa true) y) Q s:=Wp.dk (Xk P) S hm W hd h
theorem Wd(S:XF P spec)(W:List Nat)(h:∀K:St→Prop,(∀st,Q .normal st→K st)→Jz (Y6 P) spec W opa.toList opa.toList 0 [] (fun wr st=>Xhl opa.toList wr=true∧K st) s)(hm:P.follows .mixedOrders=true:=by kernel_rfl)(hd:Xjy n opa.toList=true:=by kernel_rfl):Wp P n (.region id opa true) Q s:=Wp.dl (Xk P) S hm W hd h
theorem Wt(hc:evO s c=some (bv true))(h:Wp P n x Q s):Wp P n (.cond c x y) Q s:=Wp.condT hc h
theorem Wf(hc:evO s c=some (bv false))(h:Wp P n y Q s):Wp P n (.cond c x y) Q s:=Wp.condF hc h
theorem We(h:∀K:St→Prop,(∀st,Wp P n y Q st→K st)→Wp P n x (XV K Q) s):Wp P n (.seq x y) Q s:=Wp.seqk h
end
end
end Go.Proofs.YtjhfcfpkgfpoiaaGreatDoor.Dw
