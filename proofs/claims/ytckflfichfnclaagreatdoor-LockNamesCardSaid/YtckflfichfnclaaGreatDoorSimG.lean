/- A machine that runs closed calls of the program by the kernel: tables; memos; renaming; short words. No condition. -/
import Derived.Test.YtckflfichfnclaaGreatDoorSimF
namespace Go.Proofs.YtckflfichfnclaaGreatDoor.Sim
open Go Go.RowKit
noncomputable section
section
variable {T : Tab} {f : FuncId} {v : Value}
def ckKind (x : Value) : TypeDesc := match x with | .int k _ => .int k | .string _ => .string | _ => .bool
def ckNe (x y : Value) : Bool := match Yc (ckKind x) x y with | some false => true | _ => false
def allNe (x : Value) (l : List Value) : Bool := match l with | [] => true | y :: r => (match ckNe x y with | true => allNe x r | false => false)
def distB (l : List Value) : Bool := match l with | [] => true | x :: r => (match Xw x, allNe x r with | true, true => distB r | _, _ => false)
theorem allNe_ok {x : Value} : ∀ {l : List Value}, allNe x l = true -> ∀ y ∈ l, x ≠ y := by
 intro l
 induction l with
 | nil => intro _ y hy; cases hy
 | cons z l ih =>
  intro h y hy
  unfold allNe at h
  split at h
  case h_2 => cases h
  rename_i hz
  rcases List.mem_cons.1 hy with rfl | hy
  ·unfold ckNe at hz
   split at hz
   case h_2 => cases hz
   rename_i hs
   intro hc
   have := (Ke hs).1.2 hc.symm
   cases this
  ·exact ih h y hy
theorem distB_ok : ∀ {l : List Value}, distB l = true -> (∀ x ∈ l, Xw x = true) /\ l.Pairwise (· ≠ ·) := by
 intro l
 induction l with
 | nil => intro _; exact ⟨fun x hx => (by cases hx), .nil⟩
 | cons x l ih =>
  intro h
  unfold distB at h
  split at h
  case h_2 => cases h
  rename_i h1 h2
  obtain ⟨a, b⟩ := ih h
  refine ⟨fun y hy => ?_, List.pairwise_cons.2 ⟨fun y hy => allNe_ok h2 y hy, b⟩⟩
  rcases List.mem_cons.1 hy with rfl | hy
  ·exact h1
  ·exact a y hy
def keysE (es : List MapEntry) : List Value := match es with | [] => [] | e :: r => e.key :: keysE r
def toU (es : List MapEntry) : List (Value × Option Value) := match es with | [] => [] | e :: r => (e.key, some e.val) :: toU r
def absU (l : List Value) : List (Value × Option Value) := match l with | [] => [] | k :: r => (k, none) :: absU r
theorem keysE_eq (es : List MapEntry) : keysE es = es.map (·.key) := by
 induction es with
 | nil => rfl
 | cons e es ih => show e.key :: keysE es = _; rw [ih]; rfl
theorem toU_eq (es : List MapEntry) : toU es = es.map fun e => (e.key, some e.val) := by
 induction es with
 | nil => rfl
 | cons e es ih => show (e.key, some e.val) :: toU es = _; rw [ih]; rfl
theorem absU_eq (l : List Value) : absU l = l.map fun k => (k, none) := by
 induction l with
 | nil => rfl
 | cons e es ih => show (e, none) :: absU es = _; rw [ih]; rfl
def offDraw (r : Nat) (fr : Xh) : Bool :=
 match fr.todo with
 | .inDraw ops _ _ base :: _ => (match Nat.blt r base with | true => true | false => Nat.ble (Nat.add base (len ops.toList)) r)
 | _ => true
def offDraws (r : Nat) (cs : List Xh) : Bool := match cs with | [] => true | c :: k => (match offDraw r c with | true => offDraws r k | false => false)
theorem offDraw_ok {r : Nat} {fr : Xh} (h : offDraw r fr = true) {ops : Array Oper} {t : Nat} {V : List (Nat × Value)} {base : Nat} {k : List Xt} (ht : fr.todo = .inDraw ops t V base :: k) (j : Nat) (hj : j < ops.toList.length) : base + j ≠ r := by
 unfold offDraw at h
 rw [ht] at h
 simp only at h
 split at h
 ·rename_i hb
  rw [Nat.blt_eq] at hb
  omega
 ·have := Nat.le_of_ble_eq_true h
  have : base + len ops.toList <= r := this
  rw [len_eq] at this
  omega
def uS (r : Nat) (new : List Value) (s : ASt) : ASt :=
 match s.A.heap.get r, offDraw r s.fr, offDraws r s.cs with
 | some (.map es _), true, true => (match distB (app (keysE es) new) with | true => { s with A := YT s.A r (.mapU (app (toU es) (absU new))) } | false => s)
 | _, _, _ => s
theorem uS_ok (r : Nat) (new : List Value) (s : ASt) : Weaker T s (uS r new s) := by
 intro B μ fr' cs' w h
 unfold uS
 split
 case h_2 => exact h
 rename_i es cl h0 k2 k3
 split
 case h_2 => exact h
 rename_i hd
 obtain ⟨hclosed, hne⟩ := distB_ok hd
 rw [Yi, keysE_eq] at hclosed hne
 obtain ⟨R, G, lo, hlo, hf, hst⟩ := h
 have other : ∀ b, b ≠ r -> (YT s.A r (.mapU (app (toU es) (absU new)))).heap.get b = s.A.heap.get b := fun b hb => Tr.get_put_other _ _ _ _ hb
 refine ⟨⟨R.base, ?_, R.dom, R.sep, ?_, ?_⟩, G, lo, hlo, ?_, ?_⟩
 ·intro b o e ho he
  rcases Tr.get_put ho with ⟨rfl, hc⟩ | ⟨_, ho⟩
  ·injection hc with hc; subst hc
   obtain ⟨hg, hB, es', h1, h2⟩ := R.obj b _ e h0 he
   have hk : es'.toList.map (·.key) = es.map (·.key) := by
    apply List.ext_getElem?
    intro i
    rw [List.getElem?_map, List.getElem?_map]
    cases hi : es[i]? with
    | none =>
     have : es'.toList[i]? = none := by
      rw [List.getElem?_eq_none_iff] at hi ⊢
      rw [← h2.1]; exact hi
     rw [this]
    | some x =>
     obtain ⟨y, hy, hr⟩ := h2.get hi
     rw [hy]
     have := X7 (hclosed x.key (List.mem_append_left _ (List.mem_map.2 ⟨x, List.mem_of_getElem? hi, rfl⟩))) hr.1
     simp [this]
   refine ⟨hg, hB, es', cl, h1, ?_, ?_, ?_⟩
   ·intro y hy
    obtain ⟨i, hi⟩ := List.mem_iff_getElem?.1 hy
    have hlt : i < es.length := by
     rw [h2.1]; exact (List.getElem?_eq_some_iff.1 hi).1
    have hx := List.getElem?_eq_getElem hlt
    have hr := h2.2 i _ _ hx hi
    have hkey := X7 (hclosed es[i].key (List.mem_append_left _ (List.mem_map.2 ⟨_, List.mem_of_getElem? hx, rfl⟩))) hr.1
    refine ⟨es[i].val, ?_, hr.2.1⟩
    rw [Yi, toU_eq, hkey]
    exact List.mem_append_left _ (List.mem_map.2 ⟨_, List.mem_of_getElem? hx, rfl⟩)
   ·intro k u hu
    rw [Yi, toU_eq, absU_eq] at hu
    rcases List.mem_append.1 hu with hu | hu
    ·obtain ⟨x, hx, he⟩ := List.mem_map.1 hu
     injection he with he _
     have : k ∈ es'.toList.map (·.key) := by
      rw [hk, ← he]; exact List.mem_map.2 ⟨x, hx, rfl⟩
     exact List.mem_map.1 this
    ·obtain ⟨x, _, he⟩ := List.mem_map.1 hu
     injection he with _ he; cases he
   ·have : (es'.toList.map (·.key)).Pairwise (· ≠ ·) := by
     rw [hk]; exact (List.pairwise_append.1 hne).1
    rwa [List.pairwise_map] at this
  ·exact R.obj b o e ho he
 ·intro b xs g ho
  rcases Tr.get_put ho with ⟨rfl, hc⟩ | ⟨_, ho⟩
  ·injection hc with hc; cases hc
  ·exact R.memb b xs g ho
 ·intro b o ho
  rcases Tr.get_put ho with ⟨rfl, _⟩ | ⟨_, ho⟩
  ·exact R.live b _ h0
  ·exact R.live b o ho
 ·cases hf with
  | plain hp => exact .plain hp
  | draw core run h1 h2 h3 h4 =>
   exact .draw core run h1 h2 h3 (h4.gc fun j hj o ho => by rw [other _ (offDraw_ok k2 h1 j hj)]; exact ho)
 ·clear hf
  have : ∀ {hi : Nat} {cs : List Xh} {cs' : List Frame}, Kf T μ s.A hi cs cs' -> offDraws r cs = true -> Kf T μ (YT s.A r (.mapU (app (toU es) (absU new)))) hi cs cs' := by
   intro hi cs cs' hst
   induction hst with
   | nil hi => intro _; exact .nil _
   | @cons lo hi c c' cs cs' hc hl ht ih =>
    intro k3
    unfold offDraws at k3
    split at k3
    case h_2 => cases k3
    rename_i k2
    refine .cons ?_ hl (ih k3)
    cases hc with
    | plain hp => exact .plain hp
    | wait core run h1 h2 h3 hcc h4 =>
     exact .wait core run h1 h2 h3 hcc (h4.gc fun j hj o ho => by rw [other _ (offDraw_ok k2 h1 j hj)]; exact ho)
  exact this hst k3
def fgtS (ds : List (Nat × Nat)) (s : ASt) : ASt :=
 match s.fr.todo with
 | .inDraw _ _ _ _ :: _ => s
 | _ => { s with fr := { s.fr with vars := forgetD ds s.fr.vars, over := [] } }
theorem fgtS_ok (ds : List (Nat × Nat)) (s : ASt) : Weaker T s (fgtS ds s) := by
 intro B μ fr' cs' w h
 unfold fgtS
 split
 ·exact h
 ·rename_i hno
  obtain ⟨R, G, lo, hlo, hf, hst⟩ := h
  refine ⟨R, G, lo, hlo, ?_, hst⟩
  cases hf with
  | plain hp =>
   refine .plain ⟨⟨hp.core.fn, hp.core.kind, hp.core.round, hp.core.defers, hp.core.mode⟩, ⟨hp.tm.1, fun t u hu => ?_⟩, hp.todo⟩
   exact hp.tm.2 t u (forget_get (ds := ds) hu).2
  | draw core run h1 => exact absurd h1 (hno _ _ _ _ _)
def uSs (us : List (Nat × List Value)) (s : ASt) : ASt := match us with | [] => s | p :: r => uSs r (uS p.1 p.2 s)
theorem uSs_ok : ∀ (us : List (Nat × List Value)) (s : ASt), Weaker T s (uSs us s)
 | [], _ => fun h => h
 | p :: r, s => fun h => uSs_ok r (uS p.1 p.2 s) (uS_ok p.1 p.2 s h)
def Xq (keep fs : List Nat) (nx : Nat) (us : List (Nat × List Value)) (ds : List (Nat × Nat)) (s : ASt) : ASt := gcS keep fs nx (uSs us (fgtS ds s))
theorem canS_ok (keep fs : List Nat) (nx : Nat) (us : List (Nat × List Value)) (ds : List (Nat × Nat)) (s : ASt) : Weaker T s (Xq keep fs nx us ds s) := fun h => gcS_ok (uSs_ok us _ (fgtS_ok ds s h))
structure Clo (T : Tab) (K : ASt -> Prop) : Prop where
 branch : ∀ {s : ASt} {l : List ASt}, Kl T s = .branch l -> (∀ s' ∈ l, K s') -> K s
 weak : ∀ {s s' : ASt}, Weaker T s s' -> K s' -> K s
 bare : ∀ {s : ASt} (ns : List Nat), K (Xc T ns s) -> K s
theorem Clo.fin : Clo T (Fin T f v) := ⟨fun h k => .branch h k, fun h k => .weak h k, fun ns k => .bare ns k⟩
variable {K : ASt -> Prop}
theorem Clo.runw (C : Clo T K) {s s' : ASt} (ns keep fs : List Nat) (nx : Nat) (us : List (Nat × List Value)) (ds : List (Nat × Nat)) (h : Xq keep fs nx us ds (Xc T ns s) = s') (k : K s') : K s := by
 subst h
 exact C.bare ns (C.weak (canS_ok keep fs nx us ds _) k)
theorem Fin.runw {s s' : ASt} (ns keep fs : List Nat) (nx : Nat) (us : List (Nat × List Value)) (ds : List (Nat × Nat)) (h : Xq keep fs nx us ds (Xc T ns s) = s') (k : Fin T f v s') : Fin T f v s := Clo.fin.runw ns keep fs nx us ds h k
def stepN (s : ASt) (r m since : Nat) (S : List Nat) (cl : Nat) (o : Option MapEntry) : ASt :=
 match s.fr.finish (nextOf s.A r m since S cl o).1 with
 | some fr => { s with fr := fr, A := (nextOf s.A r m since S cl o).2 }
 | none => s
theorem Clo.ranged (C : Clo T K) {s R : ASt} {ops : Array Oper} {o : Oper} {rest : List Oper} {k : List Xt} {it : Operand} {r m since L cl : Nat} {S : List Nat} {es : List MapEntry}
  (h : Kl T s = X0 T ops k (o :: rest) R) (hg : o.guard = none) (ho : o.op = .next it false) (ht : R.fr.todo = .inRegion ops (o :: rest) :: k)
  (hev : Xn T.nglob R.fr.vars R.fr.over it = some (.pointer (some ⟨r, 0, none⟩))) (hr : R.A.heap.get r = some (.miter (some m) since S L)) (hm : R.A.heap.get m = some (.map es cl))
  (hc : (!S.isEmpty && !es.isEmpty && es.all (fun e => decide (e.born ≥ L))) = false) (hdst : (match o.dst with | none => true | some t => Nat.blt t R.fr.nt) = true)
  (hk : ∀ x ∈ Yh es since S, K (stepN R r m since S cl x)) : K s := by
 have same : ({ R with fr := { R.fr with todo := .inRegion ops (o :: rest) :: k } } : ASt) = R := by
  obtain ⟨⟨fn, nt, vars, over, todo, defers, mode, kind, ro⟩, cs, A⟩ := R
  have : todo = .inRegion ops (o :: rest) :: k := ht
  subst this; rfl
 have hfin : ∀ u : Value, ∃ fr, R.fr.finish u = some fr := by
  intro u
  unfold Xh.finish
  rw [ht]
  simp only
  unfold Xh.put
  cases hd : o.dst with
  | none => exact ⟨_, rfl⟩
  | some t =>
   rw [hd] at hdst
   simp only at hdst ⊢
   rw [hdst]
   exact ⟨_, rfl⟩
 have hop : aop T R.A (Xn T.nglob R.fr.vars R.fr.over) o.op = some (.branch ((Yh es since S).map (nextOf R.A r m since S cl))) := by
  rw [ho]
  show aoNextMap R.A (Xn T.nglob R.fr.vars R.fr.over) it = _
  unfold aoNextMap
  rw [hev]
  simp only [opNextMap, hr, hm, hc]
 have hbr : ∀ l : List (Option MapEntry), aBranch R (l.map (nextOf R.A r m since S cl)) = some (l.map (stepN R r m since S cl)) := by
  intro l
  induction l with
  | nil => rfl
  | cons x l ih =>
   obtain ⟨fr, hfr⟩ := hfin (nextOf R.A r m since S cl x).1
   simp only [List.map_cons, aBranch, hfr, ih]
   unfold stepN
   rw [hfr]
 have hf : X0 T ops k (o :: rest) R = .branch ((Yh es since S).map (stepN R r m since S cl)) := by
  unfold X0
  simp only
  have hw : Kd R.fr ops.toList o = some true := by unfold Kd; rw [hg]
  rw [hw]
  simp only
  rw [hop]
  simp only
  rw [same]
  show apBranch R _ = _
  unfold apBranch
  rw [hbr]
 refine C.branch (h.trans hf) fun s' hs' => ?_
 obtain ⟨x, hx, rfl⟩ := List.mem_map.1 hs'
 exact hk x hx
def gd (o : Option Value) : Value := Option.rec (motive := fun _ => Value) undef (fun v => v) o
def upd (σ : Nat -> Option Value) (i : Nat) (o : Option Value) : Nat -> Option Value := fun j => Bool.rec (motive := fun _ => Option Value) (σ j) o (Nat.beq j i)
theorem upd_eq (σ : Nat -> Option Value) (i : Nat) (o : Option Value) (j : Nat) : upd σ i o j = if j = i then o else σ j := by
 unfold upd
 by_cases h : j = i
 ·subst h; rw [Nat.beq_refl, if_pos rfl]
 ·have : Nat.beq j i = false := by
   cases hb : Nat.beq j i with
   | false => rfl
   | true => exact absurd (Nat.eq_of_beq_eq_true hb) h
  rw [this, if_neg h]
def endV (vals : List Value) (σ : Nat -> Option Value) : Nat -> Option Value := fun j => match nth vals j with | some v => some v | none => σ j
def Xl (T : Tab) (r m since cl : Nat) (Q : List Nat -> Nat -> (Nat -> Option Value) -> ASt) (H : List Nat -> (Nat -> Option Value) -> ASt) : Nat -> List MapEntry -> List Value -> Prop
 | _, [], [] => True
 | i, e :: es, v :: vals => (∃ ns keep fs nx us ds, ∀ S L σ, Xq keep fs nx us ds (Xc T ns (stepN (Q S L σ) r m since S cl (some e))) = H (e.born :: S) (upd σ i (some v))) /\ Xl T r m since cl Q H (i + 1) es vals
 | _, _, _ => False
theorem Xl.get {r m since cl : Nat} {Q : List Nat -> Nat -> (Nat -> Option Value) -> ASt} {H : List Nat -> (Nat -> Option Value) -> ASt} : ∀ {es : List MapEntry} {vals : List Value} {i : Nat}, Xl T r m since cl Q H i es vals ->
  es.length = vals.length /\ ∀ j e, es[j]? = some e -> ∃ v, vals[j]? = some v /\ ∃ ns keep fs nx us ds, ∀ S L σ, Xq keep fs nx us ds (Xc T ns (stepN (Q S L σ) r m since S cl (some e))) = H (e.born :: S) (upd σ (i + j) (some v)) := by
 intro es
 induction es with
 | nil =>
  intro vals i h
  cases vals with
  | nil => exact ⟨rfl, fun j e he => by simp at he⟩
  | cons v vals => exact h.elim
 | cons e es ih =>
  intro vals i h
  cases vals with
  | nil => exact h.elim
  | cons v vals =>
   obtain ⟨h1, h2⟩ := h
   obtain ⟨h3, h4⟩ := ih h2
   refine ⟨by simp [h3], fun j x hx => ?_⟩
   cases j with
   | zero =>
    have hx : e = x := by simpa using hx
    subst hx
    exact ⟨v, by simp, by simpa using h1⟩
   | succ j =>
    obtain ⟨u, hu, hq⟩ := h4 j x (by simpa using hx)
    refine ⟨u, by simpa using hu, ?_⟩
    have e1 : i + 1 + j = i + (j + 1) := by omega
    rw [e1] at hq
    exact hq
def X3 (T : Tab) (r m since cl : Nat) (Q : Nat -> List Nat -> Nat -> (Nat -> Option Value) -> ASt) (H : Nat -> List Nat -> (Nat -> Option Value) -> ASt) (es : List MapEntry) (vals : List Value) : Nat -> Nat -> Prop
 | 0, _ => True
 | n + 1, j => Xl T r m since cl (Q j) (H (j + 1)) 0 es vals /\ X3 T r m since cl Q H es vals n (j + 1)
theorem X3.get {r m since cl : Nat} {Q : Nat -> List Nat -> Nat -> (Nat -> Option Value) -> ASt} {H : Nat -> List Nat -> (Nat -> Option Value) -> ASt} {es : List MapEntry} {vals : List Value} : ∀ {n j : Nat}, X3 T r m since cl Q H es vals n j ->
  ∀ i, i < n -> Xl T r m since cl (Q (j + i)) (H (j + i + 1)) 0 es vals := by
 intro n
 induction n with
 | zero => intro j _ i hi; omega
 | succ n ih =>
  intro j h i hi
  obtain ⟨h1, h2⟩ := h
  cases i with
  | zero => exact h1
  | succ i =>
   have := ih h2 i (by omega)
   have e1 : j + 1 + i = j + (i + 1) := by omega
   rw [e1] at this
   exact this
theorem X3.all {r m since cl : Nat} {Q : Nat -> List Nat -> Nat -> (Nat -> Option Value) -> ASt} {H : Nat -> List Nat -> (Nat -> Option Value) -> ASt} {es : List MapEntry} {vals : List Value}
  (h : ∀ j, Xl T r m since cl (Q j) (H (j + 1)) 0 es vals) : ∀ n j, X3 T r m since cl Q H es vals n j
 | 0, _ => True.intro
 | n + 1, j => ⟨h j, X3.all h n (j + 1)⟩
theorem filter_one : ∀ {l : List MapEntry}, (l.Pairwise fun a b => a.born ≠ b.born) -> ∀ {e : MapEntry}, e ∈ l -> (l.filter fun x => decide (x.born ≠ e.born)).length = l.length - 1 := by
 intro l
 induction l with
 | nil => intro _ e he; cases he
 | cons a l ih =>
  intro hp e he
  obtain ⟨h1, h2⟩ := List.pairwise_cons.1 hp
  by_cases hb : a.born = e.born
  ·have hl : l.filter (fun x => decide (x.born ≠ e.born)) = l := by
    rw [List.filter_eq_self]
    intro x hx
    have := h1 x hx
    rw [hb] at this
    simpa using fun hc => this hc.symm
   rw [List.filter_cons_of_neg (by simp [hb]), hl]
   rfl
  ·have he' : e ∈ l := by
    rcases List.mem_cons.1 he with rfl | he
    ·exact absurd rfl hb
    ·exact he
   have hpos := List.length_pos_of_mem he'
   rw [List.filter_cons_of_pos (by simp [hb]), List.length_cons, ih h2 he', List.length_cons]
   omega
theorem Clo.loop (C : Clo T K) {ops : Array Oper} {o : Oper} {rest : List Oper} {k : List Xt} {it : Operand} {r m since L0 cl : Nat} {es : List MapEntry} {vals : List Value} {s0 : ASt} {σ0 : Nat -> Option Value}
  {Q : Nat -> List Nat -> Nat -> (Nat -> Option Value) -> ASt} {H : Nat -> List Nat -> (Nat -> Option Value) -> ASt} {X : (Nat -> Option Value) -> ASt} {nsx keepx fsx : List Nat} {nxx : Nat} {usx : List (Nat × List Value)} {dsx : List (Nat × Nat)}
  (h0 : Kl T s0 = X0 T ops k (o :: rest) (Q 0 [] L0 σ0)) (hH : ∀ j S σ, Kl T (H j S σ) = X0 T ops k (o :: rest) (Q j S cl σ)) (hg : o.guard = none) (ho : o.op = .next it false)
  (ht : ∀ j S L σ, (Q j S L σ).fr.todo = .inRegion ops (o :: rest) :: k) (hev : ∀ j S L σ, Xn T.nglob (Q j S L σ).fr.vars (Q j S L σ).fr.over it = some (.pointer (some ⟨r, 0, none⟩)))
  (hr : ∀ j S L σ, (Q j S L σ).A.heap.get r = some (.miter (some m) since S L)) (hm : ∀ j S L σ, (Q j S L σ).A.heap.get m = some (.map es cl))
  (hdst : ∀ j S L σ, (match o.dst with | none => true | some t => Nat.blt t (Q j S L σ).fr.nt) = true)
  (hold : es.all (fun e => decide (e.born < since)) = true) (hcl : es.all (fun e => decide (e.born ≥ cl)) = false) (hnd : (es.map (·.born)).Nodup)
  (hstep : X3 T r m since cl Q H es vals es.length 0) (hexit : ∀ S L σ, Xq keepx fsx nxx usx dsx (Xc T nsx (stepN (Q es.length S L σ) r m since S cl none)) = X σ)
  (hend : K (X (endV vals σ0))) : K s0 := by
 have hne : 0 < es.length := by
  cases es with
  | nil => simp at hcl
  | cons => simp
 obtain ⟨hlen, _⟩ := (hstep.get 0 hne).get
 have bornOf : ∀ (i j : Nat) (a b : MapEntry), es[i]? = some a -> es[j]? = some b -> a.born = b.born -> i = j := by
  intro i j a b ha hb hab
  obtain ⟨hi, rfl⟩ := List.getElem?_eq_some_iff.1 ha
  obtain ⟨hj, rfl⟩ := List.getElem?_eq_some_iff.1 hb
  have hp : es.Pairwise fun x y => x.born ≠ y.born := List.pairwise_map.1 hnd
  have hpw := List.pairwise_iff_getElem.1 hp
  rcases Nat.lt_trichotomy i j with hlt | heq | hgt
  ·exact absurd hab (hpw i j hi hj hlt)
  ·exact heq
  ·exact absurd hab.symm (hpw j i hj hi hgt)
 have main : ∀ (n : Nat) (S : List Nat) (L : Nat) (σ : Nat -> Option Value) (s : ASt), (es.filter fun e => !S.contains e.born).length = n -> n <= es.length -> (S = [] \/ L = cl) ->
   (∀ i, σ i = (match es[i]? with | some e => if e.born ∈ S then vals[i]? else σ0 i | none => σ0 i)) -> Kl T s = X0 T ops k (o :: rest) (Q (es.length - n) S L σ) -> K s := by
  intro n
  induction n using Nat.strongRecOn with
  | ind n ih =>
   intro S L σ s hn hle hSL hσ hs
   have hc : (!S.isEmpty && !es.isEmpty && es.all (fun e => decide (e.born ≥ L))) = false := by
    rcases hSL with rfl | rfl
    ·rfl
    ·rw [hcl]; simp
   refine C.ranged hs hg ho (ht _ S L σ) (hev _ S L σ) (hr _ S L σ) (hm _ S L σ) hc (hdst _ S L σ) fun x hx => ?_
   have hnew : (es.filter fun e => !S.contains e.born).filter (fun e => decide (e.born ≥ since)) = [] := by
    rw [List.filter_eq_nil_iff]
    intro e he
    have := List.all_eq_true.1 hold e (List.mem_filter.1 he).1
    simp at this ⊢; omega
   have hold' : (es.filter fun e => !S.contains e.born).filter (fun e => decide (e.born < since)) = es.filter fun e => !S.contains e.born := by
    rw [List.filter_eq_self]
    intro e he
    exact List.all_eq_true.1 hold e (List.mem_filter.1 he).1
   unfold Yh at hx
   simp only [hnew, hold', List.append_nil] at hx
   cases x with
   | none =>
    have hall : es.filter (fun e => !S.contains e.born) = [] := by
     rcases List.mem_append.1 hx with hx | hx
     ·cases hl : es.filter (fun e => !S.contains e.born) with
      | nil => rfl
      | cons a l => rw [hl] at hx; cases hx
     ·obtain ⟨y, _, hy⟩ := List.mem_map.1 hx
      cases hy
    have hσe : σ = endV vals σ0 := by
     funext j
     rw [hσ j]
     unfold endV
     rw [XT]
     cases hj : es[j]? with
     | none =>
      have : vals[j]? = none := by
       rw [List.getElem?_eq_none_iff] at hj ⊢
       omega
      rw [this]
     | some e =>
      have hin : e.born ∈ S := by
       have := List.filter_eq_nil_iff.1 hall e (List.mem_of_getElem? hj)
       simpa using this
      have hlt := (List.getElem?_eq_some_iff.1 hj).1
      simp only [hin, if_true]
      rw [List.getElem?_eq_getElem (by omega)]
    have hn0 : n = 0 := by rw [← hn, hall]; rfl
    subst hn0
    rw [Nat.sub_zero]
    have := hexit S L σ
    rw [hσe] at this
    rw [hσe]
    exact C.runw nsx keepx fsx nxx usx dsx this hend
   | some e =>
    have he : e ∈ es.filter fun e => !S.contains e.born := by
     rcases List.mem_append.1 hx with hx | hx
     ·cases hl : es.filter (fun e => !S.contains e.born) with
      | nil => rw [hl] at hx; simp at hx
      | cons a l => rw [hl] at hx; cases hx
     ·obtain ⟨y, hy, hye⟩ := List.mem_map.1 hx
      injection hye with hye; subst hye; exact hy
    have hes := (List.mem_filter.1 he).1
    have hnS : e.born ∉ S := by
     have := (List.mem_filter.1 he).2
     simpa using this
    obtain ⟨i, hi⟩ := List.mem_iff_getElem?.1 hes
    have hpos : 0 < n := by
     rw [← hn]; exact List.length_pos_of_mem he
    obtain ⟨_, hsteps⟩ := (hstep.get (es.length - n) (by omega)).get
    rw [Nat.zero_add] at hsteps
    obtain ⟨u, hu, ns, keep, fs, nx, us, ds, hq⟩ := hsteps i e hi
    rw [Nat.zero_add] at hq
    have hless : (es.filter fun x => !(e.born :: S).contains x.born).length = n - 1 := by
     have hsub : (es.filter fun x => !(e.born :: S).contains x.born) = (es.filter fun x => !S.contains x.born).filter fun x => decide (x.born ≠ e.born) := by
      rw [List.filter_filter]
      apply List.filter_congr
      intro x _
      simp [List.contains_eq_mem]
     rw [hsub, filter_one ((List.pairwise_map.1 hnd).filter _) he, hn]
    refine C.runw ns keep fs nx us ds (hq S L σ) ?_
    have e1 : es.length - n + 1 = es.length - (n - 1) := by omega
    rw [e1]
    refine ih (n - 1) (by omega) (e.born :: S) cl (upd σ i (some u)) _ hless (by omega) (.inr rfl) ?_ (hH _ _ _)
    ·intro j
     rw [upd_eq]
     by_cases hji : j = i
     ·subst hji
      rw [if_pos rfl, hi]
      simp [hu]
     ·rw [if_neg hji, hσ j]
      cases hj : es[j]? with
      | none => rfl
      | some x =>
       have : x.born ≠ e.born := fun hb => hji (bornOf j i x e hj hi hb)
       simp [this]
 have hall : es.filter (fun e => !([] : List Nat).contains e.born) = es := by
  rw [List.filter_eq_self]
  intro e _; rfl
 refine main es.length [] L0 σ0 s0 (by rw [hall]) (Nat.le_refl _) (.inl rfl) (fun i => by cases es[i]? <;> simp) ?_
 rw [Nat.sub_self]; exact h0
end
section
def Xa {α : Type} (l : List (Nat × α)) : Tr α :=
 match l with
 | [] => .e
 | p :: r => (Xa r).put (some p.2) p.1
theorem tput_get {α : Type} {Q : Nat -> α -> Prop} : ∀ {l : List (Nat × α)}, (∀ p ∈ l, Q p.1 p.2) -> ∀ {k : Nat} {a : α}, (Xa l).get k = some a -> Q k a := by
 intro l
 induction l with
 | nil => intro _ k a h; cases h
 | cons p l ih =>
  intro hq k a h
  unfold Xa at h
  rcases Tr.get_put h with ⟨rfl, e⟩ | ⟨_, h⟩
  ·injection e with e; subst e; exact hq p (by simp)
  ·exact ih (fun q hm => hq q (by simp [hm])) h
def mkTI (P : Program) (t : TypeId) : TI :=
 match P.underlying t, P.info? t with
 | some d, some i => ⟨d, i.size, i.bytes, (match i.zero with | some z => z | none => undef), i.comparable⟩
 | _, _ => ⟨.pointer 0, 0, 0, undef, false⟩
def chkTI (P : Program) (t : TypeId) : Bool :=
 match P.underlying t, P.info? t with
 | some _, some i => (match i.zero with | some z => (match X5 z with | true => Nat.beq z.cells.size i.size | false => false) | none => false)
 | _, _ => false
theorem chkTI_ok {P : Program} {t : TypeId} (h : chkTI P t = true) :
  P.underlying t = some (mkTI P t).desc /\ ∃ info, P.info? t = some info /\ info.size = (mkTI P t).size /\ info.bytes = (mkTI P t).bytes /\ info.zero = some (mkTI P t).zero /\ info.comparable = (mkTI P t).cmp /\ X5 (mkTI P t).zero = true /\ (mkTI P t).zero.cells.size = (mkTI P t).size := by
 unfold chkTI at h
 split at h
 ·rename_i d i hu hi
  split at h
  case h_2 => cases h
  rename_i z hz
  split at h
  case h_2 => cases h
  rename_i hc
  have hn := Nat.eq_of_beq_eq_true h
  have he : mkTI P t = ⟨d, i.size, i.bytes, z, i.comparable⟩ := by unfold mkTI; rw [hu, hi]; simp only [hz]
  rw [he]
  exact ⟨hu, i, hi, rfl, rfl, hz, rfl, hc, hn⟩
 ·cases h
def mkF (P : Program) (f : FuncId) (nv : Nat) : AFn :=
 match P.funcs[f]? with
 | some fn => ⟨(match fn.body with | some b => b | none => .skip), fn.ntmps, nv, fn.results.toList⟩
 | none => ⟨.skip, 0, 0, []⟩
def chkF (P : Program) (f : FuncId) : Bool :=
 match P.funcs[f]? with
 | some fn => (match fn.body with | some _ => (match fn.name == "runtime.NumGoroutine" with | true => false | false => true) | none => false)
 | none => false
theorem chkF_ok {P : Program} {f : FuncId} {nv : Nat} (h : chkF P f = true) :
  ∃ fn, P.funcs[f]? = some fn /\ fn.body = some (mkF P f nv).body /\ fn.ntmps = (mkF P f nv).ntmps /\ fn.results.toList = (mkF P f nv).results /\ (fn.name == "runtime.NumGoroutine") = false := by
 unfold chkF at h
 split at h
 ·rename_i fn hf
  split at h
  case h_2 => cases h
  rename_i b hb
  split at h
  ·cases h
  rename_i hn
  have he : mkF P f nv = ⟨b, fn.ntmps, nv, fn.results.toList⟩ := by unfold mkF; rw [hf]; simp only [hb]
  rw [he]
  exact ⟨fn, hf, hb, rfl, rfl, hn⟩
 ·cases h
def mkEq (P : Program) (t : TypeId) : List (TypeId × Nat) :=
 match P.underlying t with
 | some (.struct fs) => (fs.toList.filter fun f => decide (f.name ≠ "_")).map fun f => (f.type, f.offset)
 | _ => []
def chkEq (P : Program) (t : TypeId) : Bool :=
 match P.eqGuardType P.depth t with
 | true => false
 | false => (match P.underlying t with | some (.struct _) => (match P.stoodInHeld t with | true => false | false => true) | _ => true)
theorem chkEq_ok {P : Program} {t : TypeId} (h : chkEq P t = true) : P.eqGuardType P.depth t = false /\
  (∀ fs, P.underlying t = some (.struct fs) -> P.stoodInHeld t = false /\ (fs.toList.filter fun f => decide (f.name ≠ "_")).map (fun f => (f.type, f.offset)) = mkEq P t) := by
 unfold chkEq at h
 split at h
 ·cases h
 rename_i hg
 refine ⟨hg, fun fs hfs => ?_⟩
 rw [hfs] at h
 simp only at h
 refine ⟨?_, by unfold mkEq; rw [hfs]⟩
 cases hs : P.stoodInHeld t with
 | false => rfl
 | true => rw [hs] at h; cases h
def chkM1 (P : Program) (t : TypeId) (name : String) (f : FuncId) : Bool :=
 match P.info? t, P.underlying t with
 | some i, some d =>
  (match i.methods.find? (·.name == name) with
   | some m =>
    (match m.path.toList, m.func with
     | [], some (g, ptr) => (match Nat.beq g f with | true => (match d with | .pointer _ => ptr | _ => !ptr) | false => false)
     | _, _ => false)
   | none => false)
 | _, _ => false
theorem chkM1_ok {P : Program} {t : TypeId} {name : String} {f : FuncId} (h : chkM1 P t name f = true) (n : Nat) (v : Value) (w : World) : (method (n + 1) t v name).run P w = .ok (f, v) w := by
 unfold chkM1 at h
 split at h
 case h_2 => cases h
 rename_i i d hi hu
 split at h
 case h_2 => cases h
 rename_i m hm
 split at h
 case h_2 => cases h
 rename_i g ptr hp hf
 split at h
 case h_2 => cases h
 rename_i hg
 have hg := Nat.eq_of_beq_eq_true hg
 subst hg
 have hul : (underlying t).run P w = .ok d w := by simp [Go.underlying, hu]
 have hti : (typeInfo t).run P w = .ok i w := by simp [Go.typeInfo, hi]
 have hrec : ∀ wr, (receiverAt t (.val v) ptr wr).run P w = .ok v w := by
  intro wr
  simp only [receiverAt, Sem.run_bind, hul, Result.andThen_ok]
  cases d with
  | pointer e =>
   have : ptr = true := h
   subst this
   rfl
  | _ =>
   have : (!ptr) = true := h
   cases ptr with
   | true => cases this
   | false => rfl
 simp only [method, Sem.run_bind, hti, Result.andThen_ok, hm, hp, follow, Sem.run_pure, hf, hrec]
def chkMs (P : Program) (t : TypeId) (l : List (String × FuncId)) : Bool :=
 match l with
 | [] => true
 | p :: r => (match chkM1 P t p.1 p.2 with | true => chkMs P t r | false => false)
theorem chkMs_ok {P : Program} {t : TypeId} : ∀ {l : List (String × FuncId)}, chkMs P t l = true -> ∀ name f, methOf l name = some f -> chkM1 P t name f = true := by
 intro l
 induction l with
 | nil => intro _ name f h; cases h
 | cons p l ih =>
  obtain ⟨n, g⟩ := p
  intro h name f hm
  unfold chkMs at h
  split at h
  case h_2 => cases h
  rename_i h1
  unfold methOf at hm
  split at hm
  ·rename_i e; injection hm with hm; subst hm; subst e; exact h1
  ·exact ih h name f hm
def allB {α : Type} (p : α -> Bool) (l : List α) : Bool := match l with | [] => true | x :: r => (match p x with | true => allB p r | false => false)
theorem allB_ok {α : Type} {p : α -> Bool} : ∀ {l : List α}, allB p l = true -> ∀ x ∈ l, p x = true := by
 intro l
 induction l with
 | nil => intro _ x h; cases h
 | cons y l ih =>
  intro h x hx
  unfold allB at h
  split at h
  case h_2 => cases h
  rename_i hy
  rcases List.mem_cons.1 hx with rfl | hx
  ·exact hy
  ·exact ih h x hx
def mkTab (P : Program) (tys : List Nat) (fns : List (Nat × Nat)) (es : List Nat) (ms : List (Nat × List (String × FuncId))) (xs : List (Nat × Nat)) (n : Nat) : Tab where
 ty := Xa (tys.map fun t => (t, mkTI P t))
 fn := Xa (fns.map fun p => (p.1, mkF P p.1 p.2))
 eqs := Xa (es.map fun t => (t, mkEq P t))
 meth := Xa ms
 ext := Xa xs
 nglob := n
def AllP {α : Type} (Q : α -> Prop) (l : List α) : Prop := match l with | [] => True | x :: r => Q x /\ AllP Q r
theorem AllP.of {α : Type} {Q : α -> Prop} : ∀ {l : List α}, AllP Q l -> ∀ x ∈ l, Q x := by
 intro l
 induction l with
 | nil => intro _ x h; cases h
 | cons y l ih =>
  intro h x hx
  obtain ⟨h1, h2⟩ := h
  rcases List.mem_cons.1 hx with rfl | hx
  ·exact h1
  ·exact ih h2 x hx
theorem cert_of {P : Program} {tys : List Nat} {fns : List (Nat × Nat)} {es : List Nat} {ms : List (Nat × List (String × FuncId))} {xs : List (Nat × Nat)} {n : Nat} (h1 : allB (chkTI P) tys = true) (h2 : allB (fun p : Nat × Nat => chkF P p.1) fns = true)
  (h3 : allB (chkEq P) es = true) (h4 : allB (fun p : Nat × List (String × FuncId) => chkMs P p.1 p.2) ms = true) (h6 : AllP (fun p : Nat × Nat => ExtOk P p.1 p.2) xs) (h5 : P.follows .mixedOrders = true) : Xy P (mkTab P tys fns es ms xs n) where
 ty := fun t ti h => tput_get (Q := fun t ti => P.underlying t = some ti.desc /\ ∃ info, P.info? t = some info /\ info.size = ti.size /\ info.bytes = ti.bytes /\ info.zero = some ti.zero /\ info.comparable = ti.cmp /\ X5 ti.zero = true /\ ti.zero.cells.size = ti.size)
  (by intro p hp; obtain ⟨t, ht, rfl⟩ := List.mem_map.1 hp; exact chkTI_ok (allB_ok h1 t ht)) h
 fn := fun f a h => tput_get (Q := fun f (a : AFn) => ∃ fn, P.funcs[f]? = some fn /\ fn.body = some a.body /\ fn.ntmps = a.ntmps /\ fn.results.toList = a.results /\ (fn.name == "runtime.NumGoroutine") = false)
  (by intro p hp; obtain ⟨q, hq, rfl⟩ := List.mem_map.1 hp; exact chkF_ok (allB_ok h2 q hq)) h
 eqs := fun t l h => tput_get (Q := fun t l => P.eqGuardType P.depth t = false /\ (∀ fs, P.underlying t = some (.struct fs) -> P.stoodInHeld t = false /\ (fs.toList.filter fun f => decide (f.name ≠ "_")).map (fun f => (f.type, f.offset)) = l))
  (by intro p hp; obtain ⟨t, ht, rfl⟩ := List.mem_map.1 hp; exact chkEq_ok (allB_ok h3 t ht)) h
 meth := fun t l name f h hm v w => by
  have := tput_get (Q := fun t l => chkMs P t l = true) (fun p hp => allB_ok h4 p hp) h
  have e : P.types.size + Made.depth = (P.types.size + (Made.depth - 1)) + 1 := by simp only [Made.depth]
  rw [e]
  exact chkM1_ok (chkMs_ok this name f hm) _ v w
 ext := fun f k h => tput_get (Q := fun f k => ExtOk P f k) (fun p hp => h6.of p hp) h
 mixed := h5
 memo := fun _ _ h => by cases h
end
section
variable {P : Program} {T : Tab}
def Tab.aT (T : Tab) (ν : Mu) : Tab := { T with anc := ν }
theorem Xy.aT (C : Xy P T) (ν : Mu) : Xy P (T.aT ν) := ⟨C.ty, C.fn, C.eqs, C.meth, C.ext, C.mixed, C.memo⟩
def memT (l : List (Nat × List XJ)) : Tr (List XJ) := match l with | [] => .e | (f, ms) :: r => (memT r).put (some ms) f
def Tab.wM (T : Tab) (l : List (Nat × List XJ)) : Tab := { T with memo := memT l }
theorem memT_get {l : List (Nat × List XJ)} {f : Nat} {ms : List XJ} (h : (memT l).get f = some ms) : (f, ms) ∈ l := by
 induction l with
 | nil => cases h
 | cons p l ih =>
  obtain ⟨a, xs⟩ := p
  unfold memT at h
  rcases Tr.get_put h with ⟨rfl, e⟩ | ⟨_, h⟩
  ·injection e with e; subst e; exact List.mem_cons_self
  ·exact List.mem_cons_of_mem _ (ih h)
theorem Xy.wM (C : Xy P T) {l : List (Nat × List XJ)} (h : AllP (fun p : Nat × List XJ => AllP (Xx P T.nglob p.1) p.2) l) : Xy P (T.wM l) :=
 ⟨C.ty, C.fn, C.eqs, C.meth, C.ext, C.mixed, fun f ms hf m hm => (h.of (f, ms) (memT_get hf)).of m hm⟩
def XI (P : Program) (T : Tab) (s s' : ASt) : Prop := ∀ {B : Nat} {μ : Mu} {fr' : Frame} {cs' : List Frame} {w : World} (cs0 : List Frame), SRel T B μ s fr' cs' w -> Kh P T B cs0 (lone fr' (cs' ++ cs0) w) w s'
theorem XI.runs (C : Xy P T) {s s' : ASt} (ns keep fs : List Nat) (nx : Nat) (h : gcS keep fs nx (Xc T ns s) = s') : XI P T s s' := by
 intro B μ fr' cs' w cs0 hs
 obtain ⟨μ1, fr1, cs1, w1, a, b, c⟩ := aruns_ok (cs0 := cs0) C ns hs
 have a := gcS_ok (keep := keep) (fs := fs) (nx := nx) a
 rw [h] at a
 exact ⟨μ1, fr1, cs1, w1, a, b, c⟩
theorem XI.runs' (C : Xy P T) {s : ASt} (ns : List Nat) : XI P T s (Xc T ns s) := by
 intro B μ fr' cs' w cs0 hs
 exact aruns_ok (cs0 := cs0) C ns hs
theorem XI.trans {s s1 s2 : ASt} (h : XI P T s s1) (k : XI P T s1 s2) : XI P T s s2 := by
 intro B μ fr' cs' w cs0 hs
 exact (h cs0 hs).trans fun h2 => k cs0 h2
theorem XI.weak {s s1 s2 : ASt} (h : Weaker T s s1) (k : XI P T s1 s2) : XI P T s s2 := by
 intro B μ fr' cs' w cs0 hs
 exact k cs0 (h hs)
theorem XI.same (s : ASt) : XI P T s s := by
 intro B μ fr' cs' w cs0 hs
 exact Kh.refl hs
theorem Clo.reach (C : Xy P T) (s' : ASt) : Clo T (fun s => XI P T s s') := by
 refine ⟨?_, fun h k => XI.weak h k, fun ns k => XI.trans (XI.runs' C ns) k⟩
 intro s l h k B μ fr' cs' w cs0 hs
 have := fstep_ok (cs0 := cs0) C hs
 rw [h] at this
 obtain ⟨s1, hm, hg⟩ := this
 exact hg.trans fun h2 => k s1 hm cs0 h2
theorem XI.runw (C : Xy P T) {s s1 s2 : ASt} (ns keep fs : List Nat) (nx : Nat) (us : List (Nat × List Value)) (ds : List (Nat × Nat)) (h : Xq keep fs nx us ds (Xc T ns s) = s1) (k : XI P T s1 s2) : XI P T s s2 := (Clo.reach C s2).runw ns keep fs nx us ds h k
def picks (rs : List ResultVar) (vars : List (Option Value)) (over : List (Nat × Value)) : Option (List (Nat × Value)) :=
 match rs with
 | [] => some []
 | .tmp t :: r => (match Yl vars over t, picks r vars over with | some v, some l => some ((t, v) :: l) | _, _ => none)
 | .cell t _ :: r => (match Yl vars over t, picks r vars over with | some v, some l => some ((t, v) :: l) | _, _ => none)
theorem picks_ok : ∀ {rs : List ResultVar} {vars : List (Option Value)} {over : List (Nat × Value)} {l : List (Nat × Value)}, picks rs vars over = some l -> ∀ {t : Nat} {v : Value}, Xp l t = some v -> Yl vars over t = some v := by
 intro rs
 induction rs with
 | nil => intro vars over l h t v hv; injection h with h; subst h; cases hv
 | cons r rs ih =>
  intro vars over l h t v hv
  cases r with
  | tmp a =>
   unfold picks at h
   split at h
   ·rename_i x k h1 h2
    injection h with h; subst h
    rw [XD] at hv
    split at hv
    ·rename_i e; subst e; injection hv with hv; subst hv; exact h1
    ·exact ih h2 hv
   ·cases h
  | cell a ty =>
   unfold picks at h
   split at h
   ·rename_i x k h1 h2
    injection h with h; subst h
    rw [XD] at hv
    split at hv
    ·rename_i e; subst e; injection hv with hv; subst hv; exact h1
    ·exact ih h2 hv
   ·cases h
def Yt (fr : Xh) (m : XJ) : ASt := { fr := fr, cs := [], A := m.A0 }
def mEnd (rs : List ResultVar) (s : ASt) : Option (Nat × Nat × List (Nat × Value) × Xd) :=
 match s with
 | ⟨⟨fn, nt, vars, over, _, [], .returning, .normal, none⟩, [], A⟩ => (match picks rs vars over with | some l => some (fn, nt, l, A) | none => none)
 | _ => none
theorem memo_ok (C : Xy P T) {f : FuncId} {m : XJ} {fr : Xh} (rs : List ResultVar) (he : YZ T f m.args .normal = some fr)
  (hr : ∀ ν, ∃ s', XI P (T.aT ν) (Yt fr m) s' /\ mEnd rs s' = some (f, m.nt, m.res, m.A1)) : Xx P T.nglob f m := by
 intro B μ w args' cs0 R G ha
 obtain ⟨s', h1, h2⟩ := hr μ
 have hs : SRel (T.aT μ) B μ (Yt fr m) (Frame.enter P f args' .normal) [] w :=
  ⟨R, ⟨G, Mu.Le.refl μ⟩, m.n0, Nat.le_refl _, .plain (enter_ok (C.aT μ) ha (show YZ (T.aT μ) f m.args .normal = some fr from he)), .nil _⟩
 obtain ⟨μ1, fr2, cs2, w2, ⟨R2, G2, lo, hlo, hf, hst⟩, b, c⟩ := h1 cs0 hs
 unfold mEnd at h2
 split at h2
 case h_2 => cases h2
 rename_i fn nt vars over td A
 split at h2
 case h_2 => cases h2
 rename_i l hl
 injection h2 with h2
 injection h2 with h2 h3
 injection h3 with h3 h4
 injection h4 with h4 h5
 subst h2; subst h3; subst h4; subst h5
 cases hst
 cases hf with
 | draw core run => cases run
 | plain hp =>
  refine ⟨μ1, fr2, w2, G2.2, R2, ⟨hp.core.fn, hp.core.kind, ?_, hp.core.defers.nil_left, ?_⟩, ⟨hp.tm.1, fun t v hv => hp.tm.2 t v (picks_ok hl hv)⟩, b, c⟩
  ·have := hp.core.round
   generalize fr2.roundOf = x at this
   cases this; rfl
  ·have := hp.core.mode
   generalize fr2.mode = x at this
   cases this; rfl
theorem XY (C : Xy P T) {f : FuncId} {m : XJ} (fr : Xh) (rs : List ResultVar) (he : YZ T f m.args .normal = some fr)
  (hr : ∀ ν, ∃ s', XI P (T.aT ν) (Yt fr m) s' /\ mEnd rs s' = some (f, m.nt, m.res, m.A1)) : Xx P T.nglob f m := by
 intro B μ w args'
 exact memo_ok C rs he hr
def YR (T : Tab) (f : FuncId) (m : XJ) (rs : List ResultVar) (ns keep fs : List Nat) : Option (Nat × Nat × List (Nat × Value) × Xd) :=
 match YZ T f m.args .normal with
 | some fr => mEnd rs (gcS keep fs m.n1 (Xc T ns (Yt fr m)))
 | none => none
theorem Xz (C : Xy P T) {f : FuncId} {m : XJ} (rs : List ResultVar) (ns keep fs : List Nat) (h : ∀ ν, YR (T.aT ν) f m rs ns keep fs = some (f, m.nt, m.res, m.A1)) : Xx P T.nglob f m := by
 have h0 := h fun _ => none
 unfold YR at h0
 split at h0
 case h_2 => cases h0
 rename_i fr he
 have hr : ∀ ν, ∃ s', XI P (T.aT ν) (Yt fr m) s' /\ mEnd rs s' = some (f, m.nt, m.res, m.A1) := by
  intro ν
  refine ⟨_, XI.runs (C.aT ν) ns keep fs m.n1 rfl, ?_⟩
  have h1 := h ν
  unfold YR at h1
  have he1 : YZ (T.aT ν) f m.args .normal = some fr := he
  rw [he1] at h1
  exact h1
 intro B μ w args'
 exact memo_ok C rs he hr
end
section
def subC (c : Code) (i : Nat) : Code :=
 match c with
 | .seq a b => (match i with | 0 => a | _ + 1 => b)
 | .cond _ a b => (match i with | 0 => a | _ + 1 => b)
 | .rangeFunc _ _ a b => (match i with | 0 => a | _ + 1 => b)
 | .block _ b => b
 | .loop b => b
 | .scope b => b
 | c => c
def codeAt (c : Code) (p : List Nat) : Code := match p with | [] => c | i :: r => codeAt (subC c i) r
def bodyOf (P : Program) (f : Nat) : Code := match P.funcs[f]? with | some fn => (match fn.body with | some b => b | none => .skip) | none => .skip
def YF (c : Code) : Array Oper := match c with | .region _ ops _ => ops | _ => #[]
def iR (c : Code) (i : Nat) : Xt := .inRegion (YF c) (Xf (YF c).toList i)
def iD (c : Code) (t : Nat) (V : List (Nat × Value)) (base : Nat) : Xt := .inDraw (YF c) t V base
def Xb {α : Type} (l : List (Nat × α)) : List Nat := match l with | [] => [] | p :: r => p.1 :: Xb r
def vt : Value := .bool true
def vf : Value := .bool false
def vi (n : Nat) : Value := .int .i64 (.ofNat n)
def vb (n : Nat) : Value := .int .u8 (.ofNat n)
def vu (n : Nat) : Value := .int .u64 (.ofNat n)
def bytesOf (l : List Nat) : List UInt8 := match l with | [] => [] | b :: r => UInt8.ofNat b :: bytesOf r
def vs (l : List Nat) : Value := .string ⟨⟨bytesOf l⟩⟩
def vp : Value := .pointer none
def va (b o : Nat) : Value := .pointer (some ⟨b, o, none⟩)
def vx : Value := .float .f64 0
def vm (b n : Nat) : Value := .slice (some ⟨b, 0, none⟩) n n
def sm (b n : Nat) : Option Value := some (.slice (some ⟨b, 0, none⟩) n n)
def vn : Value := .slice none 0 0
def vl (b o l c : Nat) : Value := .slice (some ⟨b, o, none⟩) l c
def vz : Value := .nilIface
def vg (l : List Value) : Value := .agg ⟨l⟩
def vq (l : List Value) : Value := .tuple ⟨l⟩
def no : Option Value := none
def so (v : Value) : Option Value := some v
def si (n : Nat) : Option Value := some (.int .i64 (.ofNat n))
def st : Option Value := some (.bool true)
def sf : Option Value := some (.bool false)
def sa (b o : Nat) : Option Value := some (.pointer (some ⟨b, o, none⟩))
def sl (b o l c : Nat) : Option Value := some (.slice (some ⟨b, o, none⟩) l c)
def cellsOf (o : Xg) : List Value := match o with | .cells l _ => l | _ => []
def ob (l : List Value) : Xg := .cells l (.fixed false)
def og (l : List Value) (e f b t : Nat) : Xg := .cells l (.grown ⟨e, f, b, t⟩)
def tu (l : List Nat) : List Value := match l with | [] => [] | n :: r => vu n :: tu r
def zrv (n : Nat) (x : Value) : List Value := Nat.rec (motive := fun _ => List Value) [] (fun _ r => x :: r) n
def tv1 (n : Nat) : Value := match n with | 0 => vf | 1 => vt | n + 2 => vi n
def tv (l : List Nat) : List Value := match l with | [] => [] | n :: r => tv1 n :: tv r
def to1 (n : Nat) : Option Value := match n with | 0 => none | 1 => sf | 2 => st | n + 3 => si n
def to (l : List Nat) : List (Option Value) := match l with | [] => [] | n :: r => to1 n :: to r
def tl (n : Nat) (l : List Nat) : List Value := match l with | [] => [] | b :: r => vm b n :: tl n r
def zrp (n x : Nat) : List Nat := Nat.rec (motive := fun _ => List Nat) [] (fun _ r => x :: r) n
def zF (fn nt : Nat) (vars : List (Option Value)) (over : List (Nat × Value)) (todo : List Xt) : Xh := ⟨fn, nt, vars, over, todo, [], .run, .normal, none⟩
abbrev LH := List (Nat × Xg)
abbrev LG := List (Nat × List Nat)
abbrev LF := List Xh
section
variable {P : Program} {T : Tab} {ns keep fs : List Nat} {nx : Nat} {us : List (Nat × List Value)} {ds : List (Nat × Nat)}
theorem rr {s s1 s2 : ASt} (C : Xy P T) (h : gcS keep fs nx (Xc T ns s) = s1) (k : XI P T s1 s2) : XI P T s s2 := XI.trans (XI.runs C ns keep fs nx h) k
theorem rq {s s1 s2 : ASt} (C : Xy P T) (h : Xq keep fs nx us ds (Xc T ns s) = s1) (k : XI P T s1 s2) : XI P T s s2 := XI.runw C ns keep fs nx us ds h k
theorem st1 {r m since cl i : Nat} {Q : List Nat -> Nat -> (Nat -> Option Value) -> ASt} {H : List Nat -> (Nat -> Option Value) -> ASt} {e : MapEntry} {es : List MapEntry} {v : Value} {vs : List Value} (ns : List Nat)
  (h : ∀ S L σ, Xq keep fs nx us ds (Xc T ns (stepN (Q S L σ) r m since S cl (some e))) = H (e.born :: S) (upd σ i (some v))) (k : Xl T r m since cl Q H (i + 1) es vs) : Xl T r m since cl Q H i (e :: es) (v :: vs) :=
 ⟨⟨ns, keep, fs, nx, us, ds, h⟩, k⟩
end
def rmq {α : Type} (l : List (Nat × α)) : List Nat -> List (Nat × α) :=
 List.rec (motive := fun _ => List Nat -> List (Nat × α)) (fun _ => [])
  (fun p t ih rs => List.rec (motive := fun _ => List (Nat × α)) (p :: t) (fun r rs' _ => Bool.rec (motive := fun _ => List (Nat × α)) (p :: ih rs) (ih rs') (Nat.beq p.1 r)) rs) l
def zhd (n : Nat) (l : List Value) : List Value :=
 List.rec (motive := fun _ => Nat -> List Value) (fun _ => []) (fun a _ ih n => Nat.rec (motive := fun _ => List Value) [] (fun m _ => a :: ih m) n) l n
def pch (l : List Value) (ps : List (Nat × Value)) : List Value :=
 List.rec (motive := fun _ => List (Nat × Value) -> List Value) (fun _ => [])
  (fun a t ih ps => List.rec (motive := fun _ => List Value) (a :: t) (fun p r _ => Nat.rec (motive := fun _ => List Value) (p.2 :: ih r) (fun g _ => a :: ih ((g, p.2) :: r)) p.1) ps) l ps
def roL (l : List (Nat × Bool × List Value)) : List (Nat × Xg) := match l with | [] => [] | p :: r => (p.1, .cells p.2.2 (match p.2.1 with | true => .fixed true | false => .seen)) :: roL r
def mrg {α : Type} (l : List (Nat × α)) : List (Nat × α) -> List (Nat × α) :=
 List.rec (motive := fun _ => List (Nat × α) -> List (Nat × α)) (fun ys => ys)
  (fun p _ ih ys => List.rec (motive := fun _ => List (Nat × α)) (p :: ih [])
   (fun q t iq => Bool.rec (motive := fun _ => List (Nat × α)) (Bool.rec (motive := fun _ => List (Nat × α)) (p :: ih (q :: t)) (p :: ih t) (Nat.beq q.1 p.1)) (q :: iq) (Nat.blt q.1 p.1)) ys) l
def Xe (l : List (Nat × Xg)) : List (Nat × List Nat) :=
 match l with
 | [] => []
 | p :: r => (match p.2 with | .cells _ (.grown g) => (match Nat.beq g.fam p.1 with | true => (p.1, [p.1]) :: Xe r | false => Xe r) | _ => Xe r)
def wds (n : Nat) : Nat -> List Value :=
 Nat.rec (motive := fun _ => Nat -> List Value) (fun _ => []) (fun _ ih x => vu (Nat.mod x 18446744073709551616) :: ih (Nat.div x 18446744073709551616)) n
def trn (x e : Nat) : Nat := Nat.xor x (Nat.shiftLeft (Nat.sub (Nat.pow 2 (Nat.succ (Nat.div e 4096))) 1) (Nat.mod e 4096))
def bso (L t k x : Nat) : Xg := .cells (wds L x) (.grown ⟨1, k, 0, t⟩)
def bst (L t : Nat) (l : List Nat) : List (Nat × Xg) :=
 List.rec (motive := fun _ => Nat -> Nat -> Nat -> List (Nat × Xg)) (fun _ _ _ => [])
  (fun a _ ih k x c => Nat.rec (motive := fun _ => List (Nat × Xg))
   (Nat.rec (motive := fun _ => List (Nat × Xg)) ((Nat.add k (Nat.div a 16), bso L t (Nat.add k (Nat.div a 16)) x) :: ih (Nat.add k (Nat.div a 16)) x 0) (fun _ _ => ih (Nat.add k (Nat.div a 16)) x (Nat.mod a 16)) (Nat.mod a 16))
   (fun m _ => Bool.rec (motive := fun _ => List (Nat × Xg))
    (Nat.rec (motive := fun _ => List (Nat × Xg)) ((k, bso L t k (trn x a)) :: ih k (trn x a) 0) (fun _ _ => ih k (trn x a) m) m)
    ((k, bso L t k a) :: ih k a 0) (Nat.beq m 14)) c) l 0 0 0
def bytesN (n : Nat) : Nat -> List UInt8 :=
 Nat.rec (motive := fun _ => Nat -> List UInt8) (fun _ => []) (fun _ ih x => UInt8.ofNat (Nat.mod x 128) :: ih (Nat.div x 128)) n
def vS (n x : Nat) : Value := .string ⟨⟨bytesN n x⟩⟩
def mei (i : Nat) (l : List (Nat × Nat)) : List MapEntry := match l with | [] => [] | p :: r => ⟨vi p.1, vi p.2, i⟩ :: mei (Nat.succ i) r
def dz (l : List Nat) : List (Nat × Nat) := match l with | [] => [] | a :: r => (a, 0) :: dz r
def zrl (n : Nat) (l : List Value) : List Value := Nat.rec (motive := fun _ => List Value) [] (fun _ r => app l r) n
def opAt (c : Code) (i : Nat) : Oper := match Xf (YF c).toList i with | o :: _ => o | [] => default
def sg (l : List (Option Value)) : Nat -> Option Value := fun j => match nth l j with | some o => o | none => none
end
end
end Go.Proofs.YtckflfichfnclaaGreatDoor.Sim
