/- A machine that runs closed calls of the program by the kernel: loops over maps; tables; short words. No condition. -/
import Derived.Test.YtnolnidldipfpaaGreatDoorSimF
namespace Go.Proofs.YtnolnidldipfpaaGreatDoor.Sim
open Go Go.RowKit

section
variable {T : Tab} {f : FuncId} {v : Value}

def ckKind (x : Value) : TypeDesc := match x with | .int k _ => .int k | .string _ => .string | _ => .bool
noncomputable def ckNe (x y : Value) : Bool := match aSameKey (ckKind x) x y with | some false => true | _ => false
noncomputable def allNe (x : Value) (l : List Value) : Bool := match l with | [] => true | y :: r => (match ckNe x y with | true => allNe x r | false => false)
noncomputable def distB (l : List Value) : Bool := match l with | [] => true | x :: r => (match closedCell x, allNe x r with | true, true => distB r | _, _ => false)
theorem allNe_ok {x : Value} : ∀ {l : List Value}, allNe x l = true → ∀ y ∈ l, x ≠ y := by
  intro l
  induction l with
  | nil => intro _ y hy; cases hy
  | cons z l ih =>
    intro h y hy
    unfold allNe at h
    split at h
    case h_2 => cases h
    rename_i hz
    rcases List.mem_cons.1 hy with rfl | hy
    · unfold ckNe at hz
      split at hz
      case h_2 => cases hz
      rename_i hs
      intro hc
      have := (aSameKey_val hs).1.2 hc.symm
      cases this
    · exact ih h y hy
theorem distB_ok : ∀ {l : List Value}, distB l = true → (∀ x ∈ l, closedCell x = true) ∧ l.Pairwise (· ≠ ·) := by
  intro l
  induction l with
  | nil => intro _; exact ⟨fun x hx => (by cases hx), .nil⟩
  | cons x l ih =>
    intro h
    unfold distB at h
    split at h
    case h_2 => cases h
    rename_i h1 h2
    obtain ⟨a, b⟩ := ih h
    refine ⟨fun y hy => ?_, List.pairwise_cons.2 ⟨fun y hy => allNe_ok h2 y hy, b⟩⟩
    rcases List.mem_cons.1 hy with rfl | hy
    · exact h1
    · exact a y hy

def keysE (es : List MapEntry) : List Value := match es with | [] => [] | e :: r => e.key :: keysE r
def toU (es : List MapEntry) : List (Value × Option Value) := match es with | [] => [] | e :: r => (e.key, some e.val) :: toU r
def absU (l : List Value) : List (Value × Option Value) := match l with | [] => [] | k :: r => (k, none) :: absU r
theorem keysE_eq (es : List MapEntry) : keysE es = es.map (·.key) := by
  induction es with
  | nil => rfl
  | cons e es ih => show e.key :: keysE es = _; rw [ih]; rfl
theorem toU_eq (es : List MapEntry) : toU es = es.map fun e => (e.key, some e.val) := by
  induction es with
  | nil => rfl
  | cons e es ih => show (e.key, some e.val) :: toU es = _; rw [ih]; rfl
theorem absU_eq (l : List Value) : absU l = l.map fun k => (k, none) := by
  induction l with
  | nil => rfl
  | cons e es ih => show (e, none) :: absU es = _; rw [ih]; rfl

noncomputable def offDraw (r : Nat) (fr : AFrame) : Bool :=
  match fr.todo with
  | .inDraw ops _ _ base :: _ => (match Nat.blt r base with | true => true | false => Nat.ble (Nat.add base (len ops.toList)) r)
  | _ => true
noncomputable def offDraws (r : Nat) (cs : List AFrame) : Bool := match cs with | [] => true | c :: k => (match offDraw r c with | true => offDraws r k | false => false)
theorem offDraw_ok {r : Nat} {fr : AFrame} (h : offDraw r fr = true) {ops : Array Oper} {t : Nat} {V : List (Nat × Value)} {base : Nat} {k : List AItem} (ht : fr.todo = .inDraw ops t V base :: k) (j : Nat) (hj : j < ops.toList.length) : base + j ≠ r := by
  unfold offDraw at h
  rw [ht] at h
  simp only at h
  split at h
  · rename_i hb
    rw [Nat.blt_eq] at hb
    omega
  · have := Nat.le_of_ble_eq_true h
    have : base + len ops.toList ≤ r := this
    rw [len_eq] at this
    omega

noncomputable def uS (r : Nat) (new : List Value) (s : ASt) : ASt :=
  match s.A.heap.get r, offDraw r s.fr, offDraws r s.cs with
  | some (.map es _), true, true => (match distB (app (keysE es) new) with | true => { s with A := aset s.A r (.mapU (app (toU es) (absU new))) } | false => s)
  | _, _, _ => s

theorem uS_ok (r : Nat) (new : List Value) (s : ASt) : Weaker T s (uS r new s) := by
  intro B μ fr' cs' w h
  unfold uS
  split
  case h_2 => exact h
  rename_i es cl h0 k2 k3
  split
  case h_2 => exact h
  rename_i hd
  obtain ⟨hclosed, hne⟩ := distB_ok hd
  rw [app_eq, keysE_eq] at hclosed hne
  obtain ⟨R, G, lo, hlo, hf, hst⟩ := h
  have other : ∀ b, b ≠ r → (aset s.A r (.mapU (app (toU es) (absU new)))).heap.get b = s.A.heap.get b := fun b hb => Tr.get_put_other _ _ _ _ hb
  refine ⟨⟨R.base, ?_, R.dom, R.sep, ?_, ?_⟩, G, lo, hlo, ?_, ?_⟩
  · intro b o e ho he
    rcases Tr.get_put ho with ⟨rfl, hc⟩ | ⟨_, ho⟩
    · injection hc with hc; subst hc
      obtain ⟨hg, hB, es', h1, h2⟩ := R.obj b _ e h0 he
      have hk : es'.toList.map (·.key) = es.map (·.key) := by
        apply List.ext_getElem?
        intro i
        rw [List.getElem?_map, List.getElem?_map]
        cases hi : es[i]? with
        | none =>
          have : es'.toList[i]? = none := by
            rw [List.getElem?_eq_none_iff] at hi ⊢
            rw [← h2.1]; exact hi
          rw [this]
        | some x =>
          obtain ⟨y, hy, hr⟩ := h2.get hi
          rw [hy]
          have := closedCell_eq (hclosed x.key (List.mem_append_left _ (List.mem_map.2 ⟨x, List.mem_of_getElem? hi, rfl⟩))) hr.1
          simp [this]
      refine ⟨hg, hB, es', cl, h1, ?_, ?_, ?_⟩
      · intro y hy
        obtain ⟨i, hi⟩ := List.mem_iff_getElem?.1 hy
        have hlt : i < es.length := by
          rw [h2.1]; exact (List.getElem?_eq_some_iff.1 hi).1
        have hx := List.getElem?_eq_getElem hlt
        have hr := h2.2 i _ _ hx hi
        have hkey := closedCell_eq (hclosed es[i].key (List.mem_append_left _ (List.mem_map.2 ⟨_, List.mem_of_getElem? hx, rfl⟩))) hr.1
        refine ⟨es[i].val, ?_, hr.2.1⟩
        rw [app_eq, toU_eq, hkey]
        exact List.mem_append_left _ (List.mem_map.2 ⟨_, List.mem_of_getElem? hx, rfl⟩)
      · intro k u hu
        rw [app_eq, toU_eq, absU_eq] at hu
        rcases List.mem_append.1 hu with hu | hu
        · obtain ⟨x, hx, he⟩ := List.mem_map.1 hu
          injection he with he _
          have : k ∈ es'.toList.map (·.key) := by
            rw [hk, ← he]; exact List.mem_map.2 ⟨x, hx, rfl⟩
          exact List.mem_map.1 this
        · obtain ⟨x, _, he⟩ := List.mem_map.1 hu
          injection he with _ he; cases he
      · have : (es'.toList.map (·.key)).Pairwise (· ≠ ·) := by
          rw [hk]; exact (List.pairwise_append.1 hne).1
        rwa [List.pairwise_map] at this
    · exact R.obj b o e ho he
  · intro b xs g ho
    rcases Tr.get_put ho with ⟨rfl, hc⟩ | ⟨_, ho⟩
    · injection hc with hc; cases hc
    · exact R.memb b xs g ho
  · intro b o ho
    rcases Tr.get_put ho with ⟨rfl, _⟩ | ⟨_, ho⟩
    · exact R.live b _ h0
    · exact R.live b o ho
  · cases hf with
    | plain hp => exact .plain hp
    | draw core run h1 h2 h3 h4 =>
      exact .draw core run h1 h2 h3 (h4.gc fun j hj o ho => by rw [other _ (offDraw_ok k2 h1 j hj)]; exact ho)
  · clear hf
    have : ∀ {hi : Nat} {cs : List AFrame} {cs' : List Frame}, Stack T μ s.A hi cs cs' → offDraws r cs = true → Stack T μ (aset s.A r (.mapU (app (toU es) (absU new)))) hi cs cs' := by
      intro hi cs cs' hst
      induction hst with
      | nil hi => intro _; exact .nil _
      | @cons lo hi c c' cs cs' hc hl ht ih =>
        intro k3
        unfold offDraws at k3
        split at k3
        case h_2 => cases k3
        rename_i k2
        refine .cons ?_ hl (ih k3)
        cases hc with
        | plain hp => exact .plain hp
        | wait core run h1 h2 h3 hcc h4 =>
          exact .wait core run h1 h2 h3 hcc (h4.gc fun j hj o ho => by rw [other _ (offDraw_ok k2 h1 j hj)]; exact ho)
    exact this hst k3

noncomputable def fgtS (ds : List (Nat × Nat)) (s : ASt) : ASt :=
  match s.fr.todo with
  | .inDraw _ _ _ _ :: _ => s
  | _ => { s with fr := { s.fr with vars := forgetD ds s.fr.vars, over := [] } }
theorem fgtS_ok (ds : List (Nat × Nat)) (s : ASt) : Weaker T s (fgtS ds s) := by
  intro B μ fr' cs' w h
  unfold fgtS
  split
  · exact h
  · rename_i hno
    obtain ⟨R, G, lo, hlo, hf, hst⟩ := h
    refine ⟨R, G, lo, hlo, ?_, hst⟩
    cases hf with
    | plain hp =>
      refine .plain ⟨⟨hp.core.fn, hp.core.kind, hp.core.round, hp.core.defers, hp.core.mode⟩, ⟨hp.tm.1, fun t u hu => ?_⟩, hp.todo⟩
      exact hp.tm.2 t u (forget_get (ds := ds) hu).2
    | draw core run h1 => exact absurd h1 (hno _ _ _ _ _)

noncomputable def uSs (us : List (Nat × List Value)) (s : ASt) : ASt := match us with | [] => s | p :: r => uSs r (uS p.1 p.2 s)
theorem uSs_ok : ∀ (us : List (Nat × List Value)) (s : ASt), Weaker T s (uSs us s)
  | [], _ => fun h => h
  | p :: r, s => fun h => uSs_ok r (uS p.1 p.2 s) (uS_ok p.1 p.2 s h)
noncomputable def canS (keep fs : List Nat) (nx : Nat) (us : List (Nat × List Value)) (ds : List (Nat × Nat)) (s : ASt) : ASt := gcS keep fs nx (uSs us (fgtS ds s))
theorem canS_ok (keep fs : List Nat) (nx : Nat) (us : List (Nat × List Value)) (ds : List (Nat × Nat)) (s : ASt) : Weaker T s (canS keep fs nx us ds s) := fun h => gcS_ok (uSs_ok us _ (fgtS_ok ds s h))
theorem Fin.runw {s s' : ASt} (ns keep fs : List Nat) (nx : Nat) (us : List (Nat × List Value)) (ds : List (Nat × Nat)) (h : canS keep fs nx us ds (aruns T ns s) = s') (k : Fin T f v s') : Fin T f v s := by
  subst h
  exact .bare ns (.weak (canS_ok keep fs nx us ds _) k)

noncomputable def stepN (s : ASt) (r m since : Nat) (S : List Nat) (cl : Nat) (o : Option MapEntry) : ASt :=
  match s.fr.finish (nextOf s.A r m since S cl o).1 with
  | some fr => { s with fr := fr, A := (nextOf s.A r m since S cl o).2 }
  | none => s

theorem Fin.ranged {s R : ASt} {ops : Array Oper} {o : Oper} {rest : List Oper} {k : List AItem} {it : Operand} {r m since L cl : Nat} {S : List Nat} {es : List MapEntry}
    (h : fstep T s = fRegs T ops k (o :: rest) R) (hg : o.guard = none) (ho : o.op = .next it false) (ht : R.fr.todo = .inRegion ops (o :: rest) :: k)
    (hev : aeval T.nglob R.fr.vars R.fr.over it = some (.pointer (some ⟨r, 0, none⟩))) (hr : R.A.heap.get r = some (.miter (some m) since S L)) (hm : R.A.heap.get m = some (.map es cl))
    (hc : (!S.isEmpty && !es.isEmpty && es.all (fun e => decide (e.born ≥ L))) = false) (hdst : (match o.dst with | none => true | some t => Nat.blt t R.fr.nt) = true)
    (hk : ∀ x ∈ candsA es since S, Fin T f v (stepN R r m since S cl x)) : Fin T f v s := by
  have same : ({ R with fr := { R.fr with todo := .inRegion ops (o :: rest) :: k } } : ASt) = R := by
    obtain ⟨⟨fn, nt, vars, over, todo, defers, mode, kind, ro⟩, cs, A⟩ := R
    have : todo = .inRegion ops (o :: rest) :: k := ht
    subst this; rfl
  have hfin : ∀ u : Value, ∃ fr, R.fr.finish u = some fr := by
    intro u
    unfold AFrame.finish
    rw [ht]
    simp only
    unfold AFrame.put
    cases hd : o.dst with
    | none => exact ⟨_, rfl⟩
    | some t =>
      rw [hd] at hdst
      simp only at hdst ⊢
      rw [hdst]
      exact ⟨_, rfl⟩
  have hop : aop T R.A (aeval T.nglob R.fr.vars R.fr.over) o.op = some (.branch ((candsA es since S).map (nextOf R.A r m since S cl))) := by
    rw [ho]
    show aoNextMap R.A (aeval T.nglob R.fr.vars R.fr.over) it = _
    unfold aoNextMap
    rw [hev]
    simp only [opNextMap, hr, hm, hc]
  have hbr : ∀ l : List (Option MapEntry), aBranch R (l.map (nextOf R.A r m since S cl)) = some (l.map (stepN R r m since S cl)) := by
    intro l
    induction l with
    | nil => rfl
    | cons x l ih =>
      obtain ⟨fr, hfr⟩ := hfin (nextOf R.A r m since S cl x).1
      simp only [List.map_cons, aBranch, hfr, ih]
      unfold stepN
      rw [hfr]
  have hf : fRegs T ops k (o :: rest) R = .branch ((candsA es since S).map (stepN R r m since S cl)) := by
    unfold fRegs
    simp only
    have hw : aWanted R.fr ops.toList o = some true := by unfold aWanted; rw [hg]
    rw [hw]
    simp only
    rw [hop]
    simp only
    rw [same]
    show apBranch R _ = _
    unfold apBranch
    rw [hbr]
  refine .branch (h.trans hf) fun s' hs' => ?_
  obtain ⟨x, hx, rfl⟩ := List.mem_map.1 hs'
  exact hk x hx

noncomputable def gd (o : Option Value) : Value := Option.rec (motive := fun _ => Value) undef (fun v => v) o
noncomputable def upd (σ : Nat → Option Value) (i : Nat) (o : Option Value) : Nat → Option Value := fun j => Bool.rec (motive := fun _ => Option Value) (σ j) o (Nat.beq j i)
theorem upd_eq (σ : Nat → Option Value) (i : Nat) (o : Option Value) (j : Nat) : upd σ i o j = if j = i then o else σ j := by
  unfold upd
  by_cases h : j = i
  · subst h; rw [Nat.beq_refl, if_pos rfl]
  · have : Nat.beq j i = false := by
      cases hb : Nat.beq j i with
      | false => rfl
      | true => exact absurd (Nat.eq_of_beq_eq_true hb) h
    rw [this, if_neg h]
noncomputable def endV (vals : List Value) (σ : Nat → Option Value) : Nat → Option Value := fun j => match nth vals j with | some v => some v | none => σ j

def StepsOk (T : Tab) (r m since cl : Nat) (Q : List Nat → Nat → (Nat → Option Value) → ASt) (H : List Nat → (Nat → Option Value) → ASt) : Nat → List MapEntry → List Value → Prop
  | _, [], [] => True
  | i, e :: es, v :: vals => (∃ ns keep fs nx us ds, ∀ S L σ, canS keep fs nx us ds (aruns T ns (stepN (Q S L σ) r m since S cl (some e))) = H (e.born :: S) (upd σ i (some v))) ∧ StepsOk T r m since cl Q H (i + 1) es vals
  | _, _, _ => False
theorem StepsOk.get {r m since cl : Nat} {Q : List Nat → Nat → (Nat → Option Value) → ASt} {H : List Nat → (Nat → Option Value) → ASt} : ∀ {es : List MapEntry} {vals : List Value} {i : Nat}, StepsOk T r m since cl Q H i es vals →
    es.length = vals.length ∧ ∀ j e, es[j]? = some e → ∃ v, vals[j]? = some v ∧ ∃ ns keep fs nx us ds, ∀ S L σ, canS keep fs nx us ds (aruns T ns (stepN (Q S L σ) r m since S cl (some e))) = H (e.born :: S) (upd σ (i + j) (some v)) := by
  intro es
  induction es with
  | nil =>
    intro vals i h
    cases vals with
    | nil => exact ⟨rfl, fun j e he => by simp at he⟩
    | cons v vals => exact h.elim
  | cons e es ih =>
    intro vals i h
    cases vals with
    | nil => exact h.elim
    | cons v vals =>
      obtain ⟨h1, h2⟩ := h
      obtain ⟨h3, h4⟩ := ih h2
      refine ⟨by simp [h3], fun j x hx => ?_⟩
      cases j with
      | zero =>
        have hx : e = x := by simpa using hx
        subst hx
        exact ⟨v, by simp, by simpa using h1⟩
      | succ j =>
        obtain ⟨u, hu, hq⟩ := h4 j x (by simpa using hx)
        refine ⟨u, by simpa using hu, ?_⟩
        have e1 : i + 1 + j = i + (j + 1) := by omega
        rw [e1] at hq
        exact hq

def LevelsOk (T : Tab) (r m since cl : Nat) (Q : Nat → List Nat → Nat → (Nat → Option Value) → ASt) (H : Nat → List Nat → (Nat → Option Value) → ASt) (es : List MapEntry) (vals : List Value) : Nat → Nat → Prop
  | 0, _ => True
  | n + 1, j => StepsOk T r m since cl (Q j) (H (j + 1)) 0 es vals ∧ LevelsOk T r m since cl Q H es vals n (j + 1)
theorem LevelsOk.get {r m since cl : Nat} {Q : Nat → List Nat → Nat → (Nat → Option Value) → ASt} {H : Nat → List Nat → (Nat → Option Value) → ASt} {es : List MapEntry} {vals : List Value} : ∀ {n j : Nat}, LevelsOk T r m since cl Q H es vals n j →
    ∀ i, i < n → StepsOk T r m since cl (Q (j + i)) (H (j + i + 1)) 0 es vals := by
  intro n
  induction n with
  | zero => intro j _ i hi; omega
  | succ n ih =>
    intro j h i hi
    obtain ⟨h1, h2⟩ := h
    cases i with
    | zero => exact h1
    | succ i =>
      have := ih h2 i (by omega)
      have e1 : j + 1 + i = j + (i + 1) := by omega
      rw [e1] at this
      exact this

theorem LevelsOk.all {r m since cl : Nat} {Q : Nat → List Nat → Nat → (Nat → Option Value) → ASt} {H : Nat → List Nat → (Nat → Option Value) → ASt} {es : List MapEntry} {vals : List Value}
    (h : ∀ j, StepsOk T r m since cl (Q j) (H (j + 1)) 0 es vals) : ∀ n j, LevelsOk T r m since cl Q H es vals n j
  | 0, _ => True.intro
  | n + 1, j => ⟨h j, LevelsOk.all h n (j + 1)⟩

theorem filter_one : ∀ {l : List MapEntry}, (l.Pairwise fun a b => a.born ≠ b.born) → ∀ {e : MapEntry}, e ∈ l → (l.filter fun x => decide (x.born ≠ e.born)).length = l.length - 1 := by
  intro l
  induction l with
  | nil => intro _ e he; cases he
  | cons a l ih =>
    intro hp e he
    obtain ⟨h1, h2⟩ := List.pairwise_cons.1 hp
    by_cases hb : a.born = e.born
    · have hl : l.filter (fun x => decide (x.born ≠ e.born)) = l := by
        rw [List.filter_eq_self]
        intro x hx
        have := h1 x hx
        rw [hb] at this
        simpa using fun hc => this hc.symm
      rw [List.filter_cons_of_neg (by simp [hb]), hl]
      rfl
    · have he' : e ∈ l := by
        rcases List.mem_cons.1 he with rfl | he
        · exact absurd rfl hb
        · exact he
      have hpos := List.length_pos_of_mem he'
      rw [List.filter_cons_of_pos (by simp [hb]), List.length_cons, ih h2 he', List.length_cons]
      omega

theorem Fin.loop {ops : Array Oper} {o : Oper} {rest : List Oper} {k : List AItem} {it : Operand} {r m since L0 cl : Nat} {es : List MapEntry} {vals : List Value} {s0 : ASt} {σ0 : Nat → Option Value}
    {Q : Nat → List Nat → Nat → (Nat → Option Value) → ASt} {H : Nat → List Nat → (Nat → Option Value) → ASt} {X : (Nat → Option Value) → ASt} {nsx keepx fsx : List Nat} {nxx : Nat} {usx : List (Nat × List Value)} {dsx : List (Nat × Nat)}
    (h0 : fstep T s0 = fRegs T ops k (o :: rest) (Q 0 [] L0 σ0)) (hH : ∀ j S σ, fstep T (H j S σ) = fRegs T ops k (o :: rest) (Q j S cl σ)) (hg : o.guard = none) (ho : o.op = .next it false)
    (ht : ∀ j S L σ, (Q j S L σ).fr.todo = .inRegion ops (o :: rest) :: k) (hev : ∀ j S L σ, aeval T.nglob (Q j S L σ).fr.vars (Q j S L σ).fr.over it = some (.pointer (some ⟨r, 0, none⟩)))
    (hr : ∀ j S L σ, (Q j S L σ).A.heap.get r = some (.miter (some m) since S L)) (hm : ∀ j S L σ, (Q j S L σ).A.heap.get m = some (.map es cl))
    (hdst : ∀ j S L σ, (match o.dst with | none => true | some t => Nat.blt t (Q j S L σ).fr.nt) = true)
    (hold : es.all (fun e => decide (e.born < since)) = true) (hcl : es.all (fun e => decide (e.born ≥ cl)) = false) (hnd : (es.map (·.born)).Nodup)
    (hstep : LevelsOk T r m since cl Q H es vals es.length 0) (hexit : ∀ S L σ, canS keepx fsx nxx usx dsx (aruns T nsx (stepN (Q es.length S L σ) r m since S cl none)) = X σ)
    (hend : Fin T f v (X (endV vals σ0))) : Fin T f v s0 := by
  have hne : 0 < es.length := by
    cases es with
    | nil => simp at hcl
    | cons => simp
  obtain ⟨hlen, _⟩ := (hstep.get 0 hne).get
  have bornOf : ∀ (i j : Nat) (a b : MapEntry), es[i]? = some a → es[j]? = some b → a.born = b.born → i = j := by
    intro i j a b ha hb hab
    obtain ⟨hi, rfl⟩ := List.getElem?_eq_some_iff.1 ha
    obtain ⟨hj, rfl⟩ := List.getElem?_eq_some_iff.1 hb
    have hp : es.Pairwise fun x y => x.born ≠ y.born := List.pairwise_map.1 hnd
    have hpw := List.pairwise_iff_getElem.1 hp
    rcases Nat.lt_trichotomy i j with hlt | heq | hgt
    · exact absurd hab (hpw i j hi hj hlt)
    · exact heq
    · exact absurd hab.symm (hpw j i hj hi hgt)
  have main : ∀ (n : Nat) (S : List Nat) (L : Nat) (σ : Nat → Option Value) (s : ASt), (es.filter fun e => !S.contains e.born).length = n → n ≤ es.length → (S = [] ∨ L = cl) →
      (∀ i, σ i = (match es[i]? with | some e => if e.born ∈ S then vals[i]? else σ0 i | none => σ0 i)) → fstep T s = fRegs T ops k (o :: rest) (Q (es.length - n) S L σ) → Fin T f v s := by
    intro n
    induction n using Nat.strongRecOn with
    | ind n ih =>
      intro S L σ s hn hle hSL hσ hs
      have hc : (!S.isEmpty && !es.isEmpty && es.all (fun e => decide (e.born ≥ L))) = false := by
        rcases hSL with rfl | rfl
        · rfl
        · rw [hcl]; simp
      refine Fin.ranged hs hg ho (ht _ S L σ) (hev _ S L σ) (hr _ S L σ) (hm _ S L σ) hc (hdst _ S L σ) fun x hx => ?_
      have hnew : (es.filter fun e => !S.contains e.born).filter (fun e => decide (e.born ≥ since)) = [] := by
        rw [List.filter_eq_nil_iff]
        intro e he
        have := List.all_eq_true.1 hold e (List.mem_filter.1 he).1
        simp at this ⊢; omega
      have hold' : (es.filter fun e => !S.contains e.born).filter (fun e => decide (e.born < since)) = es.filter fun e => !S.contains e.born := by
        rw [List.filter_eq_self]
        intro e he
        exact List.all_eq_true.1 hold e (List.mem_filter.1 he).1
      unfold candsA at hx
      simp only [hnew, hold', List.append_nil] at hx
      cases x with
      | none =>
        have hall : es.filter (fun e => !S.contains e.born) = [] := by
          rcases List.mem_append.1 hx with hx | hx
          · cases hl : es.filter (fun e => !S.contains e.born) with
            | nil => rfl
            | cons a l => rw [hl] at hx; cases hx
          · obtain ⟨y, _, hy⟩ := List.mem_map.1 hx
            cases hy
        have hσe : σ = endV vals σ0 := by
          funext j
          rw [hσ j]
          unfold endV
          rw [nth_eq]
          cases hj : es[j]? with
          | none =>
            have : vals[j]? = none := by
              rw [List.getElem?_eq_none_iff] at hj ⊢
              omega
            rw [this]
          | some e =>
            have hin : e.born ∈ S := by
              have := List.filter_eq_nil_iff.1 hall e (List.mem_of_getElem? hj)
              simpa using this
            have hlt := (List.getElem?_eq_some_iff.1 hj).1
            simp only [hin, if_true]
            rw [List.getElem?_eq_getElem (by omega)]
        have hn0 : n = 0 := by rw [← hn, hall]; rfl
        subst hn0
        rw [Nat.sub_zero]
        have := hexit S L σ
        rw [hσe] at this
        rw [hσe]
        exact Fin.runw nsx keepx fsx nxx usx dsx this hend
      | some e =>
        have he : e ∈ es.filter fun e => !S.contains e.born := by
          rcases List.mem_append.1 hx with hx | hx
          · cases hl : es.filter (fun e => !S.contains e.born) with
            | nil => rw [hl] at hx; simp at hx
            | cons a l => rw [hl] at hx; cases hx
          · obtain ⟨y, hy, hye⟩ := List.mem_map.1 hx
            injection hye with hye; subst hye; exact hy
        have hes := (List.mem_filter.1 he).1
        have hnS : e.born ∉ S := by
          have := (List.mem_filter.1 he).2
          simpa using this
        obtain ⟨i, hi⟩ := List.mem_iff_getElem?.1 hes
        have hpos : 0 < n := by
          rw [← hn]; exact List.length_pos_of_mem he
        obtain ⟨_, hsteps⟩ := (hstep.get (es.length - n) (by omega)).get
        rw [Nat.zero_add] at hsteps
        obtain ⟨u, hu, ns, keep, fs, nx, us, ds, hq⟩ := hsteps i e hi
        rw [Nat.zero_add] at hq
        have hless : (es.filter fun x => !(e.born :: S).contains x.born).length = n - 1 := by
          have hsub : (es.filter fun x => !(e.born :: S).contains x.born) = (es.filter fun x => !S.contains x.born).filter fun x => decide (x.born ≠ e.born) := by
            rw [List.filter_filter]
            apply List.filter_congr
            intro x _
            simp [List.contains_eq_mem]
          rw [hsub, filter_one ((List.pairwise_map.1 hnd).filter _) he, hn]
        refine Fin.runw ns keep fs nx us ds (hq S L σ) ?_
        have e1 : es.length - n + 1 = es.length - (n - 1) := by omega
        rw [e1]
        refine ih (n - 1) (by omega) (e.born :: S) cl (upd σ i (some u)) _ hless (by omega) (.inr rfl) ?_ (hH _ _ _)
        · intro j
          rw [upd_eq]
          by_cases hji : j = i
          · subst hji
            rw [if_pos rfl, hi]
            simp [hu]
          · rw [if_neg hji, hσ j]
            cases hj : es[j]? with
            | none => rfl
            | some x =>
              have : x.born ≠ e.born := fun hb => hji (bornOf j i x e hj hi hb)
              simp [this]
  have hall : es.filter (fun e => !([] : List Nat).contains e.born) = es := by
    rw [List.filter_eq_self]
    intro e _; rfl
  refine main es.length [] L0 σ0 s0 (by rw [hall]) (Nat.le_refl _) (.inl rfl) (fun i => by cases es[i]? <;> simp) ?_
  rw [Nat.sub_self]; exact h0
end

section
noncomputable def tput {α : Type} (l : List (Nat × α)) : Tr α :=
  match l with
  | [] => .e
  | p :: r => (tput r).put (some p.2) p.1
theorem tput_get {α : Type} {Q : Nat → α → Prop} : ∀ {l : List (Nat × α)}, (∀ p ∈ l, Q p.1 p.2) → ∀ {k : Nat} {a : α}, (tput l).get k = some a → Q k a := by
  intro l
  induction l with
  | nil => intro _ k a h; cases h
  | cons p l ih =>
    intro hq k a h
    unfold tput at h
    rcases Tr.get_put h with ⟨rfl, e⟩ | ⟨_, h⟩
    · injection e with e; subst e; exact hq p (by simp)
    · exact ih (fun q hm => hq q (by simp [hm])) h

noncomputable def mkTI (P : Program) (t : TypeId) : TI :=
  match P.underlying t, P.info? t with
  | some d, some i => ⟨d, i.size, i.bytes, (match i.zero with | some z => z | none => undef), i.comparable⟩
  | _, _ => ⟨.pointer 0, 0, 0, undef, false⟩
noncomputable def chkTI (P : Program) (t : TypeId) : Bool :=
  match P.underlying t, P.info? t with
  | some _, some i => (match i.zero with | some z => (match closedB z with | true => Nat.beq z.cells.size i.size | false => false) | none => false)
  | _, _ => false
theorem chkTI_ok {P : Program} {t : TypeId} (h : chkTI P t = true) :
    P.underlying t = some (mkTI P t).desc ∧ ∃ info, P.info? t = some info ∧ info.size = (mkTI P t).size ∧ info.bytes = (mkTI P t).bytes ∧ info.zero = some (mkTI P t).zero ∧ info.comparable = (mkTI P t).cmp ∧ closedB (mkTI P t).zero = true ∧ (mkTI P t).zero.cells.size = (mkTI P t).size := by
  unfold chkTI at h
  split at h
  · rename_i d i hu hi
    split at h
    case h_2 => cases h
    rename_i z hz
    split at h
    case h_2 => cases h
    rename_i hc
    have hn := Nat.eq_of_beq_eq_true h
    have he : mkTI P t = ⟨d, i.size, i.bytes, z, i.comparable⟩ := by unfold mkTI; rw [hu, hi]; simp only [hz]
    rw [he]
    exact ⟨hu, i, hi, rfl, rfl, hz, rfl, hc, hn⟩
  · cases h

noncomputable def mkF (P : Program) (f : FuncId) (nv : Nat) : AFn :=
  match P.funcs[f]? with
  | some fn => ⟨(match fn.body with | some b => b | none => .skip), fn.ntmps, nv, fn.results.toList⟩
  | none => ⟨.skip, 0, 0, []⟩
def chkF (P : Program) (f : FuncId) : Bool :=
  match P.funcs[f]? with
  | some fn => (match fn.body with | some _ => (match fn.name == "runtime.NumGoroutine" with | true => false | false => true) | none => false)
  | none => false
theorem chkF_ok {P : Program} {f : FuncId} {nv : Nat} (h : chkF P f = true) :
    ∃ fn, P.funcs[f]? = some fn ∧ fn.body = some (mkF P f nv).body ∧ fn.ntmps = (mkF P f nv).ntmps ∧ fn.results.toList = (mkF P f nv).results ∧ (fn.name == "runtime.NumGoroutine") = false := by
  unfold chkF at h
  split at h
  · rename_i fn hf
    split at h
    case h_2 => cases h
    rename_i b hb
    split at h
    · cases h
    rename_i hn
    have he : mkF P f nv = ⟨b, fn.ntmps, nv, fn.results.toList⟩ := by unfold mkF; rw [hf]; simp only [hb]
    rw [he]
    exact ⟨fn, hf, hb, rfl, rfl, hn⟩
  · cases h

def mkEq (P : Program) (t : TypeId) : List (TypeId × Nat) :=
  match P.underlying t with
  | some (.struct fs) => (fs.toList.filter fun f => decide (f.name ≠ "_")).map fun f => (f.type, f.offset)
  | _ => []
def chkEq (P : Program) (t : TypeId) : Bool :=
  match P.eqGuardType P.depth t with
  | true => false
  | false => (match P.underlying t with | some (.struct _) => (match P.stoodInHeld t with | true => false | false => true) | _ => true)
theorem chkEq_ok {P : Program} {t : TypeId} (h : chkEq P t = true) : P.eqGuardType P.depth t = false ∧
    (∀ fs, P.underlying t = some (.struct fs) → P.stoodInHeld t = false ∧ (fs.toList.filter fun f => decide (f.name ≠ "_")).map (fun f => (f.type, f.offset)) = mkEq P t) := by
  unfold chkEq at h
  split at h
  · cases h
  rename_i hg
  refine ⟨hg, fun fs hfs => ?_⟩
  rw [hfs] at h
  simp only at h
  refine ⟨?_, by unfold mkEq; rw [hfs]⟩
  cases hs : P.stoodInHeld t with
  | false => rfl
  | true => rw [hs] at h; cases h

def chkM1 (P : Program) (t : TypeId) (name : String) (f : FuncId) : Bool :=
  match P.info? t, P.underlying t with
  | some i, some d =>
    (match i.methods.find? (·.name == name) with
      | some m =>
        (match m.path.toList, m.func with
          | [], some (g, ptr) => (match Nat.beq g f with | true => (match d with | .pointer _ => ptr | _ => !ptr) | false => false)
          | _, _ => false)
      | none => false)
  | _, _ => false
theorem chkM1_ok {P : Program} {t : TypeId} {name : String} {f : FuncId} (h : chkM1 P t name f = true) (n : Nat) (v : Value) (w : World) : (method (n + 1) t v name).run P w = .ok (f, v) w := by
  unfold chkM1 at h
  split at h
  case h_2 => cases h
  rename_i i d hi hu
  split at h
  case h_2 => cases h
  rename_i m hm
  split at h
  case h_2 => cases h
  rename_i g ptr hp hf
  split at h
  case h_2 => cases h
  rename_i hg
  have hg := Nat.eq_of_beq_eq_true hg
  subst hg
  have hul : (underlying t).run P w = .ok d w := by simp [Go.underlying, hu]
  have hti : (typeInfo t).run P w = .ok i w := by simp [Go.typeInfo, hi]
  have hrec : ∀ wr, (receiverAt t (.val v) ptr wr).run P w = .ok v w := by
    intro wr
    simp only [receiverAt, Sem.run_bind, hul, Result.andThen_ok]
    cases d with
    | pointer e =>
      have : ptr = true := h
      subst this
      rfl
    | _ =>
      have : (!ptr) = true := h
      cases ptr with
      | true => cases this
      | false => rfl
  simp only [method, Sem.run_bind, hti, Result.andThen_ok, hm, hp, follow, Sem.run_pure, hf, hrec]

def chkMs (P : Program) (t : TypeId) (l : List (String × FuncId)) : Bool :=
  match l with
  | [] => true
  | p :: r => (match chkM1 P t p.1 p.2 with | true => chkMs P t r | false => false)
theorem chkMs_ok {P : Program} {t : TypeId} : ∀ {l : List (String × FuncId)}, chkMs P t l = true → ∀ name f, methOf l name = some f → chkM1 P t name f = true := by
  intro l
  induction l with
  | nil => intro _ name f h; cases h
  | cons p l ih =>
    obtain ⟨n, g⟩ := p
    intro h name f hm
    unfold chkMs at h
    split at h
    case h_2 => cases h
    rename_i h1
    unfold methOf at hm
    split at hm
    · rename_i e; injection hm with hm; subst hm; subst e; exact h1
    · exact ih h name f hm

def allB {α : Type} (p : α → Bool) (l : List α) : Bool := match l with | [] => true | x :: r => (match p x with | true => allB p r | false => false)
theorem allB_ok {α : Type} {p : α → Bool} : ∀ {l : List α}, allB p l = true → ∀ x ∈ l, p x = true := by
  intro l
  induction l with
  | nil => intro _ x h; cases h
  | cons y l ih =>
    intro h x hx
    unfold allB at h
    split at h
    case h_2 => cases h
    rename_i hy
    rcases List.mem_cons.1 hx with rfl | hx
    · exact hy
    · exact ih h x hx

noncomputable def mkTab (P : Program) (tys : List Nat) (fns : List (Nat × Nat)) (es : List Nat) (ms : List (Nat × List (String × FuncId))) (xs : List (Nat × Nat)) (n : Nat) : Tab where
  ty := tput (tys.map fun t => (t, mkTI P t))
  fn := tput (fns.map fun p => (p.1, mkF P p.1 p.2))
  eqs := tput (es.map fun t => (t, mkEq P t))
  meth := tput ms
  ext := tput xs
  nglob := n
def AllP {α : Type} (Q : α → Prop) (l : List α) : Prop := match l with | [] => True | x :: r => Q x ∧ AllP Q r
theorem AllP.of {α : Type} {Q : α → Prop} : ∀ {l : List α}, AllP Q l → ∀ x ∈ l, Q x := by
  intro l
  induction l with
  | nil => intro _ x h; cases h
  | cons y l ih =>
    intro h x hx
    obtain ⟨h1, h2⟩ := h
    rcases List.mem_cons.1 hx with rfl | hx
    · exact h1
    · exact ih h2 x hx
theorem cert_of {P : Program} {tys : List Nat} {fns : List (Nat × Nat)} {es : List Nat} {ms : List (Nat × List (String × FuncId))} {xs : List (Nat × Nat)} {n : Nat} (h1 : allB (chkTI P) tys = true) (h2 : allB (fun p : Nat × Nat => chkF P p.1) fns = true)
    (h3 : allB (chkEq P) es = true) (h4 : allB (fun p : Nat × List (String × FuncId) => chkMs P p.1 p.2) ms = true) (h6 : AllP (fun p : Nat × Nat => ExtOk P p.1 p.2) xs) (h5 : P.follows .mixedOrders = true) : Cert P (mkTab P tys fns es ms xs n) where
  ty := fun t ti h => tput_get (Q := fun t ti => P.underlying t = some ti.desc ∧ ∃ info, P.info? t = some info ∧ info.size = ti.size ∧ info.bytes = ti.bytes ∧ info.zero = some ti.zero ∧ info.comparable = ti.cmp ∧ closedB ti.zero = true ∧ ti.zero.cells.size = ti.size)
    (by intro p hp; obtain ⟨t, ht, rfl⟩ := List.mem_map.1 hp; exact chkTI_ok (allB_ok h1 t ht)) h
  fn := fun f a h => tput_get (Q := fun f (a : AFn) => ∃ fn, P.funcs[f]? = some fn ∧ fn.body = some a.body ∧ fn.ntmps = a.ntmps ∧ fn.results.toList = a.results ∧ (fn.name == "runtime.NumGoroutine") = false)
    (by intro p hp; obtain ⟨q, hq, rfl⟩ := List.mem_map.1 hp; exact chkF_ok (allB_ok h2 q hq)) h
  eqs := fun t l h => tput_get (Q := fun t l => P.eqGuardType P.depth t = false ∧ (∀ fs, P.underlying t = some (.struct fs) → P.stoodInHeld t = false ∧ (fs.toList.filter fun f => decide (f.name ≠ "_")).map (fun f => (f.type, f.offset)) = l))
    (by intro p hp; obtain ⟨t, ht, rfl⟩ := List.mem_map.1 hp; exact chkEq_ok (allB_ok h3 t ht)) h
  meth := fun t l name f h hm v w => by
    have := tput_get (Q := fun t l => chkMs P t l = true) (fun p hp => allB_ok h4 p hp) h
    have e : P.types.size + Made.depth = (P.types.size + (Made.depth - 1)) + 1 := by simp only [Made.depth]
    rw [e]
    exact chkM1_ok (chkMs_ok this name f hm) _ v w
  ext := fun f k h => tput_get (Q := fun f k => ExtOk P f k) (fun p hp => h6.of p hp) h
  mixed := h5
end

section
def subC (c : Code) (i : Nat) : Code :=
  match c with
  | .seq a b => (match i with | 0 => a | _ + 1 => b)
  | .cond _ a b => (match i with | 0 => a | _ + 1 => b)
  | .rangeFunc _ _ a b => (match i with | 0 => a | _ + 1 => b)
  | .block _ b => b
  | .loop b => b
  | .scope b => b
  | c => c
def codeAt (c : Code) (p : List Nat) : Code := match p with | [] => c | i :: r => codeAt (subC c i) r
def bodyOf (P : Program) (f : Nat) : Code := match P.funcs[f]? with | some fn => (match fn.body with | some b => b | none => .skip) | none => .skip
def opsOf (c : Code) : Array Oper := match c with | .region _ ops _ => ops | _ => #[]
noncomputable def iR (c : Code) (i : Nat) : AItem := .inRegion (opsOf c) (dropN (opsOf c).toList i)
def iD (c : Code) (t : Nat) (V : List (Nat × Value)) (base : Nat) : AItem := .inDraw (opsOf c) t V base
def keys {α : Type} (l : List (Nat × α)) : List Nat := match l with | [] => [] | p :: r => p.1 :: keys r

def vt : Value := .bool true
def vf : Value := .bool false
def vi (n : Nat) : Value := .int .i64 (.ofNat n)
def vb (n : Nat) : Value := .int .u8 (.ofNat n)
def vu (n : Nat) : Value := .int .u64 (.ofNat n)
def bytesOf (l : List Nat) : List UInt8 := match l with | [] => [] | b :: r => UInt8.ofNat b :: bytesOf r
def vs (l : List Nat) : Value := .string ⟨⟨bytesOf l⟩⟩
def vp : Value := .pointer none
def va (b o : Nat) : Value := .pointer (some ⟨b, o, none⟩)
def vx : Value := .float .f64 0
def vm (b n : Nat) : Value := .slice (some ⟨b, 0, none⟩) n n
def sm (b n : Nat) : Option Value := some (.slice (some ⟨b, 0, none⟩) n n)
def vn : Value := .slice none 0 0
def vl (b o l c : Nat) : Value := .slice (some ⟨b, o, none⟩) l c
def vz : Value := .nilIface
def vg (l : List Value) : Value := .agg ⟨l⟩
def vq (l : List Value) : Value := .tuple ⟨l⟩
def no : Option Value := none
def so (v : Value) : Option Value := some v
def si (n : Nat) : Option Value := some (.int .i64 (.ofNat n))
def st : Option Value := some (.bool true)
def sf : Option Value := some (.bool false)
def sa (b o : Nat) : Option Value := some (.pointer (some ⟨b, o, none⟩))
def sl (b o l c : Nat) : Option Value := some (.slice (some ⟨b, o, none⟩) l c)
def ob (l : List Value) : AObj := .cells l (.fixed false)
def og (l : List Value) (e f b t : Nat) : AObj := .cells l (.grown ⟨e, f, b, t⟩)

def tv1 (n : Nat) : Value := match n with | 0 => vf | 1 => vt | n + 2 => vi n
def tv (l : List Nat) : List Value := match l with | [] => [] | n :: r => tv1 n :: tv r
def to1 (n : Nat) : Option Value := match n with | 0 => none | 1 => sf | 2 => st | n + 3 => si n
def to (l : List Nat) : List (Option Value) := match l with | [] => [] | n :: r => to1 n :: to r
def tl (n : Nat) (l : List Nat) : List Value := match l with | [] => [] | b :: r => vm b n :: tl n r
def zrp (n x : Nat) : List Nat := Nat.rec (motive := fun _ => List Nat) [] (fun _ r => x :: r) n
def zF (fn nt : Nat) (vars : List (Option Value)) (over : List (Nat × Value)) (todo : List AItem) : AFrame := ⟨fn, nt, vars, over, todo, [], .run, .normal, none⟩
abbrev LH := List (Nat × AObj)
abbrev LG := List (Nat × List Nat)
abbrev LF := List AFrame
noncomputable def rmv {α : Type} (l : List (Nat × α)) : List Nat → List (Nat × α) :=
  List.rec (motive := fun _ => List Nat → List (Nat × α)) (fun _ => [])
    (fun p _ ih rs => List.rec (motive := fun _ => List (Nat × α)) (p :: ih []) (fun r rs' _ => Bool.rec (motive := fun _ => List (Nat × α)) (p :: ih rs) (ih rs') (Nat.beq p.1 r)) rs) l
noncomputable def opAt (c : Code) (i : Nat) : Oper := match dropN (opsOf c).toList i with | o :: _ => o | [] => default
noncomputable def sg (l : List (Option Value)) : Nat → Option Value := fun j => match nth l j with | some o => o | none => none
end

end Go.Proofs.YtnolnidldipfpaaGreatDoor.Sim
