/- A machine that runs closed calls of the program by the kernel: tables; memos; renaming; short words. No condition. -/
import Derived.Test.YthcadcdfoenclaaGreatDoorSimF
namespace Go.Proofs.YthcadcdfoenclaaGreatDoor.Sim
open Go Go.RowKit

section
noncomputable def tput {α : Type} (l : List (Nat × α)) : Tr α :=
  match l with
  | [] => .e
  | p :: r => (tput r).put (some p.2) p.1
theorem tput_get {α : Type} {Q : Nat → α → Prop} : ∀ {l : List (Nat × α)}, (∀ p ∈ l, Q p.1 p.2) → ∀ {k : Nat} {a : α}, (tput l).get k = some a → Q k a := by
  intro l
  induction l with
  | nil => intro _ k a h; cases h
  | cons p l ih =>
    intro hq k a h
    unfold tput at h
    rcases Tr.get_put h with ⟨rfl, e⟩ | ⟨_, h⟩
    · injection e with e; subst e; exact hq p (by simp)
    · exact ih (fun q hm => hq q (by simp [hm])) h

noncomputable def mkTI (P : Program) (t : TypeId) : TI :=
  match P.underlying t, P.info? t with
  | some d, some i => ⟨d, i.size, i.bytes, (match i.zero with | some z => z | none => undef), i.comparable⟩
  | _, _ => ⟨.pointer 0, 0, 0, undef, false⟩
noncomputable def chkTI (P : Program) (t : TypeId) : Bool :=
  match P.underlying t, P.info? t with
  | some _, some i => (match i.zero with | some z => (match closedB z with | true => Nat.beq z.cells.size i.size | false => false) | none => false)
  | _, _ => false
theorem chkTI_ok {P : Program} {t : TypeId} (h : chkTI P t = true) :
    P.underlying t = some (mkTI P t).desc ∧ ∃ info, P.info? t = some info ∧ info.size = (mkTI P t).size ∧ info.bytes = (mkTI P t).bytes ∧ info.zero = some (mkTI P t).zero ∧ info.comparable = (mkTI P t).cmp ∧ closedB (mkTI P t).zero = true ∧ (mkTI P t).zero.cells.size = (mkTI P t).size := by
  unfold chkTI at h
  split at h
  · rename_i d i hu hi
    split at h
    case h_2 => cases h
    rename_i z hz
    split at h
    case h_2 => cases h
    rename_i hc
    have hn := Nat.eq_of_beq_eq_true h
    have he : mkTI P t = ⟨d, i.size, i.bytes, z, i.comparable⟩ := by unfold mkTI; rw [hu, hi]; simp only [hz]
    rw [he]
    exact ⟨hu, i, hi, rfl, rfl, hz, rfl, hc, hn⟩
  · cases h

noncomputable def mkF (P : Program) (f : FuncId) (nv : Nat) : AFn :=
  match P.funcs[f]? with
  | some fn => ⟨(match fn.body with | some b => b | none => .skip), fn.ntmps, nv, fn.results.toList⟩
  | none => ⟨.skip, 0, 0, []⟩
def chkF (P : Program) (f : FuncId) : Bool :=
  match P.funcs[f]? with
  | some fn => (match fn.body with | some _ => (match fn.name == "runtime.NumGoroutine" with | true => false | false => true) | none => false)
  | none => false
theorem chkF_ok {P : Program} {f : FuncId} {nv : Nat} (h : chkF P f = true) :
    ∃ fn, P.funcs[f]? = some fn ∧ fn.body = some (mkF P f nv).body ∧ fn.ntmps = (mkF P f nv).ntmps ∧ fn.results.toList = (mkF P f nv).results ∧ (fn.name == "runtime.NumGoroutine") = false := by
  unfold chkF at h
  split at h
  · rename_i fn hf
    split at h
    case h_2 => cases h
    rename_i b hb
    split at h
    · cases h
    rename_i hn
    have he : mkF P f nv = ⟨b, fn.ntmps, nv, fn.results.toList⟩ := by unfold mkF; rw [hf]; simp only [hb]
    rw [he]
    exact ⟨fn, hf, hb, rfl, rfl, hn⟩
  · cases h

def mkEq (P : Program) (t : TypeId) : List (TypeId × Nat) :=
  match P.underlying t with
  | some (.struct fs) => (fs.toList.filter fun f => decide (f.name ≠ "_")).map fun f => (f.type, f.offset)
  | _ => []
def chkEq (P : Program) (t : TypeId) : Bool :=
  match P.eqGuardType P.depth t with
  | true => false
  | false => (match P.underlying t with | some (.struct _) => (match P.stoodInHeld t with | true => false | false => true) | _ => true)
theorem chkEq_ok {P : Program} {t : TypeId} (h : chkEq P t = true) : P.eqGuardType P.depth t = false ∧
    (∀ fs, P.underlying t = some (.struct fs) → P.stoodInHeld t = false ∧ (fs.toList.filter fun f => decide (f.name ≠ "_")).map (fun f => (f.type, f.offset)) = mkEq P t) := by
  unfold chkEq at h
  split at h
  · cases h
  rename_i hg
  refine ⟨hg, fun fs hfs => ?_⟩
  rw [hfs] at h
  simp only at h
  refine ⟨?_, by unfold mkEq; rw [hfs]⟩
  cases hs : P.stoodInHeld t with
  | false => rfl
  | true => rw [hs] at h; cases h

def chkM1 (P : Program) (t : TypeId) (name : String) (f : FuncId) : Bool :=
  match P.info? t, P.underlying t with
  | some i, some d =>
    (match i.methods.find? (·.name == name) with
      | some m =>
        (match m.path.toList, m.func with
          | [], some (g, ptr) => (match Nat.beq g f with | true => (match d with | .pointer _ => ptr | _ => !ptr) | false => false)
          | _, _ => false)
      | none => false)
  | _, _ => false
theorem chkM1_ok {P : Program} {t : TypeId} {name : String} {f : FuncId} (h : chkM1 P t name f = true) (n : Nat) (v : Value) (w : World) : (method (n + 1) t v name).run P w = .ok (f, v) w := by
  unfold chkM1 at h
  split at h
  case h_2 => cases h
  rename_i i d hi hu
  split at h
  case h_2 => cases h
  rename_i m hm
  split at h
  case h_2 => cases h
  rename_i g ptr hp hf
  split at h
  case h_2 => cases h
  rename_i hg
  have hg := Nat.eq_of_beq_eq_true hg
  subst hg
  have hul : (underlying t).run P w = .ok d w := by simp [Go.underlying, hu]
  have hti : (typeInfo t).run P w = .ok i w := by simp [Go.typeInfo, hi]
  have hrec : ∀ wr, (receiverAt t (.val v) ptr wr).run P w = .ok v w := by
    intro wr
    simp only [receiverAt, Sem.run_bind, hul, Result.andThen_ok]
    cases d with
    | pointer e =>
      have : ptr = true := h
      subst this
      rfl
    | _ =>
      have : (!ptr) = true := h
      cases ptr with
      | true => cases this
      | false => rfl
  simp only [method, Sem.run_bind, hti, Result.andThen_ok, hm, hp, follow, Sem.run_pure, hf, hrec]

def chkMs (P : Program) (t : TypeId) (l : List (String × FuncId)) : Bool :=
  match l with
  | [] => true
  | p :: r => (match chkM1 P t p.1 p.2 with | true => chkMs P t r | false => false)
theorem chkMs_ok {P : Program} {t : TypeId} : ∀ {l : List (String × FuncId)}, chkMs P t l = true → ∀ name f, methOf l name = some f → chkM1 P t name f = true := by
  intro l
  induction l with
  | nil => intro _ name f h; cases h
  | cons p l ih =>
    obtain ⟨n, g⟩ := p
    intro h name f hm
    unfold chkMs at h
    split at h
    case h_2 => cases h
    rename_i h1
    unfold methOf at hm
    split at hm
    · rename_i e; injection hm with hm; subst hm; subst e; exact h1
    · exact ih h name f hm

def allB {α : Type} (p : α → Bool) (l : List α) : Bool := match l with | [] => true | x :: r => (match p x with | true => allB p r | false => false)
theorem allB_ok {α : Type} {p : α → Bool} : ∀ {l : List α}, allB p l = true → ∀ x ∈ l, p x = true := by
  intro l
  induction l with
  | nil => intro _ x h; cases h
  | cons y l ih =>
    intro h x hx
    unfold allB at h
    split at h
    case h_2 => cases h
    rename_i hy
    rcases List.mem_cons.1 hx with rfl | hx
    · exact hy
    · exact ih h x hx

noncomputable def mkTab (P : Program) (tys : List Nat) (fns : List (Nat × Nat)) (es : List Nat) (ms : List (Nat × List (String × FuncId))) (xs : List (Nat × Nat)) (n : Nat) : Tab where
  ty := tput (tys.map fun t => (t, mkTI P t))
  fn := tput (fns.map fun p => (p.1, mkF P p.1 p.2))
  eqs := tput (es.map fun t => (t, mkEq P t))
  meth := tput ms
  ext := tput xs
  nglob := n
def AllP {α : Type} (Q : α → Prop) (l : List α) : Prop := match l with | [] => True | x :: r => Q x ∧ AllP Q r
theorem AllP.of {α : Type} {Q : α → Prop} : ∀ {l : List α}, AllP Q l → ∀ x ∈ l, Q x := by
  intro l
  induction l with
  | nil => intro _ x h; cases h
  | cons y l ih =>
    intro h x hx
    obtain ⟨h1, h2⟩ := h
    rcases List.mem_cons.1 hx with rfl | hx
    · exact h1
    · exact ih h2 x hx
theorem cert_of {P : Program} {tys : List Nat} {fns : List (Nat × Nat)} {es : List Nat} {ms : List (Nat × List (String × FuncId))} {xs : List (Nat × Nat)} {n : Nat} (h1 : allB (chkTI P) tys = true) (h2 : allB (fun p : Nat × Nat => chkF P p.1) fns = true)
    (h3 : allB (chkEq P) es = true) (h4 : allB (fun p : Nat × List (String × FuncId) => chkMs P p.1 p.2) ms = true) (h6 : AllP (fun p : Nat × Nat => ExtOk P p.1 p.2) xs) (h5 : P.follows .mixedOrders = true) : Cert P (mkTab P tys fns es ms xs n) where
  ty := fun t ti h => tput_get (Q := fun t ti => P.underlying t = some ti.desc ∧ ∃ info, P.info? t = some info ∧ info.size = ti.size ∧ info.bytes = ti.bytes ∧ info.zero = some ti.zero ∧ info.comparable = ti.cmp ∧ closedB ti.zero = true ∧ ti.zero.cells.size = ti.size)
    (by intro p hp; obtain ⟨t, ht, rfl⟩ := List.mem_map.1 hp; exact chkTI_ok (allB_ok h1 t ht)) h
  fn := fun f a h => tput_get (Q := fun f (a : AFn) => ∃ fn, P.funcs[f]? = some fn ∧ fn.body = some a.body ∧ fn.ntmps = a.ntmps ∧ fn.results.toList = a.results ∧ (fn.name == "runtime.NumGoroutine") = false)
    (by intro p hp; obtain ⟨q, hq, rfl⟩ := List.mem_map.1 hp; exact chkF_ok (allB_ok h2 q hq)) h
  eqs := fun t l h => tput_get (Q := fun t l => P.eqGuardType P.depth t = false ∧ (∀ fs, P.underlying t = some (.struct fs) → P.stoodInHeld t = false ∧ (fs.toList.filter fun f => decide (f.name ≠ "_")).map (fun f => (f.type, f.offset)) = l))
    (by intro p hp; obtain ⟨t, ht, rfl⟩ := List.mem_map.1 hp; exact chkEq_ok (allB_ok h3 t ht)) h
  meth := fun t l name f h hm v w => by
    have := tput_get (Q := fun t l => chkMs P t l = true) (fun p hp => allB_ok h4 p hp) h
    have e : P.types.size + Made.depth = (P.types.size + (Made.depth - 1)) + 1 := by simp only [Made.depth]
    rw [e]
    exact chkM1_ok (chkMs_ok this name f hm) _ v w
  ext := fun f k h => tput_get (Q := fun f k => ExtOk P f k) (fun p hp => h6.of p hp) h
  mixed := h5
  memo := fun _ _ h => by cases h
end

section
variable {P : Program} {T : Tab}

noncomputable def Tab.aT (T : Tab) (ν : Mu) : Tab := { T with anc := ν }
theorem Cert.aT (C : Cert P T) (ν : Mu) : Cert P (T.aT ν) := ⟨C.ty, C.fn, C.eqs, C.meth, C.ext, C.mixed, C.memo⟩
noncomputable def memT (l : List (Nat × List Memo)) : Tr (List Memo) := match l with | [] => .e | (f, ms) :: r => (memT r).put (some ms) f
noncomputable def Tab.wM (T : Tab) (l : List (Nat × List Memo)) : Tab := { T with memo := memT l }
theorem memT_get {l : List (Nat × List Memo)} {f : Nat} {ms : List Memo} (h : (memT l).get f = some ms) : (f, ms) ∈ l := by
  induction l with
  | nil => cases h
  | cons p l ih =>
    obtain ⟨a, xs⟩ := p
    unfold memT at h
    rcases Tr.get_put h with ⟨rfl, e⟩ | ⟨_, h⟩
    · injection e with e; subst e; exact List.mem_cons_self
    · exact List.mem_cons_of_mem _ (ih h)
theorem Cert.wM (C : Cert P T) {l : List (Nat × List Memo)} (h : AllP (fun p : Nat × List Memo => AllP (MemoOk P T.nglob p.1) p.2) l) : Cert P (T.wM l) :=
  ⟨C.ty, C.fn, C.eqs, C.meth, C.ext, C.mixed, fun f ms hf m hm => (h.of (f, ms) (memT_get hf)).of m hm⟩

def Reach (P : Program) (T : Tab) (s s' : ASt) : Prop := ∀ {B : Nat} {μ : Mu} {fr' : Frame} {cs' : List Frame} {w : World} (cs0 : List Frame), SRel T B μ s fr' cs' w → Goes P T B cs0 (lone fr' (cs' ++ cs0) w) w s'
theorem Reach.runs (C : Cert P T) {s s' : ASt} (ns keep fs : List Nat) (nx : Nat) (h : gcS keep fs nx (aruns T ns s) = s') : Reach P T s s' := by
  intro B μ fr' cs' w cs0 hs
  obtain ⟨μ1, fr1, cs1, w1, a, b, c⟩ := aruns_ok (cs0 := cs0) C ns hs
  have a := gcS_ok (keep := keep) (fs := fs) (nx := nx) a
  rw [h] at a
  exact ⟨μ1, fr1, cs1, w1, a, b, c⟩
theorem Reach.trans {s s1 s2 : ASt} (h : Reach P T s s1) (k : Reach P T s1 s2) : Reach P T s s2 := by
  intro B μ fr' cs' w cs0 hs
  exact (h cs0 hs).trans fun h2 => k cs0 h2

noncomputable def picks (rs : List ResultVar) (vars : List (Option Value)) (over : List (Nat × Value)) : Option (List (Nat × Value)) :=
  match rs with
  | [] => some []
  | .tmp t :: r => (match tget vars over t, picks r vars over with | some v, some l => some ((t, v) :: l) | _, _ => none)
  | .cell t _ :: r => (match tget vars over t, picks r vars over with | some v, some l => some ((t, v) :: l) | _, _ => none)
theorem picks_ok : ∀ {rs : List ResultVar} {vars : List (Option Value)} {over : List (Nat × Value)} {l : List (Nat × Value)}, picks rs vars over = some l → ∀ {t : Nat} {v : Value}, alook l t = some v → tget vars over t = some v := by
  intro rs
  induction rs with
  | nil => intro vars over l h t v hv; injection h with h; subst h; cases hv
  | cons r rs ih =>
    intro vars over l h t v hv
    cases r with
    | tmp a =>
      unfold picks at h
      split at h
      · rename_i x k h1 h2
        injection h with h; subst h
        rw [alook_cons] at hv
        split at hv
        · rename_i e; subst e; injection hv with hv; subst hv; exact h1
        · exact ih h2 hv
      · cases h
    | cell a ty =>
      unfold picks at h
      split at h
      · rename_i x k h1 h2
        injection h with h; subst h
        rw [alook_cons] at hv
        split at hv
        · rename_i e; subst e; injection hv with hv; subst hv; exact h1
        · exact ih h2 hv
      · cases h
noncomputable def mStart (fr : AFrame) (m : Memo) : ASt := { fr := fr, cs := [], A := m.A0 }
noncomputable def mEnd (rs : List ResultVar) (s : ASt) : Option (Nat × Nat × List (Nat × Value) × AMem) :=
  match s with
  | ⟨⟨fn, nt, vars, over, _, [], .returning, .normal, none⟩, [], A⟩ => (match picks rs vars over with | some l => some (fn, nt, l, A) | none => none)
  | _ => none
theorem memo_ok (C : Cert P T) {f : FuncId} {m : Memo} {fr : AFrame} (rs : List ResultVar) (he : aEnter T f m.args .normal = some fr)
    (hr : ∀ ν, ∃ s', Reach P (T.aT ν) (mStart fr m) s' ∧ mEnd rs s' = some (f, m.nt, m.res, m.A1)) : MemoOk P T.nglob f m := by
  intro B μ w args' cs0 R G ha
  obtain ⟨s', h1, h2⟩ := hr μ
  have hs : SRel (T.aT μ) B μ (mStart fr m) (Frame.enter P f args' .normal) [] w :=
    ⟨R, ⟨G, Mu.Le.refl μ⟩, m.n0, Nat.le_refl _, .plain (enter_ok (C.aT μ) ha (show aEnter (T.aT μ) f m.args .normal = some fr from he)), .nil _⟩
  obtain ⟨μ1, fr2, cs2, w2, ⟨R2, G2, lo, hlo, hf, hst⟩, b, c⟩ := h1 cs0 hs
  unfold mEnd at h2
  split at h2
  case h_2 => cases h2
  rename_i fn nt vars over td A
  split at h2
  case h_2 => cases h2
  rename_i l hl
  injection h2 with h2
  injection h2 with h2 h3
  injection h3 with h3 h4
  injection h4 with h4 h5
  subst h2; subst h3; subst h4; subst h5
  cases hst
  cases hf with
  | draw core run => cases run
  | plain hp =>
    refine ⟨μ1, fr2, w2, G2.2, R2, ⟨hp.core.fn, hp.core.kind, ?_, hp.core.defers.nil_left, ?_⟩, ⟨hp.tm.1, fun t v hv => hp.tm.2 t v (picks_ok hl hv)⟩, b, c⟩
    · have := hp.core.round
      generalize fr2.roundOf = x at this
      cases this; rfl
    · have := hp.core.mode
      generalize fr2.mode = x at this
      cases this; rfl
noncomputable def mRun (T : Tab) (f : FuncId) (m : Memo) (rs : List ResultVar) (ns keep fs : List Nat) : Option (Nat × Nat × List (Nat × Value) × AMem) :=
  match aEnter T f m.args .normal with
  | some fr => mEnd rs (gcS keep fs m.n1 (aruns T ns (mStart fr m)))
  | none => none
theorem memo_one (C : Cert P T) {f : FuncId} {m : Memo} (rs : List ResultVar) (ns keep fs : List Nat) (h : ∀ ν, mRun (T.aT ν) f m rs ns keep fs = some (f, m.nt, m.res, m.A1)) : MemoOk P T.nglob f m := by
  have h0 := h fun _ => none
  unfold mRun at h0
  split at h0
  case h_2 => cases h0
  rename_i fr he
  have hr : ∀ ν, ∃ s', Reach P (T.aT ν) (mStart fr m) s' ∧ mEnd rs s' = some (f, m.nt, m.res, m.A1) := by
    intro ν
    refine ⟨_, Reach.runs (C.aT ν) ns keep fs m.n1 rfl, ?_⟩
    have h1 := h ν
    unfold mRun at h1
    have he1 : aEnter (T.aT ν) f m.args .normal = some fr := he
    rw [he1] at h1
    exact h1
  intro B μ w args'
  exact memo_ok C rs he hr
end

section
variable {P : Program} {T : Tab}

noncomputable def tauT (tbl : List (Nat × Nat)) (k : Nat) : Option Nat :=
  match alook tbl k with
  | some i => some i
  | none => (match notVal k tbl with | true => some k | false => none)
def okPerm (N nx : Nat) (l : List (Nat × Nat)) : Bool :=
  match l with
  | [] => true
  | (k, b) :: r => (match Nat.blt k N, Nat.blt b N, Nat.blt b nx, notVal b r with | false, false, true, true => okPerm N nx r | _, _, _, _ => false)
theorem okPerm_ok {N nx : Nat} : ∀ {l : List (Nat × Nat)}, okPerm N nx l = true → (∀ k b, alook l k = some b → N ≤ k ∧ N ≤ b ∧ b < nx) ∧ (∀ k k' b, alook l k = some b → alook l k' = some b → k = k') := by
  intro l
  induction l with
  | nil => intro _; exact ⟨fun k b h => (by cases h), fun k k' b h => (by cases h)⟩
  | cons p l ih =>
    obtain ⟨a, c⟩ := p
    intro h
    unfold okPerm at h
    split at h
    · rename_i h1 h2 h3 h4
      obtain ⟨i1, i2⟩ := ih h
      refine ⟨fun k b hk => ?_, fun k k' b hk hk' => ?_⟩
      · rw [alook_cons] at hk
        split at hk
        · rename_i e; subst e; injection hk with hk; subst hk; exact ⟨blt_ge h1, blt_ge h2, blt_lt h3⟩
        · exact i1 k b hk
      · rw [alook_cons] at hk hk'
        split at hk
        · rename_i e
          injection hk with hk; subst hk
          split at hk'
          · rename_i e'; rw [← e, ← e']
          · exact absurd hk' (notVal_ok h4 k')
        · split at hk'
          · injection hk' with hk'; subst hk'
            exact absurd hk (notVal_ok h4 k)
          · exact i2 k k' b hk hk'
    · cases h
theorem tauT_inj {N nx : Nat} {tbl : List (Nat × Nat)} (h : okPerm N nx tbl = true) {k k' b : Nat} (h1 : tauT tbl k = some b) (h2 : tauT tbl k' = some b) : k = k' := by
  obtain ⟨i1, i2⟩ := okPerm_ok h
  unfold tauT at h1 h2
  split at h1
  · rename_i i hi
    injection h1 with h1; subst h1
    split at h2
    · rename_i j hj
      injection h2 with h2; subst h2
      exact i2 k k' _ hi hj
    · split at h2
      · rename_i hn
        injection h2 with h2; subst h2
        exact absurd hi (notVal_ok hn k)
      · cases h2
  · split at h1
    · rename_i hn
      injection h1 with h1; subst h1
      split at h2
      · rename_i j hj
        injection h2 with h2; subst h2
        exact absurd hj (notVal_ok hn k')
      · split at h2
        · injection h2 with h2; exact h2.symm
        · cases h2
    · cases h1
theorem notVal_of {b : Nat} : ∀ {l : List (Nat × Nat)}, (∀ p ∈ l, p.2 ≠ b) → notVal b l = true := by
  intro l
  induction l with
  | nil => intro _; rfl
  | cons p l ih =>
    intro h
    unfold notVal
    split
    · rename_i e; exact absurd (Nat.eq_of_beq_eq_true e) (h p (by simp))
    · exact ih fun q hq => h q (List.mem_cons_of_mem _ hq)
theorem okPerm_vals {N nx : Nat} : ∀ {l : List (Nat × Nat)}, okPerm N nx l = true → ∀ p ∈ l, N ≤ p.1 ∧ N ≤ p.2 := by
  intro l
  induction l with
  | nil => intro _ p hp; cases hp
  | cons q l ih =>
    obtain ⟨a, c⟩ := q
    intro h p hp
    unfold okPerm at h
    split at h
    · rename_i h1 h2 h3 h4
      rcases List.mem_cons.1 hp with rfl | hp
      · exact ⟨blt_ge h1, blt_ge h2⟩
      · exact ih h p hp
    · cases h
theorem tauT_low {N nx : Nat} {tbl : List (Nat × Nat)} (h : okPerm N nx tbl = true) {g : Nat} (hg : g < N) : tauT tbl g = some g := by
  unfold tauT
  split
  · rename_i i hi
    have := ((okPerm_ok h).1 g i hi).1
    omega
  · rw [notVal_of fun p hp e => by have := (okPerm_vals h p hp).2; omega]
theorem tauT_lt {N nx : Nat} {tbl : List (Nat × Nat)} (h : okPerm N nx tbl = true) {k b : Nat} (h1 : tauT tbl k = some b) (hk : k < nx) : b < nx := by
  unfold tauT at h1
  split at h1
  · rename_i i hi
    injection h1 with h1; subst h1
    exact ((okPerm_ok h).1 k _ hi).2.2
  · split at h1
    · injection h1 with h1; subst h1; exact hk
    · cases h1

noncomputable def renOO (τ : Nat → Option Nat) (r : Value → Option Value) (fs : List Nat) (o : AObj) : Option AObj :=
  match o with
  | .cells xs (.fixed b) => (match renL r xs with | some ys => some (.cells ys (.fixed b)) | none => none)
  | .cells xs (.grown g) => (match mem g.fam fs, τ g.fam, renL r xs with | true, some j, some ys => (match Nat.blt j 16000000 with | true => some (.cells ys (.grown { esz := g.esz, fam := j, base := g.base, ty := g.ty })) | false => none) | _, _, _ => none)
  | .map es clock => (match renE r es with | some fs => some (.map fs clock) | none => none)
  | _ => none
noncomputable def heapR (τ : Nat → Option Nat) (r : Value → Option Value) (fs : List Nat) (h : Tr AObj) (keep : List Nat) : Option (Tr AObj) :=
  match keep with
  | [] => some .e
  | k :: t =>
    match h.get k with
    | none => heapR τ r fs h t
    | some o => (match τ k, renOO τ r fs o, heapR τ r fs h t with | some i, some o', some h' => some (h'.put (some o') i) | _, _, _ => none)
noncomputable def lmap (τ : Nat → Option Nat) (l : List Nat) : List Nat := match l with | [] => [] | k :: t => (match τ k with | some i => i :: lmap τ t | none => lmap τ t)
noncomputable def famR (τ : Nat → Option Nat) (t : Tr (List Nat)) (fs : List Nat) : Tr (List Nat) :=
  match fs with
  | [] => .e
  | f :: r => (match t.get f, τ f with | some l, some j => (famR τ t r).put (some (lmap τ l)) j | _, _ => famR τ t r)
noncomputable def renVars (r : Value → Option Value) (l : List (Option Value)) : Option (List (Option Value)) :=
  match l with
  | [] => some []
  | none :: t => (match renVars r t with | some s => some (none :: s) | none => none)
  | some v :: t => (match r v, renVars r t with | some u, some s => some (some u :: s) | _, _ => none)
def plainItems (l : List AItem) : Bool :=
  match l with
  | [] => true
  | .code _ :: t | .inBlock _ :: t | .inLoop _ :: t | .inScope _ :: t | .inRegion _ _ :: t => plainItems t
  | _ => false
noncomputable def renS (N : Nat) (tbl : List (Nat × Nat)) (keep fs : List Nat) (s : ASt) : Option ASt :=
  match s with
  | ⟨⟨fn, nt, vars, over, todo, [], .run, kind, none⟩, [], A⟩ =>
    (match okPerm N A.next tbl, plainItems todo, renVars (ren (tauT tbl) 4) vars, renA (ren (tauT tbl) 4) over, heapR (tauT tbl) (ren (tauT tbl) 4) fs A.heap keep with
      | true, true, some vs, some ov, some h => some ⟨⟨fn, nt, vs, ov, todo, [], .run, kind, none⟩, [], { heap := h, next := A.next, fams := famR (tauT tbl) A.fams fs }⟩
      | _, _, _, _, _ => none)
  | _ => none

theorem heapR_get {τ : Nat → Option Nat} {r : Value → Option Value} {fs : List Nat} {h : Tr AObj} : ∀ {keep : List Nat} {h' : Tr AObj}, heapR τ r fs h keep = some h' → ∀ {i : Nat} {o' : AObj}, h'.get i = some o' → ∃ k o, τ k = some i ∧ h.get k = some o ∧ renOO τ r fs o = some o' := by
  intro keep
  induction keep with
  | nil => intro h' hh i o' hi; injection hh with hh; subst hh; cases hi
  | cons k keep ih =>
    intro h' hh i o' hi
    unfold heapR at hh
    split at hh
    · exact ih hh hi
    · rename_i o ho
      split at hh
      · rename_i j o2 h2 h3 h4 h5
        injection hh with hh; subst hh
        rcases Tr.get_put hi with ⟨rfl, e⟩ | ⟨_, hi⟩
        · injection e with e; subst e; exact ⟨k, o, h3, ho, h4⟩
        · exact ih h5 hi
      · cases hh
theorem lmap_mem {τ : Nat → Option Nat} {k i : Nat} (h : τ k = some i) : ∀ {l : List Nat}, k ∈ l → i ∈ lmap τ l := by
  intro l
  induction l with
  | nil => intro hk; cases hk
  | cons a l ih =>
    intro hk
    unfold lmap
    rcases List.mem_cons.1 hk with rfl | hk
    · rw [h]; exact List.mem_cons_self
    · split
      · exact List.mem_cons_of_mem _ (ih hk)
      · exact ih hk
theorem famR_get {τ : Nat → Option Nat} (hτ : ∀ {k k' b : Nat}, τ k = some b → τ k' = some b → k = k') {t : Tr (List Nat)} : ∀ {fs : List Nat} {f j : Nat} {l : List Nat}, f ∈ fs → τ f = some j → j < 16000000 → t.get f = some l → (famR τ t fs).get j = some (lmap τ l) := by
  intro fs
  induction fs with
  | nil => intro f j l hf; cases hf
  | cons a fs ih =>
    intro f j l hf hj hlt hl
    unfold famR
    by_cases e : a = f
    · subst e; rw [hl, hj]; exact Tr.get_put_there _ _ _ (by omega)
    · have hf : f ∈ fs := by
        rcases List.mem_cons.1 hf with h | h
        · exact absurd h.symm e
        · exact h
      split
      · rename_i l2 j2 _ hj2
        rw [Tr.get_put_other _ _ _ _ (by intro h; subst h; exact e (hτ hj2 hj))]; exact ih hf hj hlt hl
      · exact ih hf hj hlt hl
def famE (τ : Nat → Option Nat) (e : Ent) : Ent := { e with gr := e.gr.map fun g => { g with fam := (τ g.fam).getD g.fam } }
theorem famE_eq (τ : Nat → Option Nat) (e : Ent) : EEq e (famE τ e) := by
  refine ⟨rfl, rfl, rfl, ?_⟩
  cases h : e.gr with
  | none => exact .inl ⟨rfl, by simp [famE, h]⟩
  | some g => exact .inr ⟨g, { g with fam := (τ g.fam).getD g.fam }, rfl, by simp [famE, h], rfl, rfl, rfl⟩
theorem renVars_get {r : Value → Option Value} : ∀ {l vs : List (Option Value)}, renVars r l = some vs → ∀ t, (nth l t = none ∧ nth vs t = none) ∨ (nth l t = some none ∧ nth vs t = some none) ∨ ∃ v u, nth l t = some (some v) ∧ nth vs t = some (some u) ∧ r v = some u := by
  intro l
  induction l with
  | nil => intro vs h t; injection h with h; subst h; exact .inl ⟨rfl, rfl⟩
  | cons a l ih =>
    intro vs h t
    cases a with
    | none =>
      unfold renVars at h
      split at h
      · rename_i s hs
        injection h with h; subst h
        cases t with
        | zero => exact .inr (.inl ⟨rfl, rfl⟩)
        | succ t => exact ih hs t
      · cases h
    | some v =>
      unfold renVars at h
      split at h
      · rename_i u s hu hs
        injection h with h; subst h
        cases t with
        | zero => exact .inr (.inr ⟨v, u, rfl, rfl, hu⟩)
        | succ t => exact ih hs t
      · cases h
theorem plainItems_rel {μ μ' : Mu} : ∀ {l : List AItem} {l' : List Item}, plainItems l = true → TodoRel μ l l' → TodoRel μ' l l' := by
  intro l
  induction l with
  | nil => intro l' _ h; rw [h.nil_left]; exact .nil
  | cons a l ih =>
    intro l' hp h
    obtain ⟨y, ys, rfl, h1, h2⟩ := h.cons_left
    cases h1 with
    | code c => exact .cons (.code c) (ih hp h2)
    | inBlock c => exact .cons (.inBlock c) (ih hp h2)
    | inLoop c => exact .cons (.inLoop c) (ih hp h2)
    | inScope c => exact .cons (.inScope c) (ih hp h2)
    | inRegion hi => exact .cons (.inRegion hi) (ih hp h2)
    | inRangeFunc => cases hp
    | endRangeFunc => cases hp
    | beginRound => cases hp
theorem renOO_ok {τ : Nat → Option Nat} {n : Nat} {fs : List Nat} {μ μ' : Mu} (hr : Along (fun k i => τ k = some i) μ μ') {B : Nat} {h : Array Obj} {e : Ent} {o o' : AObj} (ho : renOO τ (ren τ n) fs o = some o') (k : ORel μ B h e o) : ORel μ' B h (famE τ e) o' := by
  have hl : ∀ {xs ys : List Value}, renL (ren τ n) xs = some ys → ∀ {zs : List Value}, VsRel μ xs zs → VsRel μ' ys zs := fun hx _ hz => tak_list hr (renL_ok (fun _ _ => ren_ok n) hx).1 hz
  unfold renOO at ho
  split at ho
  · split at ho
    · rename_i ys hx
      injection ho with ho; subst ho
      obtain ⟨a, arr, t, fr, b, c, d⟩ := k
      exact ⟨by simp [famE, a], arr, t, fr, b, hl hx c, d⟩
    · cases ho
  · rename_i xs g
    split at ho
    · rename_i j ys h1 h2 hx
      split at ho
      · injection ho with ho; subst ho
        obtain ⟨a, b, arr, t, fr, c, d, f, i, j⟩ := k
        refine ⟨by simp [famE, a, h2], b, arr, t, fr, c, d, f, ?_, ?_⟩
        · have := (renL_ok (fun _ _ => ren_ok n) hx).1.1
          show e.dl + ys.length ≤ arr.size
          omega
        · intro m y hy
          obtain ⟨h1, h2⟩ := (renL_ok (fun _ _ => ren_ok n) hx).1
          have hm : m < xs.length := by rw [h1]; exact (List.getElem?_eq_some_iff.1 hy).1
          obtain ⟨z, hz1, hz2⟩ := j m _ (List.getElem?_eq_getElem hm)
          exact ⟨z, hz1, h2 m _ y (List.getElem?_eq_getElem hm) hy _ _ _ hr hz2⟩
      · cases ho
    · cases ho
  · split at ho
    · rename_i fs' hx
      injection ho with ho; subst ho
      obtain ⟨a, b, es', c, d⟩ := k
      exact ⟨by simp [famE, a], b, es', c, renE_ok hr hx d⟩
    · cases ho
  · cases ho
theorem renOO_grown {τ : Nat → Option Nat} {r : Value → Option Value} {fs : List Nat} {o : AObj} {xs : List Value} {g : Gr} (h : renOO τ r fs o = some (.cells xs (.grown g))) : ∃ ys g1, o = .cells ys (.grown g1) ∧ g1.fam ∈ fs ∧ τ g1.fam = some g.fam ∧ g.fam < 16000000 := by
  unfold renOO at h
  split at h
  · split at h <;> cases h
  · rename_i ys g1
    split at h
    · rename_i j zs h1 h2 hx
      split at h
      · rename_i h3
        injection h with h
        injection h with _ h
        injection h with h
        subst h
        exact ⟨ys, g1, rfl, mem_eq.1 h1, h2, blt_lt h3⟩
      · cases h
    · cases h
  · split at h <;> cases h
  · cases h

theorem renS_ok {tbl : List (Nat × Nat)} {keep fs : List Nat} {s s' : ASt} (hT : ∀ b, T.anc b = none) (h : renS T.nglob tbl keep fs s = some s') {B : Nat} {μ : Mu} {fr' : Frame} {cs' : List Frame} {w : World} (hs : SRel T B μ s fr' cs' w) :
    ∃ μ', SRel T B μ' s' fr' cs' w := by
  unfold renS at h
  split at h
  case h_2 => cases h
  rename_i fn nt vars over todo kind A
  split at h
  case h_2 => cases h
  rename_i vs ov hp c1 c2 c3 c4 c5
  injection h with h
  subst h
  obtain ⟨R, G, lo, hlo, hf, hst⟩ := hs
  have hμ : ∃ μ' : Mu, (∀ k i, tauT tbl k = some i → μ' i = (μ k).map (famE (tauT tbl))) ∧ ∀ i e, μ' i = some e → ∃ k e1, tauT tbl k = some i ∧ μ k = some e1 ∧ e = famE (tauT tbl) e1 := by
    classical
    refine ⟨fun i => if hx : ∃ k, tauT tbl k = some i then (μ hx.choose).map (famE (tauT tbl)) else none, fun k i hk => ?_, fun i e he => ?_⟩
    · have hx : ∃ k, tauT tbl k = some i := ⟨k, hk⟩
      simp only [dif_pos hx]
      rw [tauT_inj c1 hx.choose_spec hk]
    · by_cases hx : ∃ k, tauT tbl k = some i
      · simp only [dif_pos hx] at he
        cases h1 : μ hx.choose with
        | none => rw [h1] at he; cases he
        | some e1 => rw [h1] at he; injection he with he; exact ⟨_, e1, hx.choose_spec, h1, he.symm⟩
      · simp only [dif_neg hx] at he
        cases he
  obtain ⟨μ', m1, m2⟩ := hμ
  have al : Along (fun k i => tauT tbl k = some i) μ μ' := fun k i e hk he => ⟨famE (tauT tbl) e, by rw [m1 k i hk, he]; rfl, famE_eq _ _⟩
  have famlt : ∀ {f : Nat}, f < A.next → (tauT tbl f).getD f < A.next := by
    intro f hf
    cases ht : tauT tbl f with
    | none => exact hf
    | some j => exact tauT_lt c1 ht hf
  refine ⟨μ', ⟨R.base, ?_, ?_, ?_, ?_, ?_⟩, ⟨fun g hg => ?_, fun b e hb => by rw [hT b] at hb; cases hb⟩, lo, hlo, ?_, ?_⟩
  · intro i o' e ho he
    obtain ⟨k, o, h1, h2, h3⟩ := heapR_get c5 ho
    rw [m1 k i h1] at he
    cases hk : μ k with
    | none => rw [hk] at he; cases he
    | some e1 =>
      rw [hk] at he; injection he with he; subst he
      exact renOO_ok al h3 (R.obj k o e1 h2 hk)
  · intro i e he
    obtain ⟨k, e1, h1, h2, rfl⟩ := m2 i e he
    obtain ⟨d1, d2, d3, d4⟩ := R.dom k e1 h2
    refine ⟨tauT_lt c1 h1 d1, d2, fun hn => d3 ?_, fun g hg => ?_⟩
    · cases hx : e1.gr with
      | none => rfl
      | some g => simp [famE, hx] at hn
    · cases hx : e1.gr with
      | none => simp [famE, hx] at hg
      | some g1 => simp [famE, hx] at hg; subst hg; exact famlt (d4 g1 hx)
  · intro i i' e e' he he' hb
    obtain ⟨k, e1, h1, h2, rfl⟩ := m2 i e he
    obtain ⟨k', e1', h1', h2', rfl⟩ := m2 i' e' he'
    rcases R.sep k k' e1 e1' h2 h2' hb with hk | ⟨g, g', x1, x2, x3, x4⟩
    · subst hk; rw [h1] at h1'; injection h1' with h1'; exact .inl h1'
    · exact .inr ⟨{ g with fam := (tauT tbl g.fam).getD g.fam }, { g' with fam := (tauT tbl g'.fam).getD g'.fam }, by simp [famE, x1], by simp [famE, x2], by simp [x3], x4⟩
  · intro i xs g ho
    obtain ⟨k, o, h1, h2, h3⟩ := heapR_get c5 ho
    obtain ⟨ys, g1, rfl, h4, h5, h6⟩ := renOO_grown h3
    obtain ⟨l1, l, l2, l3⟩ := R.memb k ys g1 h2
    exact ⟨tauT_lt c1 h5 l1, _, famR_get (tauT_inj c1) h4 h5 h6 l2, lmap_mem h1 l3⟩
  · intro i o' ho
    obtain ⟨k, o, h1, h2, h3⟩ := heapR_get c5 ho
    exact tauT_lt c1 h1 (R.live k o h2)
  · rw [m1 g g (tauT_low c1 hg), G.1 g hg]; rfl
  · cases hf with
    | draw core run e1 e2 e3 e4 =>
      have e1 : todo = _ := e1
      subst e1
      cases c2
    | plain hpl =>
      have hround : fr'.roundOf = none := by
        have := hpl.core.round
        generalize fr'.roundOf = x at this
        cases this; rfl
      have hdef : fr'.defers = [] := hpl.core.defers.nil_left
      have hmode : fr'.mode = .run := by
        have := hpl.core.mode
        generalize fr'.mode = x at this
        cases this; rfl
      refine .plain ⟨⟨hpl.core.fn, hpl.core.kind, by rw [hround]; exact .none, by rw [hdef]; exact .nil, by rw [hmode]; exact .run⟩, ⟨hpl.tm.1, fun t u hu => ?_⟩, fun _ => plainItems_rel c2 (hpl.todo rfl)⟩
      have key : ∃ v, tget vars over t = some v ∧ ren (tauT tbl) 4 v = some u := by
        have hu : tget vs ov t = some u := hu
        unfold tget at hu ⊢
        rcases renVars_get c3 t with ⟨a, b⟩ | ⟨a, b⟩ | ⟨v, x, a, b, c⟩
        · rw [b] at hu
          rw [a]
          exact renA_ok c4 hu
        · rw [b] at hu; cases hu
        · rw [b] at hu
          rw [a]
          injection hu with hu; subst hu
          exact ⟨v, rfl, c⟩
      obtain ⟨v, hv1, hv2⟩ := key
      obtain ⟨v', h3, h4⟩ := hpl.tm.2 t v hv1
      exact ⟨v', h3, (ren_ok 4 hv2).1 _ _ _ al h4⟩
  · cases hst; exact .nil _

inductive Meets (T : Tab) (s' : ASt) : ASt → Prop
  | leaf {s : ASt} (tbl : List (Nat × Nat)) (keep fs : List Nat) (nx : Nat) (ns keep2 fs2 : List Nat) (h : renS T.nglob tbl keep2 fs2 (gcS keep fs nx (aruns T ns s)) = some s') : Meets T s' s
  | same {s : ASt} (keep fs : List Nat) (nx : Nat) (ns : List Nat) (h : gcS keep fs nx (aruns T ns s) = s') : Meets T s' s
  | node {s : ASt} (ns : List Nat) (n : Nat) (h : altN (fstep T (aruns T ns s)) = n) (hn : n ≠ 0) (k : ∀ i, i < n → Meets T s' (altOf (fstep T (aruns T ns s)) i (aruns T ns s))) : Meets T s' s
def AltAll (Q : Nat → Prop) : Nat → Nat → Prop
  | 0, _ => True
  | n + 1, i => Q i ∧ AltAll Q n (i + 1)
theorem AltAll.of {Q : Nat → Prop} : ∀ {n j : Nat}, AltAll Q n j → ∀ i, j ≤ i → i < j + n → Q i := by
  intro n
  induction n with
  | zero => intro j _ i h1 h2; omega
  | succ n ih =>
    intro j h i h1 h2
    obtain ⟨a, b⟩ := h
    by_cases e : i = j
    · subst e; exact a
    · exact ih b i (by omega) (by omega)
theorem Meets.nodes {s s' : ASt} (ns : List Nat) (n : Nat) (h : altN (fstep T (aruns T ns s)) = Nat.succ n) (k : AltAll (fun i => Meets T s' (altOf (fstep T (aruns T ns s)) i (aruns T ns s))) (Nat.succ n) 0) : Meets T s' s :=
  .node ns (Nat.succ n) h (Nat.succ_ne_zero n) fun i hi => k.of i (Nat.zero_le i) (by omega)

theorem nth_mem {α : Type} {l : List α} {x : α} (h : x ∈ l) : ∃ i, i < len l ∧ nth l i = some x := by
  induction l with
  | nil => cases h
  | cons a l ih =>
    rcases List.mem_cons.1 h with rfl | h
    · exact ⟨0, Nat.zero_lt_succ _, rfl⟩
    · obtain ⟨i, h1, h2⟩ := ih h
      exact ⟨i + 1, Nat.succ_lt_succ h1, h2⟩
theorem Meets.fin {f : FuncId} {v : Value} {s s' : ASt} (hT : ∀ b, T.anc b = none) (h : Meets T s' s) (k : Fin T f v s') : Fin T f v s := by
  induction h with
  | leaf tbl keep fs nx ns keep2 fs2 h => exact .runs ns keep fs nx rfl (.ren (fun hs => renS_ok hT h hs) k)
  | same keep fs nx ns h => exact .runs ns keep fs nx h k
  | @node s ns n h hn _ ih =>
    refine .bare ns ?_
    cases ho : fstep T (aruns T ns s) with
    | branch l =>
      refine .branch ho fun x hx => ?_
      obtain ⟨i, h1, h2⟩ := nth_mem hx
      have hl : len l = n := by rw [ho] at h; exact h
      have := ih i (by omega)
      rw [ho] at this
      have e : altOf (.branch l) i (aruns T ns s) = x := by
        show (match nth l i with | some s' => s' | none => aruns T ns s) = x
        rw [h2]
      rw [e] at this
      exact this
    | _ => rw [ho] at h; exact absurd h.symm hn
end

section
def subC (c : Code) (i : Nat) : Code :=
  match c with
  | .seq a b => (match i with | 0 => a | _ + 1 => b)
  | .cond _ a b => (match i with | 0 => a | _ + 1 => b)
  | .rangeFunc _ _ a b => (match i with | 0 => a | _ + 1 => b)
  | .block _ b => b
  | .loop b => b
  | .scope b => b
  | c => c
def codeAt (c : Code) (p : List Nat) : Code := match p with | [] => c | i :: r => codeAt (subC c i) r
def bodyOf (P : Program) (f : Nat) : Code := match P.funcs[f]? with | some fn => (match fn.body with | some b => b | none => .skip) | none => .skip
def opsOf (c : Code) : Array Oper := match c with | .region _ ops _ => ops | _ => #[]
noncomputable def iR (c : Code) (i : Nat) : AItem := .inRegion (opsOf c) (dropN (opsOf c).toList i)
def iD (c : Code) (t : Nat) (V : List (Nat × Value)) (base : Nat) : AItem := .inDraw (opsOf c) t V base
def keys {α : Type} (l : List (Nat × α)) : List Nat := match l with | [] => [] | p :: r => p.1 :: keys r

def vt : Value := .bool true
def vf : Value := .bool false
def vi (n : Nat) : Value := .int .i64 (.ofNat n)
def vb (n : Nat) : Value := .int .u8 (.ofNat n)
def vu (n : Nat) : Value := .int .u64 (.ofNat n)
def bytesOf (l : List Nat) : List UInt8 := match l with | [] => [] | b :: r => UInt8.ofNat b :: bytesOf r
def vs (l : List Nat) : Value := .string ⟨⟨bytesOf l⟩⟩
def vp : Value := .pointer none
def va (b o : Nat) : Value := .pointer (some ⟨b, o, none⟩)
def vx : Value := .float .f64 0
def vm (b n : Nat) : Value := .slice (some ⟨b, 0, none⟩) n n
def sm (b n : Nat) : Option Value := some (.slice (some ⟨b, 0, none⟩) n n)
def vn : Value := .slice none 0 0
def vl (b o l c : Nat) : Value := .slice (some ⟨b, o, none⟩) l c
def vz : Value := .nilIface
def vg (l : List Value) : Value := .agg ⟨l⟩
def vq (l : List Value) : Value := .tuple ⟨l⟩
def no : Option Value := none
def so (v : Value) : Option Value := some v
def si (n : Nat) : Option Value := some (.int .i64 (.ofNat n))
def st : Option Value := some (.bool true)
def sf : Option Value := some (.bool false)
def sa (b o : Nat) : Option Value := some (.pointer (some ⟨b, o, none⟩))
def sl (b o l c : Nat) : Option Value := some (.slice (some ⟨b, o, none⟩) l c)
def cellsOf (o : AObj) : List Value := match o with | .cells l _ => l | _ => []
def vbl (l : List Nat) : List Value := match l with | [] => [] | n :: r => vb n :: vbl r
def ob (l : List Value) : AObj := .cells l (.fixed false)
def og (l : List Value) (e f b t : Nat) : AObj := .cells l (.grown ⟨e, f, b, t⟩)

def vw (n : Nat) : Value := .int .u32 (.ofNat n)
def tu (l : List Nat) : List Value := match l with | [] => [] | n :: r => vu n :: tu r
def tw (l : List Nat) : List Value := match l with | [] => [] | n :: r => vw n :: tw r
def zrv (n : Nat) (x : Value) : List Value := Nat.rec (motive := fun _ => List Value) [] (fun _ r => x :: r) n
def tv1 (n : Nat) : Value := match n with | 0 => vf | 1 => vt | n + 2 => vi n
def tv (l : List Nat) : List Value := match l with | [] => [] | n :: r => tv1 n :: tv r
def to1 (n : Nat) : Option Value := match n with | 0 => none | 1 => sf | 2 => st | n + 3 => si n
def to (l : List Nat) : List (Option Value) := match l with | [] => [] | n :: r => to1 n :: to r
def tl (n : Nat) (l : List Nat) : List Value := match l with | [] => [] | b :: r => vm b n :: tl n r
def zrp (n x : Nat) : List Nat := Nat.rec (motive := fun _ => List Nat) [] (fun _ r => x :: r) n
def zF (fn nt : Nat) (vars : List (Option Value)) (over : List (Nat × Value)) (todo : List AItem) : AFrame := ⟨fn, nt, vars, over, todo, [], .run, .normal, none⟩
abbrev LH := List (Nat × AObj)
abbrev LG := List (Nat × List Nat)
abbrev LF := List AFrame
noncomputable def rmv {α : Type} (l : List (Nat × α)) : List Nat → List (Nat × α) :=
  List.rec (motive := fun _ => List Nat → List (Nat × α)) (fun _ => [])
    (fun p _ ih rs => List.rec (motive := fun _ => List (Nat × α)) (p :: ih []) (fun r rs' _ => Bool.rec (motive := fun _ => List (Nat × α)) (p :: ih rs) (ih rs') (Nat.beq p.1 r)) rs) l
noncomputable def opAt (c : Code) (i : Nat) : Oper := match dropN (opsOf c).toList i with | o :: _ => o | [] => default
noncomputable def sg (l : List (Option Value)) : Nat → Option Value := fun j => match nth l j with | some o => o | none => none
end

end Go.Proofs.YthcadcdfoenclaaGreatDoor.Sim
